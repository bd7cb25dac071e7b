import PyProof.Rows.All
import Wide.All
import OpenK.AllK
import Wide.FinOn
import HandS.ForMost
import HandS.ForExc
import HandS.IsInst
import HandS.TupAny
import HandS.Wide
import HandS.Zip
import HandS.Style
import HandS.SortInts
import HandS.SortRule
import HandS.SetFor
import HandS.More
import HandS.TupLe
import HandS.Small
import HandS.ListItems
import KE.GoesEnumKw
import KE.KDictSum
import HandS.Walk
import HandS.ReSub
import KE.KExcSuper
import HandS.Deep
import PySem.Challenge.RW_tasksapart_k13_whole_pages_as_one_flat_m
set_option Elab.async false
set_option linter.all false
set_option maxRecDepth 100000
set_option maxHeartbeats 4000000
/-! The data layer: frozen data F inside a heap H, what a step keeps, and steps of readings over data. -/
namespace DL
open PySem PySem.Spec PyProof.Rows L2

/-! ### frozen heaps -/
theorem same_lst {K : PySem.W.Frag} {F F' : Hp} {a : Addr} {xs : List V} (e : Same F F') (h : SqL K F a xs) : SqL K F' a xs := Same.seq e h
theorem same_rd {F F' : Hp} {a : Addr} {u : HO} (e : Same F F') (h : Rd F a u) : Rd F' a u := by
  rcases h with h | ⟨o, h⟩
  · exact .inl (e _ _ h)
  · exact .inr ⟨o, e _ _ h⟩
theorem same_tup {K : PySem.W.Frag} {F F' : Hp} {a : Addr} {xs : List V} (e : Same F F') (h : SqT K F a xs) : SqT K F' a xs := by
  rcases h with h | h
  · exact .inl (same_rd e h)
  · exact .inr h
mutual
theorem dp_mono {K : PySem.W.Frag} {F F' : Hp} (e : Same F F') : ∀ {v : V} (d : PyData), Dp K F v d → Dp K F' v d
  | _, .none, h => by cases h; exact .non
  | _, .bool b, h => by cases h; exact .bl b
  | _, .int i, h => by cases h; exact .int i
  | _, .str x, h => by cases h; exact .str x
  | _, .list ds, h => by
    cases h with
    | lst hs ha => exact .lst (same_lst e hs) (dps_mono e ds ha)
  | _, .tuple ds, h => by
    cases h with
    | tup hs ha => exact .tup (same_tup e hs) (dps_mono e ds ha)
  | _, .dict _, h => by cases h
theorem dps_mono {K : PySem.W.Frag} {F F' : Hp} (e : Same F F') : ∀ {vs : List V} (ds : List PyData), DpAll K F vs ds → DpAll K F' vs ds
  | _, [], h => by cases h; exact .nil
  | _, d :: ds, h => by
    cases h with
    | cons h1 h2 => exact .cons (dp_mono e d h1) (dps_mono e ds h2)
end
theorem _root_.L2.Dp.to {K : PySem.W.Frag} {F F' : Hp} {v : V} {d : PyData} (h : Dp K F v d) (e : Same F F') : Dp K F' v d := dp_mono e d h
theorem _root_.L2.DpAll.to {K : PySem.W.Frag} {F F' : Hp} {vs : List V} {ds : List PyData} (h : DpAll K F vs ds) (e : Same F F') : DpAll K F' vs ds := dps_mono e ds h

/-- what a stretch of code keeps: the frozen part grows, all but the objects at W stands, the frozen part stays within the heap and away from what it was away from -/
structure Gr (W : List Addr) (F H F' H' : Hp) : Prop where
  fs : Same F F'
  hs : ∀ b o, b ∉ W → H b = some o → H' b = some o
  sub : Same F' H'
  own : ∀ b, F b = none → H b ≠ none → F' b = none
  live : ∀ b, H b ≠ none → H' b ≠ none
theorem Gr.refl {W : List Addr} {F H : Hp} (h : Same F H) : Gr W F H F H := ⟨Same.refl F, fun _ _ _ h => h, h, fun _ h _ => h, fun _ h => h⟩
theorem Gr.trans {W : List Addr} {F H F1 H1 F2 H2 : Hp} (a : Gr W F H F1 H1) (b : Gr W F1 H1 F2 H2) : Gr W F H F2 H2 :=
  ⟨a.fs.trans b.fs, fun c o n h => b.hs c o n (a.hs c o n h), b.sub, fun c h1 h2 => b.own c (a.own c h1 h2) (a.live c h2), fun c h => b.live c (a.live c h)⟩
theorem Gr.mono {W W' : List Addr} {F H F1 H1 : Hp} (a : Gr W F H F1 H1) (h : ∀ b ∈ W, b ∈ W') : Gr W' F H F1 H1 :=
  ⟨a.fs, fun c o n q => a.hs c o (fun z => n (h c z)) q, a.sub, a.own, a.live⟩
theorem Gr.any {W : List Addr} {F H F1 H1 : Hp} (a : Gr [] F H F1 H1) : Gr W F H F1 H1 := a.mono fun _ h => nomatch h
/-- a fact about an owned object behind a step that does not write it -/
theorem Gr.at {W : List Addr} {F H F' H' : Hp} (g : Gr W F H F' H') {b : Addr} {o : HO} (n : b ∉ W) (h : H b = some o) : H' b = some o := g.hs b o n h
theorem Gr.at0 {F H F' H' : Hp} (g : Gr [] F H F' H') {b : Addr} {o : HO} (h : H b = some o) : H' b = some o := g.hs b o (fun z => nomatch z) h
theorem Gr.off {W : List Addr} {F H F' H' : Hp} (g : Gr W F H F' H') {b : Addr} {o : HO} (n : F b = none) (h : H b = some o) : F' b = none := g.own b n (by rw [h]; exact fun z => nomatch z)
theorem Gr.same {F H F' H' : Hp} (g : Gr [] F H F' H') : Same H H' := fun b o h => g.at0 h
/-- fresh behind is fresh ahead -/
theorem Gr.free {W : List Addr} {F H F' H' : Hp} (g : Gr W F H F' H') {p : Addr} (h : H' p = none) : H p = none := by
  cases e : H p with
  | none => rfl
  | some o => exact absurd h (g.live p (by rw [e]; exact fun z => nomatch z))
theorem sub_free {F H : Hp} (s : Same F H) {p : Addr} (h : H p = none) : F p = none := by
  cases e : F p with
  | none => rfl
  | some o => rw [s p o e] at h; cases h
/-- a new frozen object -/
theorem Gr.new {W : List Addr} {F H : Hp} {p : Addr} {o : HO} (s : Same F H) (h : H p = none) : Gr W F H (upd F p o) (upd H p o) := by
  have hF := sub_free s h
  refine ⟨fun b u e => ?_, fun b u _ e => ?_, fun b u e => ?_, fun b e1 e2 => ?_, fun b e => ?_⟩
  · rw [upd_ne (ne_of_none e hF)]; exact e
  · rw [upd_ne (ne_of_none e h)]; exact e
  · by_cases hb : b = p
    · subst hb; rw [upd_same] at e ⊢; exact e
    · rw [upd_ne hb] at e ⊢; exact s b u e
  · by_cases hb : b = p
    · subst hb; exact absurd h e2
    · rw [upd_ne hb]; exact e1
  · by_cases hb : b = p
    · subst hb; rw [upd_same]; exact fun z => nomatch z
    · rw [upd_ne hb]; exact e
/-- a new owned object -/
theorem Gr.newOwn {W : List Addr} {F H : Hp} {p : Addr} {o : HO} (s : Same F H) (h : H p = none) : Gr W F H F (upd H p o) := by
  have hF := sub_free s h
  refine ⟨Same.refl F, fun b u _ e => ?_, fun b u e => ?_, fun b e1 _ => e1, fun b e => ?_⟩
  · rw [upd_ne (ne_of_none e h)]; exact e
  · rw [upd_ne (ne_of_none e hF)]; exact s b u e
  · by_cases hb : b = p
    · subst hb; rw [upd_same]; exact fun z => nomatch z
    · rw [upd_ne hb]; exact e
/-- an owned object is written -/
theorem Gr.write {W : List Addr} {F H : Hp} {p : Addr} {o : HO} (s : Same F H) (hF : F p = none) (hp : p ∈ W) : Gr W F H F (upd H p o) := by
  refine ⟨Same.refl F, fun b u n e => ?_, fun b u e => ?_, fun b e1 _ => e1, fun b e => ?_⟩
  · rw [upd_ne (fun z => n (by rw [z]; exact hp))]; exact e
  · rw [upd_ne (ne_of_none e hF)]; exact s b u e
  · by_cases hb : b = p
    · subst hb; rw [upd_same]; exact fun z => nomatch z
    · rw [upd_ne hb]; exact e
/-- an owned object becomes frozen data -/
theorem Gr.freeze {W : List Addr} {F H : Hp} {p : Addr} {o : HO} (s : Same F H) (hF : F p = none) (h : H p = some o) : Same F (upd F p o) ∧ Same (upd F p o) H := by
  refine ⟨fun b u e => ?_, fun b u e => ?_⟩
  · rw [upd_ne (ne_of_none e hF)]; exact e
  · by_cases hb : b = p
    · subst hb; rw [upd_same] at e; rw [h]; exact e
    · rw [upd_ne hb] at e; exact s b u e

/-! ### data of values -/
theorem dp_len {K : PySem.W.Frag} {F : Hp} : ∀ {vs : List V} {ds : List PyData}, DpAll K F vs ds → vs.length = ds.length
  | _, [], h => by cases h; rfl
  | _, d :: ds, h => by
    cases h with
    | cons h1 h2 => simp [dp_len h2]
theorem dp_get {K : PySem.W.Frag} {F : Hp} : ∀ {vs : List V} {ds : List PyData} {i : Nat} {d : PyData}, DpAll K F vs ds → ds[i]? = some d → ∃ v, vs[i]? = some v ∧ Dp K F v d
  | _, [], i, d, h, e => by simp at e
  | _, d' :: ds, 0, d, h, e => by
    cases h with
    | cons h1 h2 => simp at e; subst e; exact ⟨_, rfl, h1⟩
  | _, d' :: ds, i + 1, d, h, e => by
    cases h with
    | cons h1 h2 =>
      obtain ⟨v, h3, h4⟩ := dp_get h2 (i := i) (by simpa using e)
      exact ⟨v, by simpa using h3, h4⟩
theorem dp_getV {K : PySem.W.Frag} {F : Hp} : ∀ {vs : List V} {ds : List PyData} {i : Nat} {v : V}, DpAll K F vs ds → vs[i]? = some v → ∃ d, ds[i]? = some d ∧ Dp K F v d
  | _, [], i, v, h, e => by cases h; simp at e
  | _, d' :: ds, 0, v, h, e => by
    cases h with
    | cons h1 h2 => simp at e; subst e; exact ⟨_, rfl, h1⟩
  | _, d' :: ds, i + 1, v, h, e => by
    cases h with
    | cons h1 h2 =>
      obtain ⟨d, h3, h4⟩ := dp_getV h2 (i := i) (v := v) (by simpa using e)
      exact ⟨d, by simpa using h3, h4⟩
theorem dp_app {K : PySem.W.Frag} {F : Hp} : ∀ {vs ws : List V} {ds es : List PyData}, DpAll K F vs ds → DpAll K F ws es → DpAll K F (vs ++ ws) (ds ++ es)
  | _, _, [], _, h, q => by cases h; exact q
  | _, _, d :: ds, _, h, q => by
    cases h with
    | cons h1 h2 => exact .cons h1 (dp_app h2 q)
theorem dp_take {K : PySem.W.Frag} {F : Hp} : ∀ (n : Nat) {vs : List V} {ds : List PyData}, DpAll K F vs ds → DpAll K F (vs.take n) (ds.take n)
  | 0, _, _, _ => by rw [List.take_zero, List.take_zero]; exact .nil
  | n + 1, _, [], h => by cases h; exact .nil
  | n + 1, _, d :: ds, h => by
    cases h with
    | cons h1 h2 => exact .cons h1 (dp_take n h2)
theorem dp_drop {K : PySem.W.Frag} {F : Hp} : ∀ (n : Nat) {vs : List V} {ds : List PyData}, DpAll K F vs ds → DpAll K F (vs.drop n) (ds.drop n)
  | 0, _, _, h => h
  | n + 1, _, [], h => by cases h; exact .nil
  | n + 1, _, d :: ds, h => by
    cases h with
    | cons h1 h2 => exact dp_drop n h2
theorem dp_ints {K : PySem.W.Frag} {F : Hp} : ∀ (ns : List Int), DpAll K F (ns.map V.int) (ns.map PyData.int)
  | [] => .nil
  | n :: ns => .cons (.int n) (dp_ints ns)
theorem dp_ints_inv {K : PySem.W.Frag} {F : Hp} : ∀ {vs : List V} {ns : List Int}, DpAll K F vs (ns.map PyData.int) → vs = ns.map V.int
  | _, [], h => by cases h; rfl
  | _, n :: ns, h => by
    cases h with
    | cons h1 h2 => cases h1; rw [dp_ints_inv h2]; rfl
theorem dp_bls_inv {K : PySem.W.Frag} {F : Hp} : ∀ {vs : List V} {ns : List Bool}, DpAll K F vs (ns.map PyData.bool) → vs = ns.map V.bl
  | _, [], h => by cases h; rfl
  | _, n :: ns, h => by
    cases h with
    | cons h1 h2 => cases h1; rw [dp_bls_inv h2]; rfl
theorem dp_list {K : PySem.W.Frag} {F : Hp} {v : V} {ds : List PyData} (h : Dp K F v (.list ds)) : ∃ a xs, v = .ref a ∧ SqL K F a xs ∧ DpAll K F xs ds := by
  cases h with
  | lst h1 h2 => exact ⟨_, _, rfl, h1, h2⟩
theorem dp_tuple {K : PySem.W.Frag} {F : Hp} {v : V} {ds : List PyData} (h : Dp K F v (.tuple ds)) : ∃ a xs, v = .ref a ∧ SqT K F a xs ∧ DpAll K F xs ds := by
  cases h with
  | tup h1 h2 => exact ⟨_, _, rfl, h1, h2⟩
theorem dp_int {K : PySem.W.Frag} {F : Hp} {v : V} {i : Int} (h : Dp K F v (.int i)) : v = .int i := by cases h; rfl
theorem dp_bool {K : PySem.W.Frag} {F : Hp} {v : V} {i : Bool} (h : Dp K F v (.bool i)) : v = .bl i := by cases h; rfl
theorem dp_str {K : PySem.W.Frag} {F : Hp} {v : V} {i : Str} (h : Dp K F v (.str i)) : v = .str i := by cases h; rfl
theorem dp_none {K : PySem.W.Frag} {F : Hp} {v : V} (h : Dp K F v .none) : v = .non := by cases h; rfl

/-! ### new data -/
variable {K : PySem.W.Frag}
theorem new_tup {F H : Hp} {xs : List V} {ds : List PyData} {Q : VK} (s : Same F H) (h : DpAll K F xs ds) (hl : xs.length ≤ sizeLine)
    (k : ∀ p F' H', Gr [] F H F' H' → H p = none → Dp K F' (.ref p) (.tuple ds) → Q (.ref p) H') : xs.length ≤ sizeLine ∧ ∀ p, H p = none → Q (.ref p) (upd H p (.tup xs)) :=
  ⟨hl, fun p hp => by
    have g : Gr [] F H (upd F p (.tup xs)) (upd H p (.tup xs)) := Gr.new s hp
    exact k p _ _ g hp (.tup (.inl (.inl upd_same)) (DpAll.to h g.fs))⟩
theorem new_lst {F H : Hp} {xs : List V} {ds : List PyData} {Q : VK} (s : Same F H) (h : DpAll K F xs ds) (hl : xs.length ≤ sizeLine)
    (k : ∀ p F' H', Gr [] F H F' H' → H p = none → Dp K F' (.ref p) (.list ds) → Q (.ref p) H') : xs.length ≤ sizeLine ∧ ∀ p, H p = none → Q (.ref p) (upd H p (.lst xs)) :=
  ⟨hl, fun p hp => by
    have g : Gr [] F H (upd F p (.lst xs)) (upd H p (.lst xs)) := Gr.new s hp
    exact k p _ _ g hp (.lst (.inl (.inl upd_same)) (DpAll.to h g.fs))⟩
/-- the same where the length is already told -/
theorem made_lst {F H : Hp} {xs : List V} {ds : List PyData} {Q : VK} (s : Same F H) (h : DpAll K F xs ds)
    (k : ∀ p F' H', Gr [] F H F' H' → H p = none → Dp K F' (.ref p) (.list ds) → Q (.ref p) H') : ∀ p, H p = none → Q (.ref p) (upd H p (.lst xs)) := fun p hp => by
  have g : Gr [] F H (upd F p (.lst xs)) (upd H p (.lst xs)) := Gr.new s hp
  exact k p _ _ g hp (.lst (.inl (.inl upd_same)) (DpAll.to h g.fs))
theorem made_tup {F H : Hp} {xs : List V} {ds : List PyData} {Q : VK} (s : Same F H) (h : DpAll K F xs ds)
    (k : ∀ p F' H', Gr [] F H F' H' → H p = none → Dp K F' (.ref p) (.tuple ds) → Q (.ref p) H') : ∀ p, H p = none → Q (.ref p) (upd H p (.tup xs)) := fun p hp => by
  have g : Gr [] F H (upd F p (.tup xs)) (upd H p (.tup xs)) := Gr.new s hp
  exact k p _ _ g hp (.tup (.inl (.inl upd_same)) (DpAll.to h g.fs))
/-- a list that the code goes on to change: it is not frozen -/
theorem own_lst {F H : Hp} {xs : List V} {Q : VK} (s : Same F H) (hl : xs.length ≤ sizeLine)
    (k : ∀ p H', Gr [] F H F H' → H p = none → F p = none → H' p = some (.lst xs) → Q (.ref p) H') : xs.length ≤ sizeLine ∧ ∀ p, H p = none → Q (.ref p) (upd H p (.lst xs)) :=
  ⟨hl, fun p hp => k p _ (Gr.newOwn s hp) hp (sub_free s hp) upd_same⟩

/-! the same, whatever is asked behind -/
theorem new_tupG {F H : Hp} {xs : List V} {ds : List PyData} {G : Addr → Prop} (s : Same F H) (h : DpAll K F xs ds) (hl : xs.length ≤ sizeLine)
    (k : ∀ p F', Gr [] F H F' (upd H p (.tup xs)) → H p = none → Dp K F' (.ref p) (.tuple ds) → G p) : xs.length ≤ sizeLine ∧ ∀ p, H p = none → G p :=
  ⟨hl, fun p hp => by
    have g : Gr [] F H (upd F p (.tup xs)) (upd H p (.tup xs)) := Gr.new s hp
    exact k p _ g hp (.tup (.inl (.inl upd_same)) (DpAll.to h g.fs))⟩
theorem new_lstG {F H : Hp} {xs : List V} {ds : List PyData} {G : Addr → Prop} (s : Same F H) (h : DpAll K F xs ds) (hl : xs.length ≤ sizeLine)
    (k : ∀ p F', Gr [] F H F' (upd H p (.lst xs)) → H p = none → Dp K F' (.ref p) (.list ds) → G p) : xs.length ≤ sizeLine ∧ ∀ p, H p = none → G p :=
  ⟨hl, fun p hp => by
    have g : Gr [] F H (upd F p (.lst xs)) (upd H p (.lst xs)) := Gr.new s hp
    exact k p _ g hp (.lst (.inl (.inl upd_same)) (DpAll.to h g.fs))⟩
theorem made_lstG {F H : Hp} {xs : List V} {ds : List PyData} {G : Addr → Prop} (s : Same F H) (h : DpAll K F xs ds)
    (k : ∀ p F', Gr [] F H F' (upd H p (.lst xs)) → H p = none → Dp K F' (.ref p) (.list ds) → G p) : ∀ p, H p = none → G p := fun p hp => by
  have g : Gr [] F H (upd F p (.lst xs)) (upd H p (.lst xs)) := Gr.new s hp
  exact k p _ g hp (.lst (.inl (.inl upd_same)) (DpAll.to h g.fs))
theorem made_tupG {F H : Hp} {xs : List V} {ds : List PyData} {G : Addr → Prop} (s : Same F H) (h : DpAll K F xs ds)
    (k : ∀ p F', Gr [] F H F' (upd H p (.tup xs)) → H p = none → Dp K F' (.ref p) (.tuple ds) → G p) : ∀ p, H p = none → G p := fun p hp => by
  have g : Gr [] F H (upd F p (.tup xs)) (upd H p (.tup xs)) := Gr.new s hp
  exact k p _ g hp (.tup (.inl (.inl upd_same)) (DpAll.to h g.fs))
theorem own_lstG {F H : Hp} {xs : List V} {G : Addr → Prop} (s : Same F H) (hl : xs.length ≤ sizeLine)
    (k : ∀ p, Gr [] F H F (upd H p (.lst xs)) → H p = none → F p = none → upd H p (.lst xs) p = some (.lst xs) → G p) : xs.length ≤ sizeLine ∧ ∀ p, H p = none → G p :=
  ⟨hl, fun p hp => k p (Gr.newOwn s hp) hp (sub_free s hp) upd_same⟩
theorem mine_lstG {F H : Hp} {xs : List V} {G : Addr → Prop} (s : Same F H)
    (k : ∀ p, Gr [] F H F (upd H p (.lst xs)) → H p = none → F p = none → upd H p (.lst xs) p = some (.lst xs) → G p) : ∀ p, H p = none → G p :=
  fun p hp => k p (Gr.newOwn s hp) hp (sub_free s hp) upd_same

/-! ### isinstance of data -/
def isInt : PyData → Bool
  | .int _ => true | .bool _ => true | _ => false
def isBool : PyData → Bool
  | .bool _ => true | _ => false
def isStr : PyData → Bool
  | .str _ => true | _ => false
def isTup : PyData → Bool
  | .tuple _ => true | _ => false
def isLst : PyData → Bool
  | .list _ => true | _ => false
def tyN : PyData → String
  | .none => "NoneType" | .bool _ => "bool" | .int _ => "int" | .str _ => "str" | .list _ => "list" | .tuple _ => "tuple" | .dict _ => "dict"
theorem tyx_of {F H : Hp} {v : V} {d : PyData} (h : Dp K F v d) (s : Same F H) : TyX K H v (.type (tyN d)) := by
  cases h with
  | non => exact .base .non
  | bl b => exact .base (.bl b)
  | int i => exact .base (.int i)
  | str x => exact .base (.str x)
  | lst h1 h2 =>
    rcases h1 with (h1 | ⟨o, h1⟩) | ⟨o, its, n, h1, h2, _⟩
    · exact .base (.lst (s _ _ h1))
    · exact .base (.frz (s _ _ h1))
    · exact .kList h1 h2
  | tup h1 h2 =>
    rcases h1 with (h1 | ⟨o, h1⟩) | ⟨o, its, n, h1, h2, _⟩
    · exact .base (.tup (s _ _ h1))
    · exact .fTuple (s _ _ h1)
    · exact .kTuple h1 h2
theorem isi_int {F H : Hp} {v : V} {d : PyData} {Q : VK} (h : Dp K F v d) (s : Same F H) (q : Q (.bl (isInt d)) H) : rIsi K [v, .ty "int"] H Q := by
  refine ⟨v, _, _, _, isInt d, rfl, .ty _, tyx_of h s, ?_, q⟩
  cases h <;> (refine kit_ty ?_; dsimp only [tyN, isInt]; decide +kernel)
theorem isi_bool {F H : Hp} {v : V} {d : PyData} {Q : VK} (h : Dp K F v d) (s : Same F H) (q : Q (.bl (isBool d)) H) : rIsi K [v, .ty "bool"] H Q := by
  refine ⟨v, _, _, _, isBool d, rfl, .ty _, tyx_of h s, ?_, q⟩
  cases h <;> (refine kit_ty ?_; dsimp only [tyN, isBool]; decide +kernel)
theorem isi_str {F H : Hp} {v : V} {d : PyData} {Q : VK} (h : Dp K F v d) (s : Same F H) (q : Q (.bl (isStr d)) H) : rIsi K [v, .ty "str"] H Q := by
  refine ⟨v, _, _, _, isStr d, rfl, .ty _, tyx_of h s, ?_, q⟩
  cases h <;> (refine kit_ty ?_; dsimp only [tyN, isStr]; decide +kernel)
theorem isi_tup {F H : Hp} {v : V} {d : PyData} {Q : VK} (h : Dp K F v d) (s : Same F H) (q : Q (.bl (isTup d)) H) : rIsi K [v, .ty "tuple"] H Q := by
  refine ⟨v, _, _, _, isTup d, rfl, .ty _, tyx_of h s, ?_, q⟩
  cases h <;> (refine kit_ty ?_; dsimp only [tyN, isTup]; decide +kernel)
theorem isi_lst {F H : Hp} {v : V} {d : PyData} {Q : VK} (h : Dp K F v d) (s : Same F H) (q : Q (.bl (isLst d)) H) : rIsi K [v, .ty "list"] H Q := by
  refine ⟨v, _, _, _, isLst d, rfl, .ty _, tyx_of h s, ?_, q⟩
  cases h <;> (refine kit_ty ?_; dsimp only [tyN, isLst]; decide +kernel)
end DL

namespace DL
open PySem PySem.Spec PyProof.Rows L2
section
variable {X : Cx}
/-! ### rules for several kinds at once -/
def CPowW (i j : Int) : Prop := 0 ≤ j ∧ (Builtin.Int.intBits i : Int) * j ≤ 2 ^ 27
theorem op_powW : OpR X (binaryOp .Pow) (rI CPowW fun i j => .int (i ^ j.toNat)) := opI fun _ _ _ _ _ _ _ hc q => pow_int hc.1 hc.2 q
theorem powW_of {i j : Int} {a b : Nat} (ha : i.natAbs < 2 ^ a) (h0 : 0 < a) (hj : 0 ≤ j) (hb : j ≤ (b : Int)) (h : a * b ≤ 1000000) : CPowW i j := by
  have x := PySem.Flt.log2_lt_of h0 ha
  have e : Builtin.Int.intBits i ≤ i.natAbs.log2 + 1 := by
    unfold Builtin.Int.intBits
    split <;> omega
  refine ⟨hj, ?_⟩
  have h1 : (Builtin.Int.intBits i : Int) ≤ (a : Int) := by omega
  have h2 : (Builtin.Int.intBits i : Int) * j ≤ (a : Int) * (b : Int) := Int.mul_le_mul h1 hb hj (by omega)
  have h3 : ((a * b : Nat) : Int) ≤ ((1000000 : Nat) : Int) := Int.ofNat_le.mpr h
  rw [Int.natCast_mul] at h3
  exact Int.le_trans h2 (Int.le_trans h3 (by decide))
def rAddU (K : PySem.W.Frag) : R2 := fun x y H Q => rI0 (fun i j => .int (i + j)) x y H Q ∨ rCatA K x y H Q ∨ rCat x y H Q
theorem op_addU : OpR X (binaryOp .Add) (rAddU X.K) := OpR.or op_add (OpR.or op_catA op_cat)
def rEqU (K : PySem.W.Frag) : R2 := fun x y H Q => rEq x y H Q ∨ rEqD K x y H Q
def rNeU (K : PySem.W.Frag) : R2 := fun x y H Q => rNe x y H Q ∨ rNeD K x y H Q
theorem op_eqU (hu : X.A.units + 64 < cLine) : OpR X (compareOp .Eq) (rEqU X.K) := OpR.or op_eq (op_eqD hu)
theorem op_neU (hu : X.A.units + 64 < cLine) : OpR X (compareOp .NotEq) (rNeU X.K) := OpR.or op_ne (op_neD hu)
def rIsU : R2 := fun x y H Q => (y = .non ∧ Q (.bl (decide (x = .non))) H) ∨ (∃ a b, x = .bl a ∧ y = .bl b ∧ Q (.bl (decide (a = b))) H)
def rIsNotU : R2 := fun x y H Q => (y = .non ∧ Q (.bl (!decide (x = .non))) H) ∨ (∃ a b, x = .bl a ∧ y = .bl b ∧ Q (.bl (!decide (a = b))) H)
theorem op_isU : OpR X (compareOp .Is) rIsU := OpR.or op_isN op_is_bl
theorem op_isNotU : OpR X (compareOp .IsNot) rIsNotU := OpR.or op_notN op_isnot_bl
def rLenU (K : PySem.W.Frag) : List V → Hp → VK → Prop := fun xs H Q => (∃ p ys, xs = [.ref p] ∧ (SqL K H p ys ∨ SqT K H p ys) ∧ Q (.int ys.length) H) ∨ (∃ a kvs, xs = [V.ref a] ∧ H a = some (.dK kvs) ∧ Q (.int kvs.length) H)
theorem call_lenU : CallR X (.builtin "len") (rLenU X.K) := CallR.or call_len_seq call_lenD
def rSlU (K : PySem.W.Frag) : V → Option Int → Option Int → Hp → VK → Prop := fun x lo hi H Q => rSlL K x lo hi H Q ∨ rSlA K x lo hi H Q
theorem sl_U : SlR X (rSlU X.K) := SlR.or sl_list sl_tupA
theorem pi_or {tg it : Expr} {w1 w2 : TI} (h1 : PI X tg it w1) (h2 : PI X tg it w2) : PI X tg it (fun σ H R => w1 σ H R ∨ w2 σ H R) := ⟨fun pins s σ H R I h => h.elim (h1.run pins s σ H R I) (h2.run pins s σ H R I)⟩
def iSeq (K : PySem.W.Frag) (tl : TE) : TI := fun σ H R => iList K tl σ H R ∨ iTup K tl σ H R
theorem pi_seq {tg e : Expr} {te : TE} (he : PE X e te) : PI X tg e (iSeq X.K te) := pi_or (pi_list he) (pi_tup he)

/-! ### a call of a def of the text, all that is told of it in one place -/
structure Cal (P : Program) (w : World) (K : PySem.W.Frag) (mg : Str → Option Value) (base : Heap) (CX : CXT) (k : Nat) (x : Str) (ps : List Str) (sp : Sp) : Prop where
  ex : ∃ (f : Addr) (fd : FuncData), FnOk P w K mg base CX k f fd ps sp ∧ mg x = some (.ref f) ∧ PySem.W.keepIn K (.ref f) = true ∧ Binds K fd ps []
theorem Cal.mono {P : Program} {w : World} {K : PySem.W.Frag} {mg : Str → Option Value} {base : Heap} {CX : CXT} {j k : Nat} {x : Str} {ps : List Str} {sp : Sp} (c : Cal P w K mg base CX j x ps sp) (h : j ≤ k) : Cal P w K mg base CX k x ps sp := by
  obtain ⟨f, fd, F, m, kp, b⟩ := c.ex
  exact ⟨f, fd, F.mono h, m, kp, b⟩
theorem Cal.imp {P : Program} {w : World} {K : PySem.W.Frag} {mg : Str → Option Value} {base : Heap} {CX : CXT} {k : Nat} {x : Str} {ps : List Str} {sp sp' : Sp} (c : Cal P w K mg base CX k x ps sp) (h : ∀ vs H Q E, sp' vs H Q E → sp vs H Q E) : Cal P w K mg base CX k x ps sp' := by
  obtain ⟨f, fd, F, m, kp, b⟩ := c.ex
  exact ⟨f, fd, F.imp h, m, kp, b⟩
theorem pe_cal {k : Nat} {x : Str} {ps : List Str} {sp : Sp} {CX : CXT} {E : XK} {e : Expr} {es : List Expr} {t : TA} {p pos : Pos} (c : Cal X.prog X.w X.K X.mg X.base CX k x ps sp) (hr : Room k X.A) (hx : Passes CX X E) (ha : PA X (e :: es) t) (hg : Gl X x := by rfl)
    (hdb : (x == ("__debug__" : Str)) = false := by decide) (he : starEach (e :: es) X.env = (false, eval e X.env) :: starEach es X.env := by rfl) (hpl : (backTo pos (starEach es X.env)).any (·.1) = false := by rfl) :
    PE X (.Call (.Name x p) (e :: es) [] pos) (tCall sp [] E t) := by
  obtain ⟨f, fd, F, m, kp, b⟩ := c.ex
  exact pe_call F hr hg m kp b .nil hx ha hdb he hpl
theorem pe_cal0 {k : Nat} {x : Str} {ps : List Str} {sp : Sp} {CX : CXT} {E : XK} {p pos : Pos} (c : Cal X.prog X.w X.K X.mg X.base CX k x ps sp) (hr : Room k X.A) (hx : Passes CX X E) (hg : Gl X x := by rfl)
    (hdb : (x == ("__debug__" : Str)) = false := by decide) : PE X (.Call (.Name x p) [] [] pos) (tCall sp [] E tNil) := by
  obtain ⟨f, fd, F, m, kp, b⟩ := c.ex
  exact pe_call0 F hr hg m kp b .nil hx hdb
/-- f(..) where what is raised is wished for at the slots -/
theorem pe_calS {k : Nat} {x : Str} {ps : List Str} {sp : Sp} {CX : CXT} {E : L2.St → XK} {e : Expr} {es : List Expr} {t : TA} {p pos : Pos} (c : Cal X.prog X.w X.K X.mg X.base CX k x ps sp) (hr : Room k X.A) (hx : ∀ σ, PassesAt CX X σ (E σ)) (ha : PA X (e :: es) t) (hg : Gl X x := by rfl)
    (hdb : (x == ("__debug__" : Str)) = false := by decide) (he : starEach (e :: es) X.env = (false, eval e X.env) :: starEach es X.env := by rfl) (hpl : (backTo pos (starEach es X.env)).any (·.1) = false := by rfl) :
    PE X (.Call (.Name x p) (e :: es) [] pos) (tCallS sp E t) := by
  obtain ⟨f, fd, F, m, kp, b⟩ := c.ex
  exact pe_callS F hr hg m kp b hx ha hdb he hpl
/-- a method of the class at C -/
structure MCal (P : Program) (w : World) (K : PySem.W.Frag) (mg : Str → Option Value) (base : Heap) (CX : CXT) (k : Nat) (C : Addr) (m : Str) (ps : List Str) (sp : Sp) : Prop where
  ex : ∃ (f : Addr) (fd : FuncData), FnOk P w K mg base CX k f fd ps sp ∧ Meth K C m f ∧ Binds K fd ps []
theorem pe_mcal {pl : Sem Bool} {k : Nat} {C : Addr} {m : Str} {ps : List Str} {sp : Sp} {CX : CXT} {E : XK} {o e : Expr} {es : List Expr} {ta : TE} {t : TA} {apos pos : Pos} (c : MCal X.prog X.w X.K X.mg X.base CX k C m ps sp) (cl : Cls X.K C) (hr : Room k X.A) (hx : Passes CX X E) (ho : PE X o ta) (ha : PA X (e :: es) t)
    (hst : starEach (e :: es) X.env = (false, eval e X.env) :: starEach es X.env := by rfl) (hpl : (backTo pos (starEach es X.env)).any (·.1) = false := by rfl)
    (ht : eval (.Call (.Attribute o m apos) (e :: es) [] pos) X.env = (do
      let ov ← eval o X.env
      standAt apos.atName
      let (f, first) ← holding [ov] (getMethod ov m pl)
      callWith pos f first (backTo pos (starEach (e :: es) X.env)) (backToKw pos (keywordEach [] X.env))) := by rfl) : PE X (.Call (.Attribute o m apos) (e :: es) [] pos) (tMeth C m sp [] E ta t) := by
  obtain ⟨f, fd, F, mt, b⟩ := c.ex
  exact pe_meth (pl := pl) ho cl mt F hr b .nil hx ha hst hpl ht
theorem pe_mcal0 {pl : Sem Bool} {k : Nat} {C : Addr} {m : Str} {ps : List Str} {sp : Sp} {CX : CXT} {E : XK} {o : Expr} {ta : TE} {apos pos : Pos} (c : MCal X.prog X.w X.K X.mg X.base CX k C m ps sp) (cl : Cls X.K C) (hr : Room k X.A) (hx : Passes CX X E) (ho : PE X o ta)
    (ht : eval (.Call (.Attribute o m apos) [] [] pos) X.env = (do
      let ov ← eval o X.env
      standAt apos.atName
      let (f, first) ← holding [ov] (getMethod ov m pl)
      callWith pos f first (backTo pos (starEach [] X.env)) (backToKw pos (keywordEach [] X.env))) := by rfl)
    : PE X (.Call (.Attribute o m apos) [] [] pos) (tMeth C m sp [] E ta tNil) := by
  obtain ⟨f, fd, F, mt, b⟩ := c.ex
  exact pe_meth0 (pl := pl) ho cl mt F hr b .nil hx ht
/-- a class's name called: a new instance by its __init__ -/
structure CCal (P : Program) (w : World) (K : PySem.W.Frag) (mg : Str → Option Value) (base : Heap) (CX : CXT) (k : Nat) (C : Addr) (x : Str) (ps : List Str) (sp : Sp) : Prop where
  ex : ∃ (f : Addr) (fd : FuncData), FnOk P w K mg base CX k f fd ps sp ∧ Mk K C f ∧ mg x = some (.ref C) ∧ Binds K fd ps []
theorem pe_ccal {k : Nat} {C : Addr} {x : Str} {ps : List Str} {sp : Sp} {CX : CXT} {E : XK} {e : Expr} {es : List Expr} {t : TA} {p pos : Pos} (c : CCal X.prog X.w X.K X.mg X.base CX k C x ps sp) (hr : Room (k + 1) X.A) (hx : Passes CX X E) (ha : PA X (e :: es) t) (hg : Gl X x := by rfl)
    (hdb : (x == ("__debug__" : Str)) = false := by decide) (he : starEach (e :: es) X.env = (false, eval e X.env) :: starEach es X.env := by rfl) (hpl : (backTo pos (starEach es X.env)).any (·.1) = false := by rfl) :
    PE X (.Call (.Name x p) (e :: es) [] pos) (tMake C sp [] E t) := by
  obtain ⟨f, fd, F, M, m, b⟩ := c.ex
  exact pe_make M F hr hg m b .nil hx ha hdb he hpl
theorem pe_ccal0 {k : Nat} {C : Addr} {x : Str} {ps : List Str} {sp : Sp} {CX : CXT} {E : XK} {p pos : Pos} (c : CCal X.prog X.w X.K X.mg X.base CX k C x ps sp) (hr : Room (k + 1) X.A) (hx : Passes CX X E) (hg : Gl X x := by rfl) (hdb : (x == ("__debug__" : Str)) = false := by decide) :
    PE X (.Call (.Name x p) [] [] pos) (tMake C sp [] E tNil) := by
  obtain ⟨f, fd, F, M, m, b⟩ := c.ex
  exact pe_make0 M F hr hg m b .nil hx hdb
end
end DL
namespace DL
open PySem PySem.Spec PyProof.Rows L2
/-- a module's constant -/
structure GV (mg : Str → Option Value) (x : Str) (v : V) : Prop where
  ex : ∃ u, mg x = some u ∧ RelV v u
theorem pe_gv {X : Cx} {x : Str} {v : V} {pos : Pos} (h : GV X.mg x v) (hg : Gl X x := by rfl) (hd : (x == ("__debug__" : Str)) = false := by decide) : PE X (.Name x pos) (tC v) := by
  obtain ⟨u, m, r⟩ := h.ex
  exact pe_glob hg m r hd
/-- the built-in names are still the built-in ones -/
structure Blt (mg : Str → Option Value) : Prop where
  m_len : mg "len" = none
  m_int : mg "int" = none
  m_bool : mg "bool" = none
  m_str : mg "str" = none
  m_list : mg "list" = none
  m_tuple : mg "tuple" = none
  m_dict : mg "dict" = none
  m_isinstance : mg "isinstance" = none
  m_abs : mg "abs" = none
  m_max : mg "max" = none
  m_min : mg "min" = none
  m_all : mg "all" = none
  m_sorted : mg "sorted" = none
  m_range : mg "range" = none
  m_enumerate : mg "enumerate" = none
  m_zip : mg "zip" = none
end DL

/-! steps of readings: each combinator's reading by its parts -/
namespace S
open PySem PySem.Spec PyProof.Rows L2 DL
section
variable {σ : L2.St} {H : Hp} {Q : VK} {i : Nat} {v x y : V} {ta tb tc te : TE} {t u : TT} {K : PySem.W.Frag} {tr : TA} {D : Ends} {s1 s2 : TS} {QT : Bool → Hp → Prop} {QA : List V → Hp → Prop}
theorem var (h : σ[i]? = some (some v)) (q : Q v H) : tVar i σ H Q := ⟨v, h, q⟩
theorem c (q : Q v H) : tC v σ H Q := q
theorem nil (q : QA [] H) : tNil σ H QA := q
theorem cons (q : ta σ H fun x H1 => tr σ H1 fun xs H2 => QA (x :: xs) H2) : tCons ta tr σ H QA := q
theorem cb {r : List V → Hp → VK → Prop} (q : tr σ H fun vs H1 => r vs H1 Q) : tCB r tr σ H Q := q
theorem op {r : R2} (q : ta σ H fun x H1 => tb σ H1 fun y H2 => r x y H2 Q) : tOp r ta tb σ H Q := q
theorem un {r : V → Hp → VK → Prop} (q : ta σ H fun x H1 => r x H1 Q) : tUn r ta σ H Q := q
theorem test (q : te σ H fun x H' => ∃ k, x = .bl k ∧ QT k H') : tTest te σ H QT := q
theorem tbT (q : te σ H fun x H' => ∃ k, x = .bl k ∧ QT k H') : tB te σ H QT := q
theorem bl {b : Bool} {P : Bool → Prop} (q : P b) : ∃ k, V.bl b = .bl k ∧ P k := ⟨b, rfl, q⟩
theorem and (q : t σ H fun c H1 => if c = true then u σ H1 QT else QT false H1) : tAnd t u σ H QT := q
theorem or (q : t σ H fun c H1 => if c = true then QT true H1 else u σ H1 QT) : tOr t u σ H QT := q
theorem not (q : t σ H fun c H1 => QT (!c) H1) : tNot t σ H QT := q
theorem andV (q : ta σ H fun x H1 => ∃ c, x = .bl c ∧ if c = true then tb σ H1 Q else Q (.bl false) H1) : tAndV ta tb σ H Q := q
theorem orV (q : ta σ H fun x H1 => ∃ c, x = .bl c ∧ if c = true then Q (.bl true) H1 else tb σ H1 Q) : tOrV ta tb σ H Q := q
theorem notV (q : ta σ H fun x H1 => ∃ c, x = .bl c ∧ Q (.bl (!c)) H1) : tNotV ta σ H Q := q
theorem ifE (q : t σ H fun c H1 => if c = true then ta σ H1 Q else tb σ H1 Q) : tIf t ta tb σ H Q := q
theorem chain {r r' : R2} (q : ta σ H fun x H1 => tb σ H1 fun y H2 => r x y H2 fun z H3 => ∃ k, z = .bl k ∧ (if k = true then tc σ H3 fun w' H4 => r' y w' H4 Q else Q (.bl false) H3)) : tChain r r' ta tb tc σ H Q := q
theorem tup (q : tr σ H fun xs H1 => xs.length ≤ sizeLine ∧ ∀ p, H1 p = none → Q (.ref p) (upd H1 p (.tup xs))) : tTup tr σ H Q := q
theorem lst (q : tr σ H fun xs H1 => xs.length ≤ sizeLine ∧ ∀ p, H1 p = none → Q (.ref p) (upd H1 p (.lst xs))) : tLst tr σ H Q := q
theorem call {sp : Sp} {E : XK} (q : tr σ H fun vs H1 => sp (vs ++ []) H1 Q E) : tCall sp [] E tr σ H Q := q
theorem callS {sp : Sp} {E : L2.St → XK} (q : tr σ H fun vs H1 => sp vs H1 Q (E σ)) : tCallS sp E tr σ H Q := q
theorem meth {C : Addr} {m : Str} {sp : Sp} {E : XK} (q : ta σ H fun x H1 => ∃ a dx fs, x = .ref a ∧ H1 a = some (.ins C dx fs) ∧ fs.lookup m = none ∧ tr σ H1 fun vs H2 => sp (x :: (vs ++ [])) H2 Q E) : tMeth C m sp [] E ta tr σ H Q := q
theorem make {C : Addr} {sp : Sp} {E : XK} (q : tr σ H fun vs H1 => ∀ x dx, H1 x = none → H1 dx = none → dx ≠ x → sp (.ref x :: (vs ++ [])) (upd (upd H1 dx (.own x)) x (.ins C dx [])) (fun v H2 => v = .non ∧ Q (.ref x) H2) E) : tMake C sp [] E tr σ H Q := q
theorem fld {f : Str} (q : ta σ H fun x H1 => ∃ a C dx fs v, x = .ref a ∧ H1 a = some (.ins C dx fs) ∧ Cls K C ∧ NoAttr K C f ∧ fs.lookup f = some v ∧ Q v H1) : tFld K ta f σ H Q := q
theorem sl {r : V → Option Int → Option Int → Hp → VK → Prop} {tl th : TO} (q : te σ H fun x H1 => tl σ H1 fun l H2 => th σ H2 fun u H3 => r x l u H3 Q) : tSl r te tl th σ H Q := q
theorem noPart {QO : Option Int → Hp → Prop} (q : QO none H) : tNoPart σ H QO := q
theorem part {QO : Option Int → Hp → Prop} (q : te σ H fun x H1 => ∃ i, x = .int i ∧ QO (some i) H1) : tPart te σ H QO := q
theorem intI {n : Int} {P : Int → Prop} (q : P n) : ∃ i, V.int n = .int i ∧ P i := ⟨n, rfl, q⟩
theorem dget (q : ta σ H fun x H1 => tb σ H1 fun y H2 => ∃ a v, x = .ref a ∧ DGet H2 a y (some v) ∧ Q v H2) : tDGet ta tb σ H Q := q
theorem din (q : ta σ H fun y H1 => tb σ H1 fun x H2 => ∃ a o, x = .ref a ∧ DGet H2 a y o ∧ Q (.bl o.isSome) H2) : tDIn ta tb σ H Q := q
theorem dnotin (q : ta σ H fun y H1 => tb σ H1 fun x H2 => ∃ a o, x = .ref a ∧ DGet H2 a y o ∧ Q (.bl (!o.isSome)) H2) : tDNotIn ta tb σ H Q := q
theorem dget1 (q : ta σ H fun x H1 => ∃ a, x = .ref a ∧ IsD H1 a ∧ tb σ H1 fun y H2 => ∃ o, DGet H2 a y o ∧ Q (o.getD .non) H2) : tDGet1 ta tb σ H Q := q
theorem bm0 {T : String} {r : V → List V → Hp → VK → Prop} (q : te σ H fun x H1 => tyV K T x H1 ∧ r x [] H1 Q) : tBM0 K T r te σ H Q := q
theorem bm {T : String} {r : V → List V → Hp → VK → Prop} (q : te σ H fun x H1 => tyV K T x H1 ∧ tr σ H1 fun xs H2 => r x xs H2 Q) : tBM K T r te tr σ H Q := q
-- statements
theorem seq (q : s1 { D with nx := s2 D } σ H) : tSeq s1 s2 D σ H := q
theorem ret (q : te σ H D.rt) : tRet te D σ H := q
theorem retN (q : D.rt .non H) : tRetN D σ H := q
theorem drop (q : te σ H fun _ H1 => D.nx σ H1) : tDrop te D σ H := q
theorem ifS (q : t σ H fun b H1 => if b = true then s1 D σ H1 else s2 D σ H1) : tIfS t s1 s2 D σ H := q
theorem next (q : D.nx σ H) : tNext D σ H := q
theorem cont (q : D.ct σ H) : tCont D σ H := q
theorem asg {g : TG} (q : te σ H fun x H1 => g x σ H1 D.nx) : tAsg te g D σ H := q
theorem name {QS : L2.St → Hp → Prop} (q : QS (σ.set i (some v)) H) : gName i v σ H QS := q
theorem gsub {to ti : TE} {ts : TSet} {QS : L2.St → Hp → Prop} (q : to σ H fun o H1 => ti σ H1 fun i H2 => ts o i v H2 fun H3 => QS σ H3) : gSub to ti ts v σ H QS := q
theorem par {j : Nat} (q : tr σ H fun vs H1 => ∃ v w, vs = [v, w] ∧ D.nx ((σ.set i (some v)).set j (some w)) H1) : tPar i j tr D σ H := q
theorem par3 {j l : Nat} (q : tr σ H fun vs H1 => ∃ u v w, vs = [u, v, w] ∧ D.nx (((σ.set i (some u)).set j (some v)).set l (some w)) H1) : tPar3 i j l tr D σ H := q
theorem sfld {f : Str} {tv : TE} (q : tv σ H fun y H1 => ta σ H1 fun x H2 => ∃ a C dx fs, x = .ref a ∧ H2 a = some (.ins C dx fs) ∧ Cls K C ∧ NoAttr K C f ∧ fs.length < 1000 ∧ D.nx σ (upd H2 a (.ins C dx (putF f y fs)))) : sFld K ta tv f D σ H := q
theorem dput {td ty tv : TE} (q : tv σ H fun v H1 => td σ H1 fun x H2 => ty σ H2 fun y H3 => ∃ a H4, x = .ref a ∧ DPut H3 a y v H4 ∧ D.nx σ H4) : sDPut td ty tv D σ H := q
theorem daug {td ty tv : TE} {rd : V → V → Hp → VK → Prop} (q : td σ H fun x H1 => ty σ H1 fun y H2 => ∃ a v, x = .ref a ∧ DGet H2 a y (some v) ∧ tv σ H2 fun y2 H3 => rd v y2 H3 fun z H4 => ∃ H5, DPut H4 a y z H5 ∧ D.nx σ H5) : sDAug td ty tv rd D σ H := q
theorem aug {ti : TIp} {te : TE} (q : ∃ x, σ[i]? = some (some x) ∧ te σ H fun y H1 => ti x y H1 fun z H2 => D.nx (σ.set i (some z)) H2) : tAug i te ti D σ H := q
theorem fldaug {f : Str} {tv : TE} {rd : V → V → Hp → VK → Prop} (q : ta σ H fun x H1 => ∃ a C dx fs v, x = .ref a ∧ H1 a = some (.ins C dx fs) ∧ Cls K C ∧ NoAttr K C f ∧ fs.lookup f = some v ∧ tv σ H1 fun y H2 => rd v y H2 fun z H3 => ∃ dx' fs', H3 a = some (.ins C dx' fs') ∧ fs'.length < 1000 ∧ D.nx σ (upd H3 a (.ins C dx' (putF f z fs')))) : sFldAug K ta tv rd f D σ H := q
theorem dpop1 {td ty : TE} (q : td σ H fun x H1 => ∃ a, x = .ref a ∧ IsD H1 a ∧ ty σ H1 fun y H2 => ∃ kvs k v, H2 a = some (.dK kvs) ∧ y = kV k ∧ valV kvs k = some v ∧ Q v (upd H2 a (.dK (dropK kvs k)))) : tDPop1 td ty σ H Q := q
theorem dpop2 {td ty tx : TE} (q : td σ H fun x H1 => ∃ a, x = .ref a ∧ IsD H1 a ∧ ty σ H1 fun y H2 => tx σ H2 fun z H3 => ∃ kvs k, H3 a = some (.dK kvs) ∧ y = kV k ∧ (∀ v, valV kvs k = some v → Q v (upd H3 a (.dK (dropK kvs k)))) ∧ (valV kvs k = none → Q z H3)) : tDPop2 td ty tx σ H Q := q
theorem lock {t : TS} (q : ∃ d u, H d = some u ∧ Mut (some u) ∧ ∀ od, t ⟨fun σ' H' => H' d = some (.frz od u) ∧ D.nx σ' (upd H' d u), fun v H' => H' d = some (.frz od u) ∧ D.rt v (upd H' d u), fun σ' H' => H' d = some (.frz od u) ∧ D.bk σ' (upd H' d u), fun σ' H' => H' d = some (.frz od u) ∧ D.ct σ' (upd H' d u)⟩ σ (upd H d (.frz od u))) : tLock t D σ H := q
theorem dnewK (q : ∀ p, H p = none → Q (.ref p) (upd H p (.dK []))) : tDNewK σ H Q := q
theorem disp {trs : List (TE × TE)} (q : ∀ p, H p = none → tPairs trs σ (upd H p (.dK [])) fun ps H2 => H2 p = some (.dK []) ∧ ∃ kvs : List (Key × V), ps = kvs.map (fun kv => (kV kv.1, kv.2)) ∧ kvs.length ≤ 15 ∧ Q (.ref p) (upd H2 p (.dK (mergeK [] kvs)))) : tDisp trs σ H Q := q
theorem forS {wi : TI} {g : TG} {tb : TS} (q : wi σ H fun J H1 => ∃ W : Nat → Nat → L2.St → Hp → Prop, (∃ m, W 0 m σ H1) ∧ ∀ i m σ H, W i m σ H →
  (J.stop i H ∧ D.nx σ H) ∨ (J.go i H ∧ ∃ N : L2.St → Hp → Prop, (∀ σ' H', N σ' H' → ∃ m', m' < m ∧ W (i + 1) m' σ' H') ∧ ∀ x H', J.yld i H x H' → g x σ H' fun σ2 H2 => tb { D with nx := N, ct := N, bk := D.nx } σ2 H2)) : tFor wi g tb D σ H := q
theorem iVals {td : TE} {R : It → Hp → Prop} (q : td σ H fun x H1 => ∃ d o kvs, x = .ref d ∧ H1 d = some (.frz o (.dK kvs)) ∧ R (Itd d o kvs) H1) : iVals td σ H R := q
theorem iItems {td : TE} {R : It → Hp → Prop} (q : td σ H fun x H1 => ∃ d o kvs, x = .ref d ∧ H1 d = some (.frz o (.dK kvs)) ∧ R (Iti d o kvs) H1) : L2.iItems td σ H R := q
theorem iSeqL {tl : TE} {R : It → Hp → Prop} (q : tl σ H fun x H1 => ∃ a, x = .ref a ∧ (∃ xs, SqL K H1 a xs) ∧ R (Itl K a) H1) : iSeq K tl σ H R := .inl q
theorem iSeqT {tl : TE} {R : It → Hp → Prop} (q : tl σ H fun x H1 => ∃ a, x = .ref a ∧ (∃ xs, SqT K H1 a xs) ∧ R (Itt K a) H1) : iSeq K tl σ H R := .inr q
-- operators on ints
theorem i0 {g : Int → Int → V} {a b : Int} (q : Q (g a b) H) : rI0 g (.int a) (.int b) H Q := ⟨a, b, rfl, rfl, q⟩
theorem rI {C : Int → Int → Prop} {g : Int → Int → V} {a b : Int} (h : C a b) (q : Q (g a b) H) : L2.rI C g (.int a) (.int b) H Q := ⟨a, b, rfl, rfl, h, q⟩
theorem neg {g : Int → V} {a : Int} (q : Q (g a) H) : rU g (.int a) H Q := ⟨a, rfl, q⟩
theorem addI {a b : Int} (q : Q (.int (a + b)) H) : rAddU K (.int a) (.int b) H Q := .inl ⟨a, b, rfl, rfl, q⟩
theorem eqI {a b : Int} (q : Q (.bl (decide (a = b))) H) : rEqU K (.int a) (.int b) H Q := .inl ⟨rfl, by
  have e : decide ((V.int a) = V.int b) = decide (a = b) := by
    by_cases h : a = b
    · subst h; simp
    · rw [decide_eq_false h, decide_eq_false (fun z => h (V.int.inj z))]
  rw [e]; exact q⟩
theorem neI {a b : Int} (q : Q (.bl (!decide (a = b))) H) : rNeU K (.int a) (.int b) H Q := .inl ⟨rfl, by
  have e : decide ((V.int a) = V.int b) = decide (a = b) := by
    by_cases h : a = b
    · subst h; simp
    · rw [decide_eq_false h, decide_eq_false (fun z => h (V.int.inj z))]
  rw [e]; exact q⟩
theorem eqS {a b : Str} (q : Q (.bl (decide (a = b))) H) : rEqU K (.str a) (.str b) H Q := .inl ⟨rfl, by
  have e : decide ((V.str a) = V.str b) = decide (a = b) := by
    by_cases h : a = b
    · subst h; simp
    · rw [decide_eq_false h, decide_eq_false (fun z => h (V.str.inj z))]
  rw [e]; exact q⟩
theorem isN (q : Q (.bl (decide (v = .non))) H) : rIsU v .non H Q := .inl ⟨rfl, q⟩
theorem isNotN (q : Q (.bl (!decide (v = .non))) H) : rIsNotU v .non H Q := .inl ⟨rfl, q⟩
theorem isB {a b : Bool} (q : Q (.bl (decide (a = b))) H) : rIsU (.bl a) (.bl b) H Q := .inr ⟨a, b, rfl, rfl, q⟩
theorem isNotB {a b : Bool} (q : Q (.bl (!decide (a = b))) H) : rIsNotU (.bl a) (.bl b) H Q := .inr ⟨a, b, rfl, rfl, q⟩
theorem ite {b : Bool} {A B : Prop} (h1 : b = true → A) (h2 : b = false → B) : if b = true then A else B := by
  cases b with
  | true => exact h1 rfl
  | false => exact h2 rfl
theorem iteT {A B : Prop} {b : Bool} (hb : b = true) (h : A) : if b = true then A else B := by subst hb; exact h
theorem iteF {A B : Prop} {b : Bool} (hb : b = false) (h : B) : if b = true then A else B := by subst hb; exact h
theorem vs1 {a : Int} {P : Int → Prop} (q : P a) : ∃ i, [V.int a] = [V.int i] ∧ P i := ⟨a, rfl, q⟩
theorem vs2 {a b : Int} {P : Int → Int → Prop} (q : P a b) : ∃ i j, [V.int a, V.int b] = [V.int i, V.int j] ∧ P i j := ⟨a, b, rfl, q⟩
theorem orL {A B : Prop} (q : A) : A ∨ B := .inl q
/-- int(i), abs(i), max(i, j), min(i, j) -/
theorem int1 {a : Int} (q : Q (.int a) H) : (∃ i, [V.int a] = [V.int i] ∧ Q (.int i) H) ∨ ∃ k, [V.int a] = [V.bl k] ∧ Q (.int (if k then 1 else 0)) H := .inl ⟨a, rfl, q⟩
theorem abs1 {a : Int} (q : Q (.int (if a < 0 then -a else a)) H) : ∃ i, [V.int a] = [V.int i] ∧ Q (.int (if i < 0 then -i else i)) H := ⟨a, rfl, q⟩
theorem max2 {a b : Int} (q : Q (.int (if b > a then b else a)) H) : ∃ i j, [V.int a, V.int b] = [V.int i, V.int j] ∧ Q (.int (if j > i then j else i)) H := ⟨a, b, rfl, q⟩
theorem min2 {a b : Int} (q : Q (.int (if b < a then b else a)) H) : ∃ i j, [V.int a, V.int b] = [V.int i, V.int j] ∧ Q (.int (if j < i then j else i)) H := ⟨a, b, rfl, q⟩
-- data
variable {F : Hp}
theorem lenT {ds : List PyData} (h : Dp K F v (.tuple ds)) (s : Same F H) (q : Q (.int ds.length) H) : rLenU K [v] H Q := by
  obtain ⟨a, xs, rfl, h1, h2⟩ := dp_tuple h
  exact .inl ⟨a, xs, rfl, .inr (same_tup s h1), by rw [dp_len h2]; exact q⟩
theorem lenL {ds : List PyData} (h : Dp K F v (.list ds)) (s : Same F H) (q : Q (.int ds.length) H) : rLenU K [v] H Q := by
  obtain ⟨a, xs, rfl, h1, h2⟩ := dp_list h
  exact .inl ⟨a, xs, rfl, .inl (same_lst s h1), by rw [dp_len h2]; exact q⟩
theorem lenO {a : Addr} {xs : List V} (h : H a = some (.lst xs)) (q : Q (.int xs.length) H) : rLenU K [.ref a] H Q := .inl ⟨a, xs, rfl, .inl (SqL.of h), q⟩
theorem lenD {a : Addr} {kvs : List (Key × V)} (h : H a = some (.dK kvs)) (q : Q (.int kvs.length) H) : rLenU K [.ref a] H Q := .inr ⟨a, kvs, rfl, h, q⟩
theorem atI_map {vs : List V} {ds : List PyData} (h : DpAll K F vs ds) {i : Int} {d : PyData} (e : atI ds i = some d) : ∃ v, atI vs i = some v ∧ Dp K F v d := by
  obtain ⟨j, h1, h2, h3, h4, h5⟩ := atI_get e
  obtain ⟨v, h6, h7⟩ := dp_get h h2
  refine ⟨v, ?_, h7⟩
  have hl := dp_len h
  unfold atI at e ⊢
  rw [hl]
  cases z : ixN ds.length i with
  | none => rw [z] at e; cases e
  | some k =>
    rw [z] at e
    have e' : ds[k]? = some d := e
    obtain ⟨v', h8, h9⟩ := dp_get h e'
    have hk : k = j := by
      obtain ⟨q1, _⟩ := ixN_seq z
      rw [q1] at h1
      exact Option.some.inj h1
    subst hk
    exact h6
theorem ixT {ds : List PyData} {d : PyData} {i : Int} (h : Dp K F v (.tuple ds)) (s : Same F H) (e : atI ds i = some d) (q : ∀ w, Dp K F w d → Q w H) : rIx K v (.int i) H Q := by
  obtain ⟨a, xs, rfl, h1, h2⟩ := dp_tuple h
  obtain ⟨w, h3, h4⟩ := atI_map h2 e
  exact .inr (.inl ⟨a, xs, i, w, rfl, rfl, same_tup s h1, h3, q w h4⟩)
theorem ixL {ds : List PyData} {d : PyData} {i : Int} (h : Dp K F v (.list ds)) (s : Same F H) (e : atI ds i = some d) (q : ∀ w, Dp K F w d → Q w H) : rIx K v (.int i) H Q := by
  obtain ⟨a, xs, rfl, h1, h2⟩ := dp_list h
  obtain ⟨w, h3, h4⟩ := atI_map h2 e
  exact .inl ⟨a, xs, i, w, rfl, rfl, same_lst s h1, h3, q w h4⟩
theorem ixO {a : Addr} {xs : List V} {w : V} {i : Int} (h : H a = some (.lst xs)) (e : atI xs i = some w) (q : Q w H) : rIx K (.ref a) (.int i) H Q := .inl ⟨a, xs, i, w, rfl, rfl, SqL.of h, e, q⟩
theorem eqD {d e : PyData} {w : V} (h : Dp K F v d) (h' : Dp K F w e) (s : Same F H) (hd : SeqAt.shaped d = true) (he : SeqAt.shaped e = true) (q : Q (.bl (PyData.eqv d e)) H) : rEqU K v w H Q := .inr ⟨d, e, h.to s, h'.to s, hd, he, q⟩
theorem neD {d e : PyData} {w : V} (h : Dp K F v d) (h' : Dp K F w e) (s : Same F H) (hd : SeqAt.shaped d = true) (he : SeqAt.shaped e = true) (q : Q (.bl (!PyData.eqv d e)) H) : rNeU K v w H Q := .inr ⟨d, e, h.to s, h'.to s, hd, he, q⟩
theorem setO {a : Addr} {xs : List V} {w : V} {i : Int} {j : Nat} {QH : Hp → Prop} (h : H a = some (.lst xs)) (e : ixN xs.length i = some j) (q : QH (upd H a (.lst (xs.set j w)))) : rSetL (.ref a) (.int i) w H QH := ⟨a, xs, i, j, rfl, rfl, h, e, q⟩
theorem appO {a : Addr} {xs : List V} {w : V} (h : H a = some (.lst xs)) (hl : xs.length < sizeLine) (q : Q .non (upd H a (.lst (xs ++ [w])))) : rAppend (.ref a) [w] H Q := ⟨a, xs, w, rfl, rfl, h, hl, q⟩
theorem extO {a b : Addr} {xs zs : List V} (h : H a = some (.lst xs)) (h' : H b = some (.lst zs)) (hl : xs.length + zs.length ≤ sizeLine) (q : Q .non (upd H a (.lst (xs ++ zs)))) : rExtend (.ref a) [.ref b] H Q := ⟨a, b, xs, zs, rfl, rfl, h, h', hl, q⟩
theorem tyO {a : Addr} {xs : List V} (h : H a = some (.lst xs)) {P : Prop} (q : P) : tyV K "list" (.ref a) H ∧ P := ⟨.inl ⟨rfl, _, .inl (.inl h)⟩, q⟩
end
end S

/-! rules that the layer lacks: enumerate(tuple), sorted(d.values()), f(k=..) by keywords alone -/
namespace DL
open PySem PySem.Spec PyProof.Rows L2
theorem meets_enum_tup (l : Addr) (items : Array Value) :
    Meets (Builtin.«enumerate.__new__» ⟨[.type "enumerate", .ref l], []⟩) (fun _ R s => s.heap.IsTuple l items ∧
      R (.ok (.ret (.ref (s.heap.push { cls := .type "tuple_iterator", data := .fields #[.ref l, .int 0 0] }).objs.size)))
        { s with heap := (s.heap.push { cls := .type "tuple_iterator", data := .fields #[.ref l, .int 0 0] }).push { cls := .type "enumerate", data := .fields #[.none, .bool false, .ref s.heap.objs.size, rawInt 0, .none, .none] } }) :=
  .of_wp fun prog w A R s h => by
    obtain ⟨hp, g, d, tk, os⟩ := s
    obtain ⟨hL, h⟩ := h
    have hsub := sub_enumerate
    wp_walk
    refine wpAny_stack_any fun st => wpAny_pure ?_
    split
    · rename_i c _ _ _ _ _
      cases (c == Value.type "enumerate")
      · wp_walk using wpAny_pyIter_tuple hL
        exact ⟨_, rfl, h⟩
      · wp_walk using wpAny_pyIter_tuple hL
        exact ⟨_, rfl, h⟩
    · wp_walk using wpAny_pyIter_tuple hL
      exact ⟨_, rfl, h⟩
section
variable {prog : Program} {w : World} {A : Around} {E : Value → Shared → Prop} {s : Shared}
theorem call_enumerate_tuple {l : Addr} {items : Array Value} {Q : Value → Shared → Prop} (hL : s.heap.IsTuple l items)
    (h : ∀ h', IsEnum h' (s.heap.objs.size + 1) s.heap.objs.size 0 .none → h'.IsTupleIter s.heap.objs.size l 0 → h'.objs.size = s.heap.objs.size + 2 →
      (∀ b o, s.heap.get? b = some o → h'.get? b = some o) → Q (.ref (s.heap.objs.size + 1)) { s with heap := h' }) :
    wpAny (model prog w) A (call (.type "enumerate") [.ref l]) Q E s := by
  refine callType_new F.called_enumerate (by decide) (F.typeCall_enumerate_1 _) (F.newCall_enumerate_1 _) (fun obj => F.args_object_init_2 obj _) F.entry_enumerate_new
    (meets_enum_tup l items) ⟨hL, ?_⟩
  have hz : (s.heap.push { cls := .type "tuple_iterator", data := .fields #[.ref l, .int 0 0] }).objs.size = s.heap.objs.size + 1 := Heap.size_push ..
  show _ ∧ _
  rw [hz]
  have he : IsEnum ((s.heap.push { cls := .type "tuple_iterator", data := .fields #[.ref l, .int 0 0] }).push
      { cls := .type "enumerate", data := .fields #[.none, .bool false, .ref s.heap.objs.size, rawInt 0, .none, .none] }) (s.heap.objs.size + 1) s.heap.objs.size 0 .none := by
    have := Heap.get?_push_size (s.heap.push { cls := .type "tuple_iterator", data := .fields #[.ref l, .int 0 0] })
      (o := { cls := .type "enumerate", data := .fields #[.none, .bool false, .ref s.heap.objs.size, rawInt 0, .none, .none] }) rfl
    rw [hz] at this; exact this
  exact ⟨⟨_, he, rfl⟩, h _ he ⟨_, Heap.get?_push_of_some _ (Heap.get?_push_size _ rfl), rfl, rfl⟩ (by rw [Heap.size_push, hz]) fun b o x => Heap.get?_push_of_some _ (Heap.get?_push_of_some _ x)⟩
end
/-- the tuple at a, each item in a new pair -/
def ItetT (K : PySem.W.Frag) (a : Addr) : It :=
  ⟨fun i H => ∃ (xs : List V) (x : V), SqT K H a xs ∧ xs[i]? = some x, fun i H v H' => ∃ T x, v = .ref T ∧ H T = none ∧ H' = upd H T (.tup [.int (i : Nat), x]) ∧ ∀ xs, SqT K H a xs → xs[i]? = some x, fun i H => ∃ xs : List V, SqT K H a xs ∧ xs.length ≤ i⟩
theorem turn_enumT {P : Program} {w : World} {K : PySem.W.Frag} {elts : List Expr} {kk : Nat} {tpos : Pos} (a e it : Addr) :
    Turn P w K (.Tuple elts kk tpos) (ItetT K a) [e, it] e (fun i h => (∃ old, IsEnum h e it ((i : Nat) : Int) old) ∧ h.IsTupleIter it a i ∧ e ≠ it) where
  mem := by simp
  obj := fun i h st b hb => by
    obtain ⟨⟨old, he⟩, ⟨o, ho, hc, hd⟩, _⟩ := st
    have e' : b = e ∨ b = it := by simpa using hb
    rcases e' with z | z
    · rw [z]; exact ⟨_, he, fun v q => nomatch q⟩
    · rw [z]; exact ⟨o, ho, fun v q => by rw [hd] at q; cases q⟩
  keep := fun i h h' st k => let ⟨⟨old, he⟩, hi, hne⟩ := st; ⟨⟨old, k e (by simp) _ he⟩, hi.at fun o q => k it (by simp) o q, hne⟩
  item := by
    intro X hP hw hK hc i pins s σ H E I hf st hg
    subst hP hw hK
    obtain ⟨⟨old, he⟩, hit, hne⟩ := st
    obtain ⟨xs, x, hq, hx⟩ := hg
    obtain ⟨its, rv, p, hz⟩ := I.tuple hq
    obtain ⟨u, hu, ru⟩ := rv.get hx
    have hel : e < s.heap.objs.size := Heap.lt_size he
    have hil : it < s.heap.objs.size := by obtain ⟨_, q, _⟩ := hit; exact Heap.lt_size q
    have pa : a < s.heap.objs.size := p.lt
    have hi : i < its.toArray.size := by
      have := (List.getElem?_eq_some_iff.mp hu).1
      simpa using this
    have nai : a ≠ it := fun z => by
      obtain ⟨o1, q1, c1, d1⟩ := hit
      obtain ⟨o2, q2, c2, d2⟩ := p
      rw [z, q1] at q2
      cases q2
      rw [c1] at c2
      exact absurd c2 (by decide)
    have nae : e ∉ [it, a] := fun z => by
      have z' : e = it ∨ e = a := by simpa using z
      rcases z' with z' | z'
      · exact hne z'
      · obtain ⟨o2, q2, c2, d2⟩ := p
        rw [← z', he] at q2
        cases q2
        have c3 : ("enumerate" : String) = "tuple" := Value.type.inj c2
        exact absurd c3 (by decide)
    refine wpAny_pyNext_enum_itemD (Draws.tuple (A := X.A.in1) (I.ok.hd hc) it a nai its.toArray) he ⟨hit, p⟩ hi hne nae fun x' h' tk hx' ho hit' hT hsz hk => ?_
    have ex : x' = u := by
      have h1 : its.toArray[i]? = some u := by simpa using hu
      rw [h1] at hx'
      exact (Option.some.inj hx').symm
    subst ex
    refine ⟨_, rfl, wpAny_letOwnedTupleGo_enum (s := { s with heap := h', toks := tk + 1 }) ho fun h'' he' sb => ?_⟩
    have hT2 : h''.get? s.heap.objs.size = some { cls := .type "tuple", data := .seq #[.int i tk, x'] } := (sb.2 _ (Nat.ne_of_gt hel)).trans hT
    have new : ObjOk X.prog X.w (upd H s.heap.objs.size (.tup [.int (i : Nat), x])) h'' s.heap.objs.size (.tup [.int (i : Nat), x]) :=
      ⟨by show 2 ≤ sizeLine; decide, [.int i tk, x'], .cons ⟨_, rfl⟩ (.cons ru .nil), ⟨_, hT2, rfl, _, rfl⟩⟩
    have I1 : Inv X pins σ (upd H s.heap.objs.size (.tup [.int (i : Nat), x])) { s with heap := h'', toks := tk + 1 } :=
      I.turnedNew (ch := [e, it]) (fun b ob hb q => (sb.2 b (fun z => hb (by simp [z]))).trans (hk b ob (fun z => hb (by simp [z])) (fun z => hb (by simp [z])) q)) hf (Nat.le_refl _) new
    refine ⟨.ref s.heap.objs.size, _, I1, rfl, ⟨_, x, rfl, I.hok.fresh (Nat.le_refl _), rfl, fun ys hy => ?_⟩, ⟨⟨x', ?_⟩, hit'.1.at fun o q => (sb.2 it (Ne.symm hne)).trans q, hne⟩, fun b hb => ?_⟩
    · rw [I.tuple_inj hy hq]; exact hx
    · have e1 : ((i + 1 : Nat) : Int) = (i : Int) + 1 := by omega
      rw [e1]; exact he'
    · have hb' : b < s.heap.objs.size := by
        have e' : b = e ∨ b = it := by simpa using hb
        rcases e' with z | z
        · rw [z]; exact hel
        · rw [z]; exact hil
      rw [upd_ne (Nat.ne_of_lt hb')]
      exact (hf b hb).1
  done := by
    intro X hP hw hK hc i pins s σ H E I hf st hg
    subst hP hw hK
    obtain ⟨⟨old, he⟩, hit, hne⟩ := st
    obtain ⟨xs, hq, hx⟩ := hg
    obtain ⟨its, rv, p, hz⟩ := I.tuple hq
    obtain ⟨f0, f1, f2, f3, f4, f5⟩ := hf it (by simp)
    have hl := rv.length
    have hTy : s.TypeIs (.ref e) "enumerate" := ⟨_, he, rfl⟩
    unfold pyNext
    refine wpAny_bind (wpAny_attempt (wpAny_callSpecial?_slot (name := Str.ofString "__next__") hTy F.slot_enumerate_next
      (wpAny_call_entry F.slot_enumerate_next hTy F.entry_enumerate_next ?_ (F.args_enumerate_next_1 _))))
    show wpAny _ _ (field (.ref e) 2 >>= _) _ _ _
    refine wpAny_bind (wpAny_field he rfl (x := .ref it) rfl ?_)
    refine wpAny_bind (wpAny_nextOf_tuple_end (I.ok.hd hc) hit p (by simp; omega) fun h' x he' hx' => ?_)
    obtain ⟨o, ho, hc⟩ := hx'
    refine wpAny_bind (wpAny_isInstance (T := "StopIteration") (b := true) ⟨o, ho, hc⟩ isSubtype_stop ?_)
    exact wpAny_pure ⟨rfl, I.turned (t' := s.toks) (fun b o hb q => he' b o hb q) f0 f1 f3 f4 f5⟩
  self := fun A i s Q E st h => let ⟨⟨_, he⟩, _⟩ := st; wpAny_pyIter_enum he h
def iEnumT (K : PySem.W.Frag) (ta : TA) : TI := fun σ H R => ta σ H fun vs H1 => ∃ a xs, vs = [.ref a] ∧ SqT K H1 a xs ∧ R (ItetT K a) H1
theorem pi_enumT {X : Cx} {e : Expr} {ta : TA} {p pos tpos : Pos} {elts : List Expr} {kk : Nat} (hg : Gl X "enumerate") (hm : X.mg "enumerate" = none) (ha : PA X [e] ta) (hs : starEach [e] X.env = [(false, eval e X.env)] := by rfl) :
    PI X (.Tuple elts kk tpos) (.Call (.Name "enumerate" p) [e] [] pos) (iEnumT X.K ta) := by
  refine ⟨fun pins s σ H R I h => ?_⟩
  refine Call_ (ld_blt I hg hm boot_enumerate (PyProof.Rows.callWith_type1 (thn (ha.run pos pins s σ H _ I h) fun us s1 ⟨vs, H1, I1, r1, q1⟩ => ?_) hs rfl))
  obtain ⟨a, xs, ex, hq, q⟩ := q1
  subst ex
  cases r1 with
  | cons r rr =>
    cases rr
    cases r
    obtain ⟨its, rv, p', hz⟩ := I1.tuple hq
    refine call_enumerate_tuple p' fun h' he hit hsz hk => wpAny_pyIter_enum he ?_
    have I2 : Inv X pins σ H1 { s1 with heap := h' } := I1.kept (t' := s1.toks) hk
    refine ⟨s1.heap.objs.size + 1, [s1.heap.objs.size + 1, s1.heap.objs.size], _, _, H1, rfl, I2, turn_enumT a (s1.heap.objs.size + 1) s1.heap.objs.size, ⟨⟨.none, he⟩, hit, Nat.succ_ne_self _⟩, fun b hb => ?_, q⟩
    have e' : b = s1.heap.objs.size + 1 ∨ b = s1.heap.objs.size := by simpa using hb
    have hle : s1.heap.objs.size ≤ b := by
      rcases e' with z | z
      · rw [z]; exact Nat.le_add_right _ _
      · rw [z]; exact Nat.le_refl _
    exact I1.fpOk hle (I1.hok.fresh hle)
/-- for i, x in enumerate(t), the tuple standing -/
theorem for_enumT {K : PySem.W.Frag} {a : Addr} {xs : List V} {g : TG} {tb : TS} {D : Ends} {σ : L2.St} {H : Hp} (Pv : Nat → L2.St → Hp → Prop) (h0 : Pv 0 σ H) (hl : ∀ i σ H, i ≤ xs.length → Pv i σ H → SqT K H a xs) (hu : ∀ i H ys, (∃ σ, Pv i σ H) → SqT K H a ys → ys = xs)
    (hs : ∀ i x σ H T, xs[i]? = some x → Pv i σ H → H T = none → g (.ref T) σ (upd H T (.tup [.int (i : Nat), x])) fun σ2 H2 => tb { D with nx := Pv (i + 1), ct := Pv (i + 1), bk := D.nx } σ2 H2) (hd : ∀ σ H, Pv xs.length σ H → D.nx σ H) :
    ∃ W : Nat → Nat → L2.St → Hp → Prop, (∃ m, W 0 m σ H) ∧ ∀ i m σ H, W i m σ H →
      ((ItetT K a).stop i H ∧ D.nx σ H) ∨ ((ItetT K a).go i H ∧ ∃ N : L2.St → Hp → Prop, (∀ σ' H', N σ' H' → ∃ m', m' < m ∧ W (i + 1) m' σ' H') ∧ ∀ x H', (ItetT K a).yld i H x H' → g x σ H' fun σ2 H2 => tb { D with nx := N, ct := N, bk := D.nx } σ2 H2) := by
  refine ⟨fun i m σ H => m = xs.length - i ∧ i ≤ xs.length ∧ Pv i σ H, ⟨xs.length, by simp, Nat.zero_le _, h0⟩, ?_⟩
  rintro i m σ H ⟨rfl, hi, p⟩
  have q := hl i σ H hi p
  by_cases hlt : i < xs.length
  · refine .inr ⟨⟨xs, xs[i], q, by simp [hlt]⟩, Pv (i + 1), fun σ' H' p' => ⟨xs.length - (i + 1), by omega, rfl, hlt, p'⟩, fun x H' y => ?_⟩
    obtain ⟨T, x', e, hT, e2, y⟩ := y
    subst e e2
    exact hs i x' σ H T (y xs q) p hT
  · have e : i = xs.length := by omega
    subst e
    exact .inl ⟨⟨xs, q, Nat.le_refl _⟩, hd σ H p⟩
/-- d.values(), a view -/
def tView (te : TE) : TE := fun σ H Q => te σ H fun x H1 => ∃ (d : Addr) (kvs : List (Key × V)), x = .ref d ∧ H1 d = some (.dK kvs) ∧ ∀ v, H1 v = none → Q (.ref v) (upd H1 v (.ext fun h => h.IsValuesView v d))
def rSortedView : List V → Hp → VK → Prop := fun xs H Q => ∃ (v d : Addr) (kvs : List (Key × V)) (ns : List Int), xs = [.ref v] ∧ H v = some (.ext fun h => h.IsValuesView v d) ∧ H d = some (.dK kvs) ∧ kvs.map (·.2) = ns.map V.int ∧
      ∀ (ys : List Int) (p : Addr), ys.Perm ns → ys.Pairwise (· ≤ ·) → H p = none → Q (.ref p) (upd H p (.lst (ys.map V.int)))
/-- sorted(d.values()), ints -/
def tSortedVals (te : TE) : TE := tCB rSortedView (tCons (tView te) tNil)
/-- its end, the dict known -/
theorem sorted_vals {d : Addr} {kvs : List (Key × V)} {ns : List Int} {H : Hp} {Q : VK} (hd : H d = some (.dK kvs)) (hk : kvs.map (·.2) = ns.map V.int)
    (k : ∀ (ys : List Int) (p : Addr) (H' : Hp), ys.Perm ns → ys.Pairwise (· ≤ ·) → Same H H' → H p = none → H' p = some (.lst (ys.map V.int)) → Q (.ref p) H') :
    ∃ (d' : Addr) (kvs' : List (Key × V)), V.ref d = .ref d' ∧ H d' = some (.dK kvs') ∧ ∀ v, H v = none → rSortedView [.ref v] (upd H v (.ext fun h => h.IsValuesView v d')) Q := by
  refine ⟨d, kvs, rfl, hd, fun v hv => ⟨v, d, kvs, ns, rfl, upd_same, ?_, hk, fun ys p h1 h2 hp => ?_⟩⟩
  · rw [upd_ne (ne_of_none hd hv)]; exact hd
  · have pv : p ≠ v := fun z => by rw [z, upd_same] at hp; cases hp
    rw [upd_ne pv] at hp
    refine k ys p _ h1 h2 (fun b o e => ?_) hp upd_same
    rw [upd_ne (ne_of_none e hp), upd_ne (ne_of_none e hv)]
    exact e
theorem kv_vals : ∀ {kvs : List (Key × V)} {vs : List (Key × Value)}, KV kvs vs → Vals (kvs.map (·.2)) (vs.map (·.2))
  | _, _, .nil => .nil
  | _, _, .cons r t => .cons r.2 (kv_vals t)
theorem pe_sortedVals {X : Cx} {e : Expr} {te : TE} {p apos cpos pos : Pos} (hc : X.calm = true) (he : PE X e te) (hg : Gl X "sorted") (hm : X.mg "sorted" = none) (hbase : attributeBase e "values" X.env (eval e X.env) = eval e X.env := by rfl) (hline : (apos.endLine == cpos.line) = true := by rfl)
    (hs : starEach [.Call (.Attribute e "values" apos) [] [] cpos] X.env = (false, eval (.Call (.Attribute e "values" apos) [] [] cpos) X.env) :: starEach [] X.env := by rfl) (hpl : (backTo pos (starEach [] X.env)).any (·.1) = false := by rfl) :
    PE X (.Call (.Name "sorted" p) [.Call (.Attribute e "values" apos) [] [] cpos] [] pos) (tSortedVals te) := by
  have hview : PE X (.Call (.Attribute e "values" apos) [] [] cpos) (tView te) := by
    refine ⟨fun pins s σ H Q I h => ?_⟩
    refine wpAny_Call_method (T := "dict") (id := "dict.values") hbase rfl hline F.plainAttrs_dict F.slot_dict_values F.type_dict_values (thn (he.run pins s σ H _ I h) fun u s1 ⟨x, H1, I1, rx, d, kvs, ex, hd, q⟩ => ?_)
    subst ex
    obtain rfl : u = Value.ref d := rx
    obtain ⟨hz, hs0, vs, kv, hdo⟩ := I1.hok d _ hd
    refine ⟨hdo.typeIs, hdo.mapOf.noDict, ?_⟩
    have hview : (s1.heap.push { cls := .type "dict_values", data := .fields #[.ref d] }).IsValuesView s1.heap.objs.size d := ⟨_, Heap.get?_push_size _ rfl, rfl, rfl⟩
    have I2 : Inv X pins σ (upd H1 s1.heap.objs.size (.ext fun h => h.IsValuesView s1.heap.objs.size d)) { s1 with heap := s1.heap.push { cls := .type "dict_values", data := .fields #[.ref d] } } :=
      I1.laid (t' := s1.toks) (fun b ob q => Heap.get?_push_of_some _ q) (Nat.le_refl _) ⟨hview, ⟨_, Heap.get?_push_size _ rfl⟩, fun h1 h2 a k => by
        obtain ⟨o, ho, r⟩ := a
        exact ⟨o, k o ho, r⟩⟩
    show wpAny _ _ (callWith cpos (.builtin "dict.values") [.ref d] [] []) _ X.xe s1
    exact method_meetsIn F.slot_dict_values F.entry_dict_values rfl (PySem.evalArgs_none ⟨rfl, hdo.typeIs, F.args_dict_values_1 _, _, meets_dict_values (mixKind X.prog X.w) d hs0, ⟨vs, hdo⟩, .ref s1.heap.objs.size, _, I2, rfl, q _ (I1.hok.fresh (Nat.le_refl _))⟩)
  have hcall : CallR X (.builtin "sorted") rSortedView := by
    intro pins s σ H xs us Q I r q
    obtain ⟨a, d, kvs, ns, ex, hv, hd, hks, q⟩ := q
    subst ex
    obtain ⟨u, eu, rx⟩ := vals1 r
    subst eu
    cases rx
    obtain ⟨hview, _, _⟩ := (show ObjOk X.prog X.w H s.heap a (.ext fun h => h.IsValuesView a d) from I.hok a _ hv)
    obtain ⟨hz, lo, vs, rel, dd⟩ := I.hok d _ hd
    obtain ⟨ep, hat⟩ := dd.dictAt
    have lk : kvs.length = vs.length := Paired.length rel
    have hvals : Vals (ns.map V.int) (vs.map (·.2)) := hks ▸ kv_vals rel
    refine Calls.call_function_entry PyProof.Rows.kind_sorted PyProof.Rows.plain_sorted PyProof.Rows.entry_sorted (PyProof.Rows.args_sorted1 _) ?_
    unfold Builtin.«sorted»
    refine wpAny_bind (m := checkCount "sorted" 1 1 _) (wpAny_pure ?_)
    refine wpAny_bind (PySem.W.kdu_collect (A := X.A.in1) (PySem.W.kdl_values (knd := mixKind X.prog X.w) (kvs := vs) (ep := ep)) (I.ok.hd hc) ⟨hview, hat⟩ (by omega) fun h' tk acc hk hacc => ?_)
    have hal : acc.toList = vs.map (·.2) := by
      apply List.ext_getElem?
      intro j
      rw [List.getElem?_map]
      by_cases hj : j < vs.length
      · have hj' : j < acc.size := by rw [hacc.1]; exact hj
        obtain ⟨k, e1⟩ := hacc.2 j acc[j] (by simp [hj'])
        rw [e1]
        simp [hj']
      · have h1 : vs[j]? = none := List.getElem?_eq_none (by omega)
        have h2 : acc.toList[j]? = none := List.getElem?_eq_none (by rw [Array.length_toList, hacc.1]; omega)
        rw [h1, h2] <;> rfl
    have I1 : Inv X pins σ H { s with heap := h', toks := tk } := I.kept hk
    have hll : acc.toList.length ≤ sizeLine := by rw [Array.length_toList, hacc.1]; omega
    refine wpAny_bind (wpAny_newList ?_ hll)
    have hoL : (h'.push (seqObj "list" acc.toList.toArray 0)).get? h'.objs.size = some (seqObj "list" acc.toList.toArray 0) := Heap.get?_push_size _ rfl
    have hi := Vals.ints (hal.symm ▸ hvals : Vals (ns.map V.int) acc.toList)
    show wpAny _ _ _ _ _ { s with heap := h'.push (seqObj "list" acc.toList.toArray 0), toks := tk }
    refine wpAny_bind (wpAny_holding (wpAny_call_entry PyProof.Rows.slot_list_sort ⟨_, hoL, rfl⟩ PyProof.Rows.entry_list_sort
      (SrtO.list_sort_ord (s := { s with heap := h'.push (seqObj "list" acc.toList.toArray 0), toks := tk }) SrtO.swo_int hoL hll (fun h2 => SrtO.ints_sortable hi h2) fun out h1 h2 => ⟨_, rfl, ?_⟩) (PyProof.Rows.args_list_sort _)))
    obtain ⟨k1, k2, k3⟩ := SrtO.ints_out hi h1 h2
    obtain ⟨e', he'⟩ := PyProof.Rows.sortedHeap_at (vs := acc.toList) (out := out.toArray) hoL
    have hlen : ((out.map SrtO.iv).map V.int).length ≤ sizeLine := by
      rw [List.length_map, k2.length_eq, ← List.length_map (f := V.int) (as := ns), ← hks, List.length_map]
      exact hz
    refine wpAny_pure ⟨_, rfl, .ref h'.objs.size, upd H h'.objs.size (.lst ((out.map SrtO.iv).map V.int)), I1.laid (t' := tk) (fun b u e => ?_) (Nat.le_refl _)
      (show ObjOk X.prog X.w _ _ _ (.lst ((out.map SrtO.iv).map V.int)) from ⟨hlen, out, e', vals_of_ints k1, he'⟩), rfl, q _ _ k2 k3 (I1.hok.fresh (Nat.le_refl _))⟩
    have hb : b < h'.objs.size := Heap.lt_size e
    rw [PyProof.Rows.sortedHeap_old (Nat.ne_of_lt hb) (by rw [Heap.size_push]; exact Nat.lt_succ_of_lt hb)]
    exact Heap.get?_push_of_some _ e
  exact pe_callB hcall hg hm PyProof.Rows.boot_sorted (pa_cons hview pa_nil hs) (he := hs) (hpl := hpl)
theorem Gr.ofSame {W : List Addr} {F H H' : Hp} (s : Same F H) (e : Same H H') : Gr W F H F H' :=
  ⟨Same.refl F, fun b o _ h => e b o h, s.trans e, fun _ h _ => h, fun b h => by
    cases q : H b with
    | none => exact absurd q h
    | some o => rw [e b o q]; exact fun z => nomatch z⟩
end DL
namespace DL
open PySem PySem.Spec PyProof.Rows L2
section
variable {X : Cx} {K : PySem.W.Frag}
theorem op_addUK (h : X.K = K) : OpR X (binaryOp .Add) (rAddU K) := by subst h; exact op_addU
theorem op_eqUK (h : X.K = K) (hu : X.A.units + 64 < cLine) : OpR X (compareOp .Eq) (rEqU K) := by subst h; exact op_eqU hu
theorem op_neUK (h : X.K = K) (hu : X.A.units + 64 < cLine) : OpR X (compareOp .NotEq) (rNeU K) := by subst h; exact op_neU hu
theorem op_in_seqK (h : X.K = K) : OpR X (compareOp .In) (rIn K false) := by subst h; exact op_in_seq
theorem op_notIn_seqK (h : X.K = K) : OpR X (compareOp .NotIn) (rIn K true) := by subst h; exact op_notIn_seq
theorem ix_seqK (h : X.K = K) : IxR X (rIx K) := by subst h; exact ix_seq
theorem call_lenUK (h : X.K = K) : CallR X (.builtin "len") (rLenU K) := by subst h; exact call_lenU
theorem call_isiK (h : X.K = K) : CallR X (.builtin "isinstance") (rIsi K) := by subst h; exact call_isi
end
theorem pg_tupK {X : Cx} {K : PySem.W.Frag} {es : List Expr} {k : Nat} {pos : Pos} {t : TGs} {n : Nat} (hK : X.K = K) (hc : X.calm = true) (h : PGs X es t)
    (hn : (assignEach es X.env).length = n := by rfl) (hst : (assignEach es X.env).findIdx? (·.1) = none := by rfl) : PG X (.Tuple es k pos) (gTup K n t) := by subst hK; exact pg_tup hc h hn hst
end DL
namespace S
open PySem PySem.Spec PyProof.Rows L2 DL
theorem sview {σ : L2.St} {H : Hp} {Q : VK} {te : TE} (q : te σ H fun x H1 => ∃ (d : Addr) (kvs : List (Key × V)), x = .ref d ∧ H1 d = some (.dK kvs) ∧ ∀ v, H1 v = none → rSortedView [.ref v] (upd H1 v (.ext fun h => h.IsValuesView v d)) Q) : tSortedVals te σ H Q := q
end S

/-! dicts with int keys as lists of pairs; the bodies of sheets: what the object holds, and how it lies in the heap -/
namespace Bo
open PySem PySem.Spec PyProof.Rows L2 DL
abbrev AL (α : Type) := List (Int × α)
def getA {α : Type} (l : AL α) (k : Int) : Option α := (l.find? fun p => decide (p.1 = k)).map (·.2)
def putA {α : Type} (l : AL α) (k : Int) (a : α) : AL α := if (l.any fun p => decide (p.1 = k)) = true then l.map (fun p => if p.1 = k then (p.1, a) else p) else l ++ [(k, a)]
def dropA {α : Type} (l : AL α) (k : Int) : AL α := l.filter fun p => decide (p.1 ≠ k)
def keysA {α : Type} (l : AL α) : List Int := l.map (·.1)
def kM {α : Type} (f : α → V) (l : AL α) : List (Key × V) := l.map fun p => ((Sum.inl p.1 : Key), f p.2)
section
variable {α : Type} (f : α → V)
theorem inl_eq (a b : Int) : decide ((Sum.inl a : Key) = Sum.inl b) = decide (a = b) := by
  by_cases h : a = b
  · subst h; simp
  · rw [decide_eq_false h, decide_eq_false (fun z => h (Sum.inl.inj z))]
theorem valV_kM (k : Int) : ∀ l : AL α, valV (kM f l) (Sum.inl k : Key) = (getA l k).map f
  | [] => rfl
  | p :: r => by
    have ih := valV_kM k r
    by_cases e : p.1 = k
    · rw [show kM f (p :: r) = ((Sum.inl p.1 : Key), f p.2) :: kM f r from rfl, valV_pos (by rw [e])]
      simp [getA, List.find?_cons, e]
    · rw [show kM f (p :: r) = ((Sum.inl p.1 : Key), f p.2) :: kM f r from rfl, valV_neg (fun z => e (Sum.inl.inj z)), ih]
      simp [getA, List.find?_cons, e]
theorem any_kM (k : Int) (l : AL α) : (kM f l).any (fun kv => decide (kv.1 = (Sum.inl k : Key))) = l.any fun p => decide (p.1 = k) := by
  unfold kM
  rw [List.any_map]
  congr 1
  funext p
  exact inl_eq p.1 k
theorem putK_kM (k : Int) (a : α) (l : AL α) : putK (kM f l) (Sum.inl k : Key) (f a) = kM f (putA l k a) := by
  unfold putK putA
  rw [any_kM]
  by_cases h : (l.any fun p => decide (p.1 = k)) = true
  · rw [if_pos h, if_pos h]
    unfold kM
    rw [List.map_map, List.map_map]
    apply List.map_congr_left
    intro p _
    by_cases e : p.1 = k
    · simp [e]
    · simp [e]
  · rw [if_neg h, if_neg h]
    simp [kM]
theorem dropK_kM (k : Int) (l : AL α) : dropK (kM f l) (Sum.inl k : Key) = kM f (dropA l k) := by
  unfold dropK dropA kM
  rw [List.filter_map]
  congr 1
  apply List.filter_congr
  intro p _
  show decide ((Sum.inl p.1 : Key) ≠ Sum.inl k) = decide (p.1 ≠ k)
  by_cases e : p.1 = k
  · simp [e]
  · simp [e]
theorem kM_len (l : AL α) : (kM f l).length = l.length := by simp [kM]
end
section
variable {α : Type}
theorem getA_nil (k : Int) : getA ([] : AL α) k = none := rfl
theorem getA_cons (p : Int × α) (r : AL α) (k : Int) : getA (p :: r) k = if p.1 = k then some p.2 else getA r k := by
  by_cases e : p.1 = k <;> simp [getA, List.find?_cons, e]
theorem getA_app (l r : AL α) (k : Int) : getA (l ++ r) k = (getA l k).or (getA r k) := by
  induction l with
  | nil => simp [getA_nil]
  | cons p l ih =>
    rw [List.cons_append, getA_cons, getA_cons, ih]
    by_cases e : p.1 = k <;> simp [e]
theorem any_getA (l : AL α) (k : Int) : (l.any fun p => decide (p.1 = k)) = (getA l k).isSome := by
  induction l with
  | nil => rfl
  | cons p l ih =>
    rw [List.any_cons, getA_cons, ih]
    by_cases e : p.1 = k <;> simp [e]
theorem getA_map (l : AL α) (k j : Int) (a : α) : getA (l.map (fun p => if p.1 = k then (p.1, a) else p)) j = (getA l j).map fun x => if j = k then a else x := by
  induction l with
  | nil => rfl
  | cons p l ih =>
    rw [List.map_cons, getA_cons, getA_cons, ih]
    by_cases e : p.1 = k
    · rw [if_pos e]
      by_cases e2 : p.1 = j
      · have : j = k := by omega
        simp [e2, this]
      · simp [e2]
    · rw [if_neg e]
      by_cases e2 : p.1 = j
      · have : ¬ j = k := by omega
        simp [e2, this]
      · simp [e2]
theorem getA_putA (l : AL α) (k j : Int) (a : α) : getA (putA l k a) j = if j = k then some a else getA l j := by
  unfold putA
  rw [any_getA]
  by_cases h : (getA l k).isSome = true
  · rw [if_pos h, getA_map]
    by_cases e : j = k
    · subst e
      obtain ⟨x, hx⟩ := Option.isSome_iff_exists.mp h
      simp [hx]
    · simp [e]
  · rw [if_neg h, getA_app, getA_cons, getA_nil]
    by_cases e : j = k
    · subst e
      have hn : getA l j = none := by
        cases q : getA l j with
        | none => rfl
        | some x => rw [q] at h; simp at h
      simp [hn]
    · have : ¬ k = j := fun z => e z.symm
      simp [e, this]
theorem getA_dropA (l : AL α) (k j : Int) : getA (dropA l k) j = if j = k then none else getA l j := by
  induction l with
  | nil => simp [dropA, getA_nil]
  | cons p l ih =>
    unfold dropA at ih ⊢
    rw [List.filter_cons]
    by_cases e : p.1 = k
    · rw [if_neg (by simp [e]), ih, getA_cons]
      by_cases e2 : j = k
      · simp [e2]
      · have : ¬ p.1 = j := by omega
        simp [e2, this]
    · rw [if_pos (by simp [e]), getA_cons, getA_cons, ih]
      by_cases e2 : j = k
      · have : ¬ p.1 = j := by omega
        simp [e2, e]
      · simp [e2]
theorem getA_mem {l : AL α} {k : Int} {a : α} (h : getA l k = some a) : (k, a) ∈ l := by
  induction l with
  | nil => cases h
  | cons p l ih =>
    rw [getA_cons] at h
    by_cases e : p.1 = k
    · rw [if_pos e] at h
      cases h
      subst e
      exact List.mem_cons_self
    · rw [if_neg e] at h
      exact List.mem_cons_of_mem _ (ih h)
theorem getA_of_mem {l : AL α} (nd : (keysA l).Nodup) {k : Int} {a : α} (h : (k, a) ∈ l) : getA l k = some a := by
  induction l with
  | nil => cases h
  | cons p l ih =>
    have nd' : p.1 ∉ keysA l ∧ (keysA l).Nodup := List.nodup_cons.mp nd
    rw [getA_cons]
    rcases List.mem_cons.mp h with e | h
    · rw [← e]; simp
    · have : ¬ p.1 = k := fun z => nd'.1 (by rw [z]; exact List.mem_map_of_mem (f := (·.1)) h)
      rw [if_neg this]
      exact ih nd'.2 h
theorem getA_none {l : AL α} {k : Int} : getA l k = none ↔ k ∉ keysA l := by
  induction l with
  | nil => simp [getA_nil, keysA]
  | cons p l ih =>
    rw [getA_cons]
    by_cases e : p.1 = k
    · simp [e, keysA]
    · rw [if_neg e, ih]
      have : ¬ k = p.1 := fun z => e z.symm
      simp [keysA, this]
theorem keys_putA (l : AL α) (k : Int) (a : α) : keysA (putA l k a) = if k ∈ keysA l then keysA l else keysA l ++ [k] := by
  unfold putA
  rw [any_getA]
  by_cases h : k ∈ keysA l
  · have hs : (getA l k).isSome = true := by
      cases q : getA l k with
      | none => exact absurd h (getA_none.mp q)
      | some x => rfl
    rw [if_pos hs, if_pos h]
    unfold keysA
    rw [List.map_map]
    apply List.map_congr_left
    intro p _
    by_cases e : p.1 = k <;> simp [e]
  · have hs : getA l k = none := getA_none.mpr h
    rw [hs, if_neg (by simp), if_neg h]
    simp [keysA]
theorem nodup_putA {l : AL α} (nd : (keysA l).Nodup) (k : Int) (a : α) : (keysA (putA l k a)).Nodup := by
  rw [keys_putA]
  by_cases h : k ∈ keysA l
  · rw [if_pos h]; exact nd
  · rw [if_neg h]
    rw [List.nodup_append]
    refine ⟨nd, by simp, ?_⟩
    intro a ha b hb z
    simp at hb
    subst hb
    subst z
    exact h ha
theorem nodup_dropA {l : AL α} (nd : (keysA l).Nodup) (k : Int) : (keysA (dropA l k)).Nodup := by
  unfold keysA dropA
  exact List.Nodup.sublist (List.Sublist.map _ List.filter_sublist) nd
theorem putA_len (l : AL α) (k : Int) (a : α) : (putA l k a).length ≤ l.length + 1 := by
  unfold putA
  split <;> simp
theorem putA_new {l : AL α} {k : Int} (a : α) (h : getA l k = none) : putA l k a = l ++ [(k, a)] := by
  unfold putA
  rw [any_getA, h]
  simp
end
/-- what a Bodies object holds -/
structure BSt where
  sheets : AL (AL Int)
  shares : AL Int
  next : Int
  met : AL Unit
/-- a dict of dicts of ints at a: its rows with their addresses -/
structure TabsAt (H : Hp) (a : Addr) (T : AL (Addr × AL Int)) : Prop where
  tab : H a = some (.dK (kM (fun x => V.ref x.1) T))
  rows : ∀ t ∈ T, H t.2.1 = some (.dK (kM V.int t.2.2))
def sheetsOf (T : AL (Addr × AL Int)) : AL (AL Int) := T.map fun t => (t.1, t.2.2)
def addrsOf (T : AL (Addr × AL Int)) : List Addr := T.map (·.2.1)
def flds (a b m : Addr) (n : Int) : List (Str × V) := [("sheets", .ref a), ("shares", .ref b), ("next_body", .int n), ("met", .ref m)]
structure BParts (C : Addr) (F H : Hp) (p : Addr) (st : BSt) (a b m : Addr) (T : AL (Addr × AL Int)) : Prop where
  ob : ∃ dx, H p = some (.ins C dx (flds a b m st.next))
  tabs : TabsAt H a T
  sh : H b = some (.dK (kM V.int st.shares))
  mt : H m = some (.dK (kM (fun _ => V.bl true) st.met))
  eq : sheetsOf T = st.sheets
  nd : (p :: a :: b :: m :: addrsOf T).Nodup
  off : ∀ x ∈ p :: a :: b :: m :: addrsOf T, F x = none
/-- the object at p, W all that it owns -/
def BAt (C : Addr) (F H : Hp) (p : Addr) (st : BSt) (W : List Addr) : Prop := ∃ a b m T, W = p :: a :: b :: m :: addrsOf T ∧ BParts C F H p st a b m T
theorem lk_sheets (a b m : Addr) (n : Int) : (flds a b m n).lookup ("sheets" : Str) = some (.ref a) := rfl
theorem lk_shares (a b m : Addr) (n : Int) : (flds a b m n).lookup ("shares" : Str) = some (.ref b) := rfl
theorem lk_next (a b m : Addr) (n : Int) : (flds a b m n).lookup ("next_body" : Str) = some (.int n) := rfl
theorem lk_met (a b m : Addr) (n : Int) : (flds a b m n).lookup ("met" : Str) = some (.ref m) := rfl
theorem put_next (a b m : Addr) (n k : Int) : putF "next_body" (.int k) (flds a b m n) = flds a b m k := rfl
theorem getA_rows {T : AL (Addr × AL Int)} {k : Int} : getA (sheetsOf T) k = (getA T k).map (·.2) := by
  induction T with
  | nil => rfl
  | cons t T ih =>
    show getA ((t.1, t.2.2) :: sheetsOf T) k = _
    rw [getA_cons, getA_cons, ih]
    by_cases e : t.1 = k <;> simp [e]
end Bo

/-! promises of the deeds on sheets -/
namespace Bo
open PySem PySem.Spec PyProof.Rows L2 DL
def isFrom (d : PyData) (lo hi : Int) : Bool := match d with
  | .int i => decide (lo ≤ i) && decide (i ≤ hi)
  | _ => false
def isTuple (d : PyData) (lo hi : Int) : Bool := match d with
  | .tuple ds => decide (lo ≤ (ds.length : Int)) && decide ((ds.length : Int) ≤ hi)
  | _ => false
def thereD (st : BSt) : PyData → Bool
  | .int i => isFrom (.int i) 1 6 && (getA st.sheets i).isSome
  | _ => false
def comeD (st : BSt) : PyData → Bool
  | .int i => isFrom (.int i) 1 6 && !(getA st.met i).isSome
  | _ => false
inductive Ev where
  | look (b : Int) | make (b : Int) | gone (b : Int)
def evD : Ev → PyData
  | .look b => .tuple [.str "look", .int b]
  | .make b => .tuple [.str "make", .int b]
  | .gone b => .tuple [.str "gone", .int b]
def withBody (st : BSt) (t s : Int) : BSt := { sheets := putA st.sheets t (putA ((getA st.sheets t).getD []) s st.next), shares := putA st.shares st.next 1, next := st.next + 1, met := st.met }
def bodyOf (st : BSt) (t s : Int) : Option Int := getA ((getA st.sheets t).getD []) s
def loadE (st : BSt) (t s : Int) : List Ev := match bodyOf st t s with
  | none => []
  | some b => [.look b]
def cnt (st : BSt) (b : Int) : Int := (getA st.shares b).getD 0
def storeE (st : BSt) (t s : Int) : List Ev × BSt := match bodyOf st t s with
  | none => ([.make st.next], withBody st t s)
  | some b => if 1 < cnt st b then ([.look b, .make st.next], withBody { st with shares := putA st.shares b (cnt st b - 1) } t s) else ([.look b], st)
def shareAll (sh : AL Int) (row : AL Int) : AL Int := row.foldl (fun sh p => putA sh p.2 ((getA sh p.2).getD 0 + 1)) sh
def forkS (st : BSt) (t c : Int) : BSt := { sheets := putA st.sheets c ((getA st.sheets t).getD []), shares := shareAll st.shares ((getA st.sheets t).getD []), next := st.next, met := putA st.met c () }
def endTurn (z : List Ev × AL Int) (b : Int) : List Ev × AL Int :=
  let n := (getA z.2 b).getD 0 - 1
  if n = 0 then (z.1 ++ [.gone b], dropA (putA z.2 b n) b) else (z.1, putA z.2 b n)
def insI (a : Int) : List Int → List Int
  | [] => [a]
  | b :: l => if a ≤ b then a :: b :: l else b :: insI a l
def sortI (l : List Int) : List Int := l.foldr insI []
def endE (st : BSt) (t : Int) : List Ev × BSt :=
  let z := (sortI (((getA st.sheets t).getD []).map (·.2))).foldl endTurn ([], st.shares)
  (z.1, { st with sheets := dropA st.sheets t, shares := z.2 })
inductive Deed where
  | load (t s : Int) | store (t s : Int) | fork (t c : Int) | fin (t : Int)
def deedD : Deed → PyData
  | .load t s => .tuple [.str "load", .int t, .int s]
  | .store t s => .tuple [.str "store", .int t, .int s]
  | .fork t c => .tuple [.str "fork", .int t, .int c]
  | .fin t => .tuple [.str "end", .int t]
def doneE (st : BSt) : Deed → List Ev × BSt
  | .load t s => (loadE st t s, st)
  | .store t s => storeE st t s
  | .fork t c => ([], forkS st t c)
  | .fin t => endE st t
/-- how often a body lies in the rows -/
def occR (row : AL Int) (b : Int) : Nat := (row.map (·.2)).count b
def occ (sh : AL (AL Int)) (b : Int) : Nat := (sh.map fun p => occR p.2 b).sum
/-- what keeps the object well, behind n deeds -/
structure BOk (n : Nat) (st : BSt) : Prop where
  nds : (keysA st.sheets).Nodup
  ndr : ∀ p ∈ st.sheets, (keysA p.2).Nodup
  ndv : ∀ p ∈ st.sheets, (p.2.map (·.2)).Nodup
  sh : ∀ b, getA st.shares b = if occ st.sheets b = 0 then none else some (occ st.sheets b : Int)
  ndh : (keysA st.shares).Nodup
  lt : ∀ b, occ st.sheets b ≠ 0 → 0 ≤ b ∧ b < st.next
  nn : 0 ≤ st.next
  ln : st.next ≤ n
  ls : st.sheets.length ≤ n + 1
  lr : ∀ p ∈ st.sheets, p.2.length ≤ n
  lh : st.shares.length ≤ n
  lm : st.met.length ≤ n + 1
  mks : ∀ t, (getA st.sheets t).isSome = true → (getA st.met t).isSome = true
/-- the sizes alone -/
structure BSz (st : BSt) : Prop where
  nds : (keysA st.sheets).Nodup
  lr : ∀ p ∈ st.sheets, p.2.length ≤ 1000
  lh : st.shares.length ≤ 1000
theorem BOk.sz {n : Nat} {st : BSt} (h : BOk n st) (hn : n ≤ 1000) : BSz st := ⟨h.nds, fun p hp => Nat.le_trans (h.lr p hp) hn, Nat.le_trans h.lh hn⟩
/-- the class as the top has made it -/
structure BoC (K : PySem.W.Frag) (C : Addr) : Prop where
  cl : Cls K C
  n1 : NoAttr K C "sheets"
  n2 : NoAttr K C "shares"
  n3 : NoAttr K C "next_body"
  n4 : NoAttr K C "met"
def spIsFrom (K : PySem.W.Frag) : Sp := fun vs H Q _ => ∃ (F : Hp) (v : V) (d : PyData) (lo hi : Int), vs = [v, .int lo, .int hi] ∧ Same F H ∧ Dp K F v d ∧ Q (.bl (isFrom d lo hi)) H
def spIsTuple (K : PySem.W.Frag) : Sp := fun vs H Q _ => ∃ (F : Hp) (v : V) (d : PyData) (lo hi : Int), vs = [v, .int lo, .int hi] ∧ Same F H ∧ Dp K F v d ∧ Q (.bl (isTuple d lo hi)) H
def spThere (K : PySem.W.Frag) (C : Addr) : Sp := fun vs H Q _ => ∃ (F : Hp) (p : Addr) (st : BSt) (W : List Addr) (v : V) (d : PyData), vs = [.ref p, v] ∧ Same F H ∧ BAt C F H p st W ∧ Dp K F v d ∧ Q (.bl (thereD st d)) H
def spCome (K : PySem.W.Frag) (C : Addr) : Sp := fun vs H Q _ => ∃ (F : Hp) (p : Addr) (st : BSt) (W : List Addr) (v : V) (d : PyData), vs = [.ref p, v] ∧ Same F H ∧ BAt C F H p st W ∧ Dp K F v d ∧ Q (.bl (comeD st d)) H
def optV : Option Int → V
  | none => .non
  | some b => .int b
def spBody (C : Addr) : Sp := fun vs H Q _ => ∃ (F : Hp) (p : Addr) (st : BSt) (W : List Addr) (t s : Int), vs = [.ref p, .int t, .int s] ∧ BAt C F H p st W ∧ (getA st.sheets t).isSome = true ∧ Q (optV (bodyOf st t s)) H
/-- the object changed: what stands behind -/
def BGo (C : Addr) (F H : Hp) (p : Addr) (W : List Addr) (st' : BSt) (F' H' : Hp) : Prop := Gr W F H F' H' ∧ ∃ W', BAt C F' H' p st' W' ∧ ∀ b ∈ W', b ∈ W ∨ H b = none
def spWith (K : PySem.W.Frag) (C : Addr) : Sp := fun vs H Q _ => ∃ (F : Hp) (p : Addr) (st : BSt) (W : List Addr) (t s : Int), vs = [.ref p, .int t, .int s] ∧ Same F H ∧ BAt C F H p st W ∧ (getA st.sheets t).isSome = true ∧ BSz st ∧
  ∀ v F' H', BGo C F H p W (withBody st t s) F' H' → Dp K F' v (evD (.make st.next)) → Q v H'
/-- a new list of its own is handed back -/
def RetL (K : PySem.W.Frag) (F' H H' : Hp) (W : List Addr) (ds : List PyData) (Q : VK) : Prop := ∀ q xs, H q = none → q ∉ W → F' q = none → H' q = some (.lst xs) → DpAll K F' xs ds → Q (.ref q) H'
def spLoad (K : PySem.W.Frag) (C : Addr) : Sp := fun vs H Q _ => ∃ (F : Hp) (p : Addr) (st : BSt) (W : List Addr) (t s : Int), vs = [.ref p, .int t, .int s] ∧ Same F H ∧ BAt C F H p st W ∧ (getA st.sheets t).isSome = true ∧
  ∀ q xs F' H', Gr [] F H F' H' → H q = none → F' q = none → H' q = some (.lst xs) → DpAll K F' xs ((loadE st t s).map evD) → Q (.ref q) H'
/-- the object changed, and a new list of its own is handed back -/
def BRet (K : PySem.W.Frag) (C : Addr) (F H : Hp) (p : Addr) (W : List Addr) (z : List Ev × BSt) (Q : VK) : Prop :=
  ∀ q xs F' H' W', Gr W F H F' H' → BAt C F' H' p z.2 W' → (∀ b ∈ W', b ∈ W ∨ H b = none) → H q = none → q ∉ W' → F' q = none → H' q = some (.lst xs) → DpAll K F' xs (z.1.map evD) → Q (.ref q) H'
def spStore (K : PySem.W.Frag) (C : Addr) : Sp := fun vs H Q _ => ∃ (F : Hp) (p : Addr) (st : BSt) (W : List Addr) (t s : Int), vs = [.ref p, .int t, .int s] ∧ Same F H ∧ BAt C F H p st W ∧ (getA st.sheets t).isSome = true ∧ (∃ n, n ≤ 1000 ∧ BOk n st) ∧ BRet K C F H p W (storeE st t s) Q
def spFork (K : PySem.W.Frag) (C : Addr) : Sp := fun vs H Q _ => ∃ (F : Hp) (p : Addr) (st : BSt) (W : List Addr) (t c : Int), vs = [.ref p, .int t, .int c] ∧ Same F H ∧ BAt C F H p st W ∧ (getA st.sheets t).isSome = true ∧ getA st.sheets c = none ∧ (∃ n, n ≤ 1000 ∧ BOk n st) ∧ BRet K C F H p W ([], forkS st t c) Q
def spEnd (K : PySem.W.Frag) (C : Addr) : Sp := fun vs H Q _ => ∃ (F : Hp) (p : Addr) (st : BSt) (W : List Addr) (t : Int), vs = [.ref p, .int t] ∧ Same F H ∧ BAt C F H p st W ∧ (getA st.sheets t).isSome = true ∧ (∃ n, n ≤ 1000 ∧ BOk n st) ∧ BRet K C F H p W (endE st t) Q
/-- a deed that can be done -/
def can (st : BSt) : Deed → Prop
  | .load t s => (getA st.sheets t).isSome = true
  | .store t s => (getA st.sheets t).isSome = true
  | .fork t c => (getA st.sheets t).isSome = true ∧ getA st.sheets c = none
  | .fin t => (getA st.sheets t).isSome = true
def spDone (K : PySem.W.Frag) (C : Addr) : Sp := fun vs H Q _ => ∃ (F : Hp) (p : Addr) (st : BSt) (W : List Addr) (v : V) (d : Deed), vs = [.ref p, v] ∧ Same F H ∧ BAt C F H p st W ∧ Dp K F v (deedD d) ∧ can st d ∧ (∃ n, n ≤ 1000 ∧ BOk n st) ∧ BRet K C F H p W (doneE st d) Q
def st0 : BSt := { sheets := [(1, [])], shares := [], next := 0, met := [(1, ())] }
/-- __init__ of a new instance at p -/
def spInit (C : Addr) : Sp := fun vs H Q _ => ∃ (F : Hp) (p dx : Addr), vs = [.ref p] ∧ Same F H ∧ F p = none ∧ H p = some (.ins C dx []) ∧ ∀ F' H' W', Gr [p] F H F' H' → BAt C F' H' p st0 W' → (∀ b ∈ W', b = p ∨ H b = none) → Q .non H'
theorem fld_of {K : PySem.W.Frag} {C dx p : Addr} {fs : List (Str × V)} {f : Str} {v : V} {H : Hp} {P : V → Prop} (h : H p = some (.ins C dx fs)) (c : Cls K C) (n : NoAttr K C f) (l : fs.lookup f = some v) (q : P v) :
    ∃ a C dx fs v, V.ref p = .ref a ∧ H a = some (.ins C dx fs) ∧ Cls K C ∧ NoAttr K C f ∧ fs.lookup f = some v ∧ P v := ⟨p, C, dx, fs, v, rfl, h, c, n, l, q⟩
theorem meth_of {C dx p : Addr} {fs : List (Str × V)} {m : Str} {H : Hp} {P : Prop} (h : H p = some (.ins C dx fs)) (l : fs.lookup m = none) (q : P) :
    ∃ a dx fs, V.ref p = .ref a ∧ H a = some (.ins C dx fs) ∧ fs.lookup m = none ∧ P := ⟨p, dx, fs, rfl, h, l, q⟩
theorem dget_of {d : Addr} {kvs : List (Key × V)} {k : Key} {v : V} {H : Hp} {P : V → Prop} (h : H d = some (.dK kvs)) (l : valV kvs k = some v) (q : P v) : ∃ a v, V.ref d = .ref a ∧ DGet H a (kV k) (some v) ∧ P v := ⟨d, v, rfl, by rw [← l]; exact DGet.k h, q⟩
theorem din_of {d : Addr} {kvs : List (Key × V)} {k : Key} {H : Hp} {P : Option V → Prop} (h : H d = some (.dK kvs)) (q : P (valV kvs k)) : ∃ a o, V.ref d = .ref a ∧ DGet H a (kV k) o ∧ P o := ⟨d, _, rfl, DGet.k h, q⟩
theorem dput_of {d : Addr} {kvs : List (Key × V)} {k : Key} {v : V} {H : Hp} {Q : Hp → Prop} (h : H d = some (.dK kvs)) (l : kvs.length < sizeLine) (q : Q (upd H d (.dK (putK kvs k v)))) : ∃ a H', V.ref d = .ref a ∧ DPut H a (kV k) v H' ∧ Q H' := ⟨d, _, rfl, .inl ⟨kvs, k, h, rfl, l, rfl⟩, q⟩
theorem size1000000 {n : Nat} (h : n ≤ 1000000) : n < sizeLine := Nat.lt_of_le_of_lt h (by decide)
theorem getA_len {α : Type} {l : AL α} {k : Int} (h : (getA l k).isSome = true) : ∃ a, getA l k = some a := Option.isSome_iff_exists.mp h
end Bo

/-! the object of bodies in the heap: what a write leaves of it -/
namespace Bo
open PySem PySem.Spec PyProof.Rows L2 DL
structure Apart (p a b m : Addr) (L : List Addr) : Prop where
  pa : p ≠ a
  pb : p ≠ b
  pm : p ≠ m
  pl : p ∉ L
  ab : a ≠ b
  am : a ≠ m
  al : a ∉ L
  bm : b ≠ m
  bl : b ∉ L
  ml : m ∉ L
  nl : L.Nodup
theorem apart {p a b m : Addr} {L : List Addr} (h : (p :: a :: b :: m :: L).Nodup) : Apart p a b m L := by
  simp only [List.nodup_cons, List.mem_cons, not_or] at h
  obtain ⟨⟨h1, h2, h3, h4⟩, ⟨h5, h6, h7⟩, ⟨h8, h9⟩, h10, h11⟩ := h
  exact ⟨h1, h2, h3, h4, h5, h6, h7, h8, h9, h10, h11⟩
theorem Apart.nd {p a b m : Addr} {L : List Addr} (h : Apart p a b m L) : (p :: a :: b :: m :: L).Nodup := by
  simp only [List.nodup_cons, List.mem_cons, not_or]
  exact ⟨⟨h.pa, h.pb, h.pm, h.pl⟩, ⟨h.ab, h.am, h.al⟩, ⟨h.bm, h.bl⟩, h.ml, h.nl⟩
theorem addr_mem {T : AL (Addr × AL Int)} {x : Int × (Addr × AL Int)} (h : x ∈ T) : x.2.1 ∈ addrsOf T := List.mem_map_of_mem (f := fun t : Int × (Addr × AL Int) => t.2.1) h
theorem addr_inj : ∀ {T : AL (Addr × AL Int)}, (addrsOf T).Nodup → ∀ {x y}, x ∈ T → y ∈ T → x.2.1 = y.2.1 → x = y
  | [], _, _, _, h, _, _ => nomatch h
  | z :: T, nd, x, y, hx, hy, e => by
    have nd' : z.2.1 ∉ addrsOf T ∧ (addrsOf T).Nodup := List.nodup_cons.mp nd
    rcases List.mem_cons.mp hx with h1 | h1
    · rcases List.mem_cons.mp hy with h2 | h2
      · rw [h1, h2]
      · subst h1; exact absurd (by rw [e]; exact addr_mem h2) nd'.1
    · rcases List.mem_cons.mp hy with h2 | h2
      · subst h2; exact absurd (by rw [← e]; exact addr_mem h1) nd'.1
      · exact addr_inj nd'.2 h1 h2 e
section
variable {C : Addr} {F H : Hp} {p a b m : Addr} {st : BSt} {T : AL (Addr × AL Int)}
theorem BParts.step (h : BParts C F H p st a b m T) {F' H' : Hp} (k : ∀ x ∈ p :: a :: b :: m :: addrsOf T, ∀ o, H x = some o → H' x = some o) (o : ∀ x ∈ p :: a :: b :: m :: addrsOf T, F' x = none) : BParts C F' H' p st a b m T := by
  obtain ⟨dx, h1⟩ := h.ob
  refine ⟨⟨dx, k _ (by simp) _ h1⟩, ⟨k _ (by simp) _ h.tabs.tab, fun t ht => k _ ?_ _ (h.tabs.rows t ht)⟩, k _ (by simp) _ h.sh, k _ (by simp) _ h.mt, h.eq, h.nd, o⟩
  have := addr_mem ht
  simp [this]
theorem BParts.live (h : BParts C F H p st a b m T) : ∀ x ∈ p :: a :: b :: m :: addrsOf T, H x ≠ none := by
  obtain ⟨dx, h1⟩ := h.ob
  intro x hx e
  simp only [List.mem_cons] at hx
  rcases hx with rfl | rfl | rfl | rfl | hx
  · rw [h1] at e; cases e
  · rw [h.tabs.tab] at e; cases e
  · rw [h.sh] at e; cases e
  · rw [h.mt] at e; cases e
  · obtain ⟨t, ht, rfl⟩ := List.mem_map.mp hx
    rw [h.tabs.rows t ht] at e; cases e
theorem BParts.gr (h : BParts C F H p st a b m T) {F' H' : Hp} {W : List Addr} (g : Gr W F H F' H') (n : ∀ x ∈ p :: a :: b :: m :: addrsOf T, x ∉ W) : BParts C F' H' p st a b m T :=
  h.step (fun x hx o e => g.at (n x hx) e) fun x hx => g.own x (h.off x hx) (h.live x hx)
theorem BAt.gr {W' : List Addr} (h : BAt C F H p st W') {F' H' : Hp} {W : List Addr} (g : Gr W F H F' H') (n : ∀ x ∈ W', x ∉ W) : BAt C F' H' p st W' := by
  obtain ⟨a, b, m, T, rfl, P⟩ := h
  exact ⟨a, b, m, T, rfl, P.gr g n⟩
theorem BAt.gr0 {W' : List Addr} (h : BAt C F H p st W') {F' H' : Hp} (g : Gr [] F H F' H') : BAt C F' H' p st W' := h.gr g fun _ _ z => nomatch z
theorem BParts.wNext (h : BParts C F H p st a b m T) (dx : Addr) (n : Int) : BParts C F (upd H p (.ins C dx (flds a b m n))) p { st with next := n } a b m T := by
  have A := apart h.nd
  refine ⟨⟨dx, upd_same⟩, ⟨?_, fun t ht => ?_⟩, ?_, ?_, h.eq, h.nd, h.off⟩
  · rw [upd_ne A.pa.symm]; exact h.tabs.tab
  · rw [upd_ne fun z => A.pl (by rw [← z]; exact addr_mem ht)]; exact h.tabs.rows t ht
  · rw [upd_ne A.pb.symm]; exact h.sh
  · rw [upd_ne A.pm.symm]; exact h.mt
theorem BParts.wShares (h : BParts C F H p st a b m T) (sh : AL Int) : BParts C F (upd H b (.dK (kM V.int sh))) p { st with shares := sh } a b m T := by
  have A := apart h.nd
  obtain ⟨dx, h1⟩ := h.ob
  refine ⟨⟨dx, ?_⟩, ⟨?_, fun t ht => ?_⟩, upd_same, ?_, h.eq, h.nd, h.off⟩
  · rw [upd_ne A.pb]; exact h1
  · rw [upd_ne A.ab]; exact h.tabs.tab
  · rw [upd_ne fun z => A.bl (by rw [← z]; exact addr_mem ht)]; exact h.tabs.rows t ht
  · rw [upd_ne A.bm.symm]; exact h.mt
theorem BParts.wMet (h : BParts C F H p st a b m T) (mt : AL Unit) : BParts C F (upd H m (.dK (kM (fun _ => V.bl true) mt))) p { st with met := mt } a b m T := by
  have A := apart h.nd
  obtain ⟨dx, h1⟩ := h.ob
  refine ⟨⟨dx, ?_⟩, ⟨?_, fun t ht => ?_⟩, ?_, upd_same, h.eq, h.nd, h.off⟩
  · rw [upd_ne A.pm]; exact h1
  · rw [upd_ne A.am]; exact h.tabs.tab
  · rw [upd_ne fun z => A.ml (by rw [← z]; exact addr_mem ht)]; exact h.tabs.rows t ht
  · rw [upd_ne A.bm]; exact h.sh
def setRow (T : AL (Addr × AL Int)) (t : Int) (row : AL Int) : AL (Addr × AL Int) := T.map fun x => if x.1 = t then (x.1, (x.2.1, row)) else x
theorem setRow_addrs (T : AL (Addr × AL Int)) (t : Int) (row : AL Int) : addrsOf (setRow T t row) = addrsOf T := by
  unfold addrsOf setRow
  rw [List.map_map]
  apply List.map_congr_left
  intro x _
  show (if x.1 = t then (x.1, (x.2.1, row)) else x).2.1 = x.2.1
  by_cases e : x.1 = t <;> simp [e]
theorem keys_sheetsOf (T : AL (Addr × AL Int)) : keysA (sheetsOf T) = keysA T := by
  unfold keysA sheetsOf
  rw [List.map_map]; rfl
theorem setRow_sheets {T : AL (Addr × AL Int)} {t : Int} (h : (getA T t).isSome = true) (row : AL Int) : sheetsOf (setRow T t row) = putA (sheetsOf T) t row := by
  unfold putA
  rw [any_getA, getA_rows, Option.isSome_map, if_pos h]
  unfold sheetsOf setRow
  rw [List.map_map, List.map_map]
  apply List.map_congr_left
  intro x _
  show ((if x.1 = t then (x.1, (x.2.1, row)) else x).1, (if x.1 = t then (x.1, (x.2.1, row)) else x).2.2) = if x.1 = t then (x.1, row) else (x.1, x.2.2)
  by_cases e : x.1 = t <;> simp [e]
theorem setRow_kM (T : AL (Addr × AL Int)) (t : Int) (row : AL Int) : kM (fun x : Addr × AL Int => V.ref x.1) (setRow T t row) = kM (fun x : Addr × AL Int => V.ref x.1) T := by
  unfold kM setRow
  rw [List.map_map]
  apply List.map_congr_left
  intro x _
  show ((Sum.inl (if x.1 = t then (x.1, (x.2.1, row)) else x).1 : Key), V.ref (if x.1 = t then (x.1, (x.2.1, row)) else x).2.1) = _
  by_cases e : x.1 = t <;> simp [e]
theorem BParts.wRow (h : BParts C F H p st a b m T) (nk : (keysA st.sheets).Nodup) {t : Int} {d : Addr} {row : AL Int} (ht : getA T t = some (d, row)) (row' : AL Int) :
    BParts C F (upd H d (.dK (kM V.int row'))) p { st with sheets := putA st.sheets t row' } a b m (setRow T t row') := by
  have A := apart h.nd
  obtain ⟨dx, h1⟩ := h.ob
  have hm := getA_mem ht
  have hd : d ∈ addrsOf T := addr_mem hm
  have nkT : (keysA T).Nodup := by rw [← keys_sheetsOf, h.eq]; exact nk
  refine ⟨⟨dx, ?_⟩, ⟨?_, fun x hx => ?_⟩, ?_, ?_, ?_, by rw [setRow_addrs]; exact h.nd, by rw [setRow_addrs]; exact h.off⟩
  · rw [upd_ne fun z => A.pl (by rw [z]; exact hd)]; exact h1
  · rw [upd_ne fun z => A.al (by rw [z]; exact hd), setRow_kM]; exact h.tabs.tab
  · obtain ⟨y, hy, rfl⟩ := List.mem_map.mp hx
    by_cases e : y.1 = t
    · have e2 : getA T t = some y.2 := getA_of_mem nkT (by rw [← e]; exact hy)
      rw [ht] at e2
      have e3 : y.2.1 = d := by rw [← Option.some.inj e2]
      rw [if_pos e]
      show upd H d _ y.2.1 = _
      rw [e3, upd_same]
    · rw [if_neg e]
      rw [upd_ne fun z => e (by rw [addr_inj A.nl hy hm z])]
      exact h.tabs.rows y hy
  · rw [upd_ne fun z => A.bl (by rw [z]; exact hd)]; exact h.sh
  · rw [upd_ne fun z => A.ml (by rw [z]; exact hd)]; exact h.mt
  · rw [setRow_sheets (by rw [ht]; rfl), h.eq]
theorem BParts.wNew (h : BParts C F H p st a b m T) {q : Addr} {c : Int} {row : AL Int} (hq : H q = some (.dK (kM V.int row))) (nq : q ∉ p :: a :: b :: m :: addrsOf T) (fq : F q = none) (hc : getA st.sheets c = none) :
    BParts C F (upd H a (.dK (kM (fun x : Addr × AL Int => V.ref x.1) (T ++ [(c, (q, row))])))) p { st with sheets := putA st.sheets c row } a b m (T ++ [(c, (q, row))]) := by
  have A := apart h.nd
  obtain ⟨dx, h1⟩ := h.ob
  have ea : addrsOf (T ++ [(c, (q, row))]) = addrsOf T ++ [q] := by simp [addrsOf]
  simp only [List.mem_cons, not_or] at nq
  obtain ⟨n1, n2, n3, n4, n5⟩ := nq
  refine ⟨⟨dx, ?_⟩, ⟨upd_same, fun x hx => ?_⟩, ?_, ?_, ?_, ?_, ?_⟩
  · rw [upd_ne A.pa]; exact h1
  · rcases List.mem_append.mp hx with hx | hx
    · rw [upd_ne fun z => A.al (by rw [← z]; exact addr_mem hx)]; exact h.tabs.rows x hx
    · simp only [List.mem_singleton] at hx
      subst hx
      show upd H a _ q = _
      rw [upd_ne n2]; exact hq
  · rw [upd_ne A.ab.symm]; exact h.sh
  · rw [upd_ne A.am.symm]; exact h.mt
  · rw [putA_new _ hc, ← h.eq]; simp [sheetsOf]
  · rw [ea]
    refine Apart.nd ⟨A.pa, A.pb, A.pm, ?_, A.ab, A.am, ?_, A.bm, ?_, ?_, ?_⟩
    · simp [A.pl, Ne.symm n1]
    · simp [A.al, Ne.symm n2]
    · simp [A.bl, Ne.symm n3]
    · simp [A.ml, Ne.symm n4]
    · rw [List.nodup_append]
      refine ⟨A.nl, by simp, ?_⟩
      intro x hx y hy z
      simp at hy
      subst hy; subst z
      exact n5 hx
  · intro x hx
    rw [ea] at hx
    have : x ∈ p :: a :: b :: m :: addrsOf T ∨ x = q := by
      simp only [List.mem_cons, List.mem_append, List.not_mem_nil, or_false] at hx ⊢
      rcases hx with h | h | h | h | h | h <;> simp [h]
    rcases this with h2 | h2
    · exact h.off x h2
    · rw [h2]; exact fq
theorem BParts.wDrop (h : BParts C F H p st a b m T) (t : Int) : BParts C F (upd H a (.dK (kM (fun x : Addr × AL Int => V.ref x.1) (dropA T t)))) p { st with sheets := dropA st.sheets t } a b m (dropA T t) := by
  have A := apart h.nd
  obtain ⟨dx, h1⟩ := h.ob
  have sub : ∀ x ∈ addrsOf (dropA T t), x ∈ addrsOf T := fun x hx => by
    obtain ⟨y, hy, rfl⟩ := List.mem_map.mp hx
    exact addr_mem (List.mem_filter.mp hy).1
  have snd : (addrsOf (dropA T t)).Nodup := List.Nodup.sublist (List.Sublist.map _ List.filter_sublist) A.nl
  refine ⟨⟨dx, ?_⟩, ⟨upd_same, fun x hx => ?_⟩, ?_, ?_, ?_, ?_, ?_⟩
  · rw [upd_ne A.pa]; exact h1
  · have hx' := (List.mem_filter.mp hx).1
    rw [upd_ne fun z => A.al (by rw [← z]; exact addr_mem hx')]; exact h.tabs.rows x hx'
  · rw [upd_ne A.ab.symm]; exact h.sh
  · rw [upd_ne A.am.symm]; exact h.mt
  · show sheetsOf (dropA T t) = dropA st.sheets t
    rw [← h.eq]
    unfold sheetsOf dropA
    rw [List.filter_map]; rfl
  · exact Apart.nd ⟨A.pa, A.pb, A.pm, fun z => A.pl (sub _ z), A.ab, A.am, fun z => A.al (sub _ z), A.bm, fun z => A.bl (sub _ z), fun z => A.ml (sub _ z), snd⟩
  · intro x hx
    refine h.off x ?_
    simp only [List.mem_cons] at hx ⊢
    rcases hx with h | h | h | h | h
    · simp [h]
    · simp [h]
    · simp [h]
    · simp [h]
    · simp [sub _ h]
end
end Bo

namespace DL
open PySem PySem.Spec PyProof.Rows L2
theorem upd_comm {H : Hp} {a b : Addr} {x y : HO} (h : a ≠ b) : upd (upd H a x) b y = upd (upd H b y) a x := by
  funext c
  by_cases h1 : c = a
  · subst h1; rw [upd_ne h, upd_same, upd_same]
  · by_cases h2 : c = b
    · subst h2; rw [upd_same, upd_ne h1, upd_same]
    · rw [upd_ne h2, upd_ne h1, upd_ne h1, upd_ne h2]
/-- an object that came in the stretch is written -/
theorem Gr.poke {W : List Addr} {F H F1 H1 : Hp} (g : Gr W F H F1 H1) {q : Addr} {o : HO} (hq : H q = none) (fq : F1 q = none) : Gr W F H F1 (upd H1 q o) := by
  refine ⟨g.fs, fun b u n e => ?_, fun b u e => ?_, g.own, fun b e => ?_⟩
  · rw [upd_ne (ne_of_none e hq)]; exact g.hs b u n e
  · rw [upd_ne (ne_of_none e fq)]; exact g.sub b u e
  · by_cases hb : b = q
    · subst hb; exact absurd hq e
    · rw [upd_ne hb]; exact g.live b e
/-- an object of the frame is written -/
theorem Gr.put {W : List Addr} {F H F1 H1 : Hp} (g : Gr W F H F1 H1) {q : Addr} {o : HO} (hq : q ∈ W) (fq : F1 q = none) : Gr W F H F1 (upd H1 q o) := g.trans (Gr.write g.sub fq hq)
theorem same_upd_self {F H : Hp} (s : Same F H) {q : Addr} {o : HO} (fq : F q = none) : Same F (upd H q o) := fun b u e => by
  rw [upd_ne (ne_of_none e fq)]; exact s b u e
theorem walk_enumT {K : PySem.W.Frag} {a : Addr} {xs : List V} : Walk (ItetT K a) xs.length (fun H => SqT K H a xs) (YPair (fun i => some (.int (i : Nat))) (fun i => xs[i]?)) := by
  refine ⟨fun i _ hi q => ⟨xs, xs[i], q, by simp [hi]⟩, fun _ q => ⟨xs, q, Nat.le_refl _⟩, fun i H v H' _ q y => ?_⟩
  obtain ⟨T, x, h1, h2, h3, h4⟩ := y
  exact ⟨T, .int (i : Nat), x, h1, h2, h3, rfl, h4 xs q⟩
theorem not_in_of_live {H : Hp} {W : List Addr} (l : ∀ x ∈ W, H x ≠ none) {q : Addr} (hq : H q = none) : q ∉ W := fun h => l q h hq
theorem app_len {xs ys : List V} {n m : Nat} (h1 : xs.length ≤ n) (h2 : ys.length ≤ m) (h : n + m ≤ 1000000) : xs.length + ys.length ≤ sizeLine := Nat.le_of_lt (Nat.lt_of_le_of_lt (Nat.le_trans (Nat.add_le_add h1 h2) h) (by decide))
end DL
namespace Bo
open PySem PySem.Spec PyProof.Rows L2 DL
theorem BAt.live {C : Addr} {F H : Hp} {p : Addr} {st : BSt} {W : List Addr} (h : BAt C F H p st W) : ∀ x ∈ W, H x ≠ none := by
  obtain ⟨a, b, m, T, rfl, P⟩ := h
  exact P.live
theorem BAt.off {C : Addr} {F H : Hp} {p : Addr} {st : BSt} {W : List Addr} (h : BAt C F H p st W) : ∀ x ∈ W, F x = none := by
  obtain ⟨a, b, m, T, rfl, P⟩ := h
  exact P.off
theorem BAt.poke {C : Addr} {F H : Hp} {p : Addr} {st : BSt} {W : List Addr} (h : BAt C F H p st W) {q : Addr} {o : HO} (n : q ∉ W) : BAt C F (upd H q o) p st W := by
  obtain ⟨a, b, m, T, rfl, P⟩ := h
  refine ⟨a, b, m, T, rfl, P.step (fun x hx u e => ?_) P.off⟩
  rw [upd_ne fun z => n (by rw [← z]; exact hx)]; exact e
theorem bodyOf_mem {st : BSt} {t s x : Int} (h : bodyOf st t s = some x) : ∃ row, getA st.sheets t = some row ∧ getA row s = some x := by
  unfold bodyOf at h
  cases e : getA st.sheets t with
  | none => rw [e] at h; cases h
  | some row => rw [e] at h; exact ⟨row, rfl, h⟩
theorem occ_mem {sh : AL (AL Int)} {t : Int} {row : AL Int} {s x : Int} (h1 : (t, row) ∈ sh) (h2 : (s, x) ∈ row) : occ sh x ≠ 0 := by
  unfold occ
  induction sh with
  | nil => cases h1
  | cons p sh ih =>
    rw [List.map_cons, List.sum_cons]
    rcases List.mem_cons.mp h1 with e | h1
    · subst e
      have : 0 < occR row x := by
        unfold occR
        exact List.count_pos_iff.mpr (List.mem_map_of_mem (f := fun p : Int × Int => p.2) h2)
      show occR row x + _ ≠ 0
      omega
    · have := ih h1
      omega
theorem shares_of {n : Nat} {st : BSt} (h : BOk n st) {t s x : Int} (hb : bodyOf st t s = some x) : getA st.shares x = some (cnt st x) ∧ 0 < cnt st x := by
  obtain ⟨row, h1, h2⟩ := bodyOf_mem hb
  have hz := occ_mem (getA_mem h1) (getA_mem h2)
  have e := h.sh x
  rw [if_neg hz] at e
  unfold cnt
  rw [e]
  refine ⟨rfl, ?_⟩
  show 0 < ((occ st.sheets x : Nat) : Int)
  omega
end Bo
namespace Bo
open PySem PySem.Spec PyProof.Rows L2 DL
theorem dgetF {d : Addr} {kvs : List (Key × V)} {k : Key} {v : V} {H : Hp} (h : H d = some (.dK kvs)) (l : valV kvs k = some v) : DGet H d (kV k) (some v) := by rw [← l]; exact DGet.k h
theorem ok_look : PyData.canLay0 (.str "look") = true := by unfold PyData.canLay0; decide +kernel
theorem ok_make : PyData.canLay0 (.str "make") = true := by unfold PyData.canLay0; decide +kernel
theorem ok_gone : PyData.canLay0 (.str "gone") = true := by unfold PyData.canLay0; decide +kernel
theorem evs_lay : ∀ l : List Ev, PyData.canLayAll0 (l.map evD) = true ∧ PyData.depthAll (l.map evD) ≤ 1
  | [] => ⟨by simp [PyData.canLayAll0], by simp [PyData.depthAll]⟩
  | x :: l => by
    obtain ⟨h1, h2⟩ := evs_lay l
    refine ⟨?_, ?_⟩
    · rw [List.map_cons]
      unfold PyData.canLayAll0
      rw [h1, Bool.and_true]
      cases x <;> simp [evD, PyData.canLay0, PyData.canLayAll0] <;> decide +kernel
    · rw [List.map_cons]
      unfold PyData.depthAll
      have : (evD x).depth ≤ 1 := by cases x <;> simp [evD, PyData.depth, PyData.depthAll]
      omega
theorem evs_shaped (l : List Ev) : SeqAt.shaped (.list (l.map evD)) = true := by
  obtain ⟨h1, h2⟩ := evs_lay l
  unfold SeqAt.shaped
  have h3 : (PyData.list (l.map evD)).depth ≤ 2 := by unfold PyData.depth; omega
  have h4 : (PyData.list (l.map evD)).canLay0 = true := by unfold PyData.canLay0; exact h1
  rw [h4, decide_eq_true (by omega)] <;> rfl
end Bo
namespace Bo
open PySem PySem.Spec PyProof.Rows L2 DL
theorem putA_len_in {α : Type} {l : AL α} {k : Int} {x : α} (h : getA l k = some x) (a : α) : (putA l k a).length = l.length := by
  have : k ∈ keysA l := Classical.byContradiction fun z => by rw [getA_none.mpr z] at h; cases h
  have e5 := congrArg List.length (keys_putA l k a)
  rw [if_pos this] at e5
  simpa only [keysA, List.length_map] using e5
theorem shareAll_app (sh : AL Int) (r : AL Int) (p : Int × Int) : shareAll sh (r ++ [p]) = putA (shareAll sh r) p.2 ((getA (shareAll sh r) p.2).getD 0 + 1) := by
  unfold shareAll
  rw [List.foldl_append]; rfl
theorem shareAll_in : ∀ (row sh : AL Int) {b x : Int}, getA sh b = some x → (getA (shareAll sh row) b).isSome = true
  | [], sh, b, x, h => by unfold shareAll; rw [List.foldl_nil, h]; rfl
  | p :: row, sh, b, x, h => by
    show (getA (shareAll (putA sh p.2 ((getA sh p.2).getD 0 + 1)) row) b).isSome = true
    by_cases e : b = p.2
    · subst e
      exact shareAll_in row _ (x := (getA sh p.2).getD 0 + 1) (by rw [getA_putA, if_pos rfl])
    · exact shareAll_in row _ (x := x) (by rw [getA_putA, if_neg e]; exact h)
theorem shareAll_len : ∀ (row sh : AL Int), (∀ p ∈ row, (getA sh p.2).isSome = true) → (shareAll sh row).length = sh.length
  | [], sh, _ => rfl
  | p :: row, sh, h => by
    obtain ⟨x, hx⟩ := getA_len (h p List.mem_cons_self)
    have e : (shareAll (putA sh p.2 ((getA sh p.2).getD 0 + 1)) row).length = _ := shareAll_len row _ fun q hq => by
      by_cases e : q.2 = p.2
      · rw [e, getA_putA, if_pos rfl]; rfl
      · rw [getA_putA, if_neg e]; exact h q (List.mem_cons_of_mem _ hq)
    show (shareAll (putA sh p.2 ((getA sh p.2).getD 0 + 1)) row).length = _
    rw [e, putA_len_in hx]
theorem row_shares {n : Nat} {st : BSt} (h : BOk n st) {t : Int} {row : AL Int} (hr : getA st.sheets t = some row) : ∀ p ∈ row, ∃ x, getA st.shares p.2 = some x := by
  intro p hp
  have hz := occ_mem (getA_mem hr) (s := p.1) (x := p.2) hp
  have e := h.sh p.2
  rw [if_neg hz] at e
  exact ⟨_, e⟩
theorem take_succ_get {α : Type} {l : List α} {i : Nat} {x : α} (h : l[i]? = some x) : l.take (i + 1) = l.take i ++ [x] := by
  rw [List.take_add_one, h]; rfl
theorem walk_valuesA {d : Addr} {o : Obj} {row : AL Int} : Walk (Itd d o (kM V.int row)) row.length (fun H => H d = some (.frz o (.dK (kM V.int row)))) (fun i H x H' => H' = H ∧ ∃ p, row[i]? = some p ∧ x = .int p.2) := by
  have w := walk_values (d := d) (o := o) (kvs := kM V.int row)
  rw [kM_len] at w
  refine w.mono (fun _ h => h) fun i H x H' hi _ y => ⟨y.1, ?_⟩
  obtain ⟨k, e⟩ := y.2
  unfold kM at e
  rw [List.getElem?_map] at e
  cases q : row[i]? with
  | none => rw [q] at e; cases e
  | some p => rw [q] at e; simp at e; exact ⟨p, rfl, e.2.symm⟩
end Bo
namespace DL
open PySem PySem.Spec PyProof.Rows L2
theorem Gr.ofSameF {W : List Addr} {F H H' : Hp} (s : Same F H) (e : Same H H') {L : Addr} {o : HO} (hL : H L = none) (h : H' L = some o) : Gr W F H (upd F L o) H' := by
  have fL := sub_free s hL
  refine ⟨fun b u q => ?_, fun b u _ q => e b u q, fun b u q => ?_, fun b q1 q2 => ?_, fun b q => ?_⟩
  · rw [upd_ne (ne_of_none q fL)]; exact q
  · by_cases hb : b = L
    · subst hb; rw [upd_same] at q; rw [h]; exact q
    · rw [upd_ne hb] at q; exact e b u (s b u q)
  · rw [upd_ne fun z => q2 (by rw [z]; exact hL)]; exact q1
  · cases z : H b with
    | none => exact absurd z q
    | some u => rw [e b u z]; exact fun z => nomatch z
theorem perm_sorted_eq : ∀ {l l' : List Int}, l.Perm l' → l.Pairwise (· ≤ ·) → l'.Pairwise (· ≤ ·) → l = l'
  | [], l', h, _, _ => by rw [List.nil_perm.mp h]
  | a :: l, [], h, _, _ => by have := h.length_eq; simp at this
  | a :: l, b :: l', h, h1, h2 => by
    rw [List.pairwise_cons] at h1 h2
    have hab : a = b := by
      have ha : a ∈ b :: l' := h.subset List.mem_cons_self
      have hb : b ∈ a :: l := h.symm.subset List.mem_cons_self
      rcases List.mem_cons.mp ha with e | ha
      · exact e
      · rcases List.mem_cons.mp hb with e | hb
        · exact e.symm
        · have := h1.1 b hb
          have := h2.1 a ha
          omega
    subst hab
    rw [perm_sorted_eq (List.Perm.cons_inv h) h1.2 h2.2]
end DL
namespace Bo
open PySem PySem.Spec PyProof.Rows L2 DL
theorem insI_perm (a : Int) : ∀ l : List Int, (insI a l).Perm (a :: l)
  | [] => .refl _
  | b :: l => by
    unfold insI
    by_cases h : a ≤ b
    · rw [if_pos h]
    · rw [if_neg h]
      exact ((insI_perm a l).cons b).trans (.swap a b l)
theorem insI_sorted (a : Int) : ∀ {l : List Int}, l.Pairwise (· ≤ ·) → (insI a l).Pairwise (· ≤ ·)
  | [], _ => by simp [insI]
  | b :: l, h => by
    rw [List.pairwise_cons] at h
    unfold insI
    by_cases hab : a ≤ b
    · rw [if_pos hab, List.pairwise_cons, List.pairwise_cons]
      refine ⟨fun c hc => ?_, h.1, h.2⟩
      rcases List.mem_cons.mp hc with rfl | hc
      · exact hab
      · exact Int.le_trans hab (h.1 c hc)
    · rw [if_neg hab, List.pairwise_cons]
      refine ⟨fun c hc => ?_, insI_sorted a h.2⟩
      rcases List.mem_cons.mp ((insI_perm a l).subset hc) with rfl | hc
      · omega
      · exact h.1 c hc
theorem sortI_perm : ∀ l : List Int, (sortI l).Perm l
  | [] => .refl _
  | a :: l => by
    show (insI a (sortI l)).Perm (a :: l)
    exact (insI_perm a _).trans ((sortI_perm l).cons a)
theorem sortI_sorted : ∀ l : List Int, (sortI l).Pairwise (· ≤ ·)
  | [] => .nil
  | a :: l => insI_sorted a (sortI_sorted l)
theorem sortI_uniq {l ys : List Int} (h : ys.Perm l) (s : ys.Pairwise (· ≤ ·)) : ys = sortI l := perm_sorted_eq (h.trans (sortI_perm l).symm) s (sortI_sorted l)
theorem endTurn_other {z : List Ev × AL Int} {x b : Int} (h : b ≠ x) : getA (endTurn z x).2 b = getA z.2 b := by
  unfold endTurn
  dsimp only
  by_cases e : (getA z.2 x).getD 0 - 1 = 0
  · rw [if_pos e]
    show getA (dropA (putA z.2 x _) x) b = _
    rw [getA_dropA, if_neg h, getA_putA, if_neg h]
  · rw [if_neg e]
    show getA (putA z.2 x _) b = _
    rw [getA_putA, if_neg h]
theorem endFold_other {b : Int} : ∀ {l : List Int} {z : List Ev × AL Int}, b ∉ l → getA (l.foldl endTurn z).2 b = getA z.2 b
  | [], _, _ => rfl
  | x :: l, z, h => by
    rw [List.foldl_cons, endFold_other (fun q => h (List.mem_cons_of_mem _ q)), endTurn_other (fun q => h (by rw [q]; exact List.mem_cons_self))]
theorem take_succ_fold {α β : Type} {f : β → α → β} {z : β} {l : List α} {i : Nat} {x : α} (h : l[i]? = some x) : (l.take (i + 1)).foldl f z = f ((l.take i).foldl f z) x := by
  rw [take_succ_get h, List.foldl_append]; rfl
theorem nodup_take {α : Type} {l : List α} (nd : l.Nodup) {i : Nat} {x : α} (h : l[i]? = some x) : x ∉ l.take i := by
  intro hx
  obtain ⟨hi, hl⟩ := List.getElem?_eq_some_iff.mp h
  obtain ⟨j, hj, e⟩ := List.mem_take_iff_getElem.mp hx
  have hj' : j < i := by omega
  have := List.pairwise_iff_getElem.mp nd j i (by omega) hi hj'
  exact this (by rw [e, hl])
end Bo
namespace S
open PySem PySem.Spec PyProof.Rows L2 DL
theorem slTo {K : PySem.W.Frag} {F H : Hp} {v : V} {ds : List PyData} {e : Nat} {Q : VK} (h : Dp K F v (.tuple ds)) (s : Same F H) (q : ∀ w F' H', Gr [] F H F' H' → Dp K F' w (.tuple (ds.take e)) → Q w H') : rSlU K v none (some (e : Int)) H Q := by
  obtain ⟨a, xs, rfl, h1, h2⟩ := dp_tuple h
  have hl := dp_len h2
  refine .inr ⟨a, xs, rfl, same_tup s h1, fun hc => ?_, fun _ p hp => ?_⟩
  · rw [HT.sIx_nat] at hc
    have : ds.take e = ds := List.take_of_length_le (by omega)
    exact q _ F H (Gr.refl s) (by rw [this]; exact h)
  · have e1 : cutV xs none (some (e : Int)) = xs.take e := by
      unfold cutV
      rw [HT.sIx_nat, HT.sIx_none, List.drop_zero, Nat.sub_zero]
      by_cases h5 : e ≤ xs.length
      · rw [Nat.min_eq_left h5]
      · rw [Nat.min_eq_right (by omega), List.take_of_length_le (Nat.le_refl _), List.take_of_length_le (by omega)]
    rw [e1]
    have g : Gr [] F H (upd F p (.tup (xs.take e))) (upd H p (.tup (xs.take e))) := Gr.new s hp
    exact q _ _ _ g (.tup (.inl (.inl upd_same)) ((dp_take e h2).to g.fs))
theorem slFrom {K : PySem.W.Frag} {F H : Hp} {v : V} {ds : List PyData} {e : Nat} {Q : VK} (h : Dp K F v (.tuple ds)) (s : Same F H) (q : ∀ w F' H', Gr [] F H F' H' → Dp K F' w (.tuple (ds.drop e)) → Q w H') : rSlU K v (some (e : Int)) none H Q := by
  obtain ⟨a, xs, rfl, h1, h2⟩ := dp_tuple h
  have hl := dp_len h2
  refine .inr ⟨a, xs, rfl, same_tup s h1, fun hc => ?_, fun _ p hp => ?_⟩
  · rw [HT.sIx_nat] at hc
    have : ds.drop e = ds := by
      have : e = 0 ∨ xs.length = 0 := by omega
      rcases this with rfl | h0
      · rfl
      · have : ds = [] := List.length_eq_zero_iff.mp (by omega)
        rw [this, List.drop_nil]
    exact q _ F H (Gr.refl s) (by rw [this]; exact h)
  · have e1 : cutV xs (some (e : Int)) none = xs.drop e := by
      unfold cutV
      rw [HT.sIx_nat, HT.sIx_none]
      by_cases h5 : e ≤ xs.length
      · rw [Nat.min_eq_left h5, List.take_of_length_le (by rw [List.length_drop]; omega)]
      · rw [Nat.min_eq_right (by omega), List.drop_of_length_le (Nat.le_refl _), List.drop_of_length_le (by omega)] <;> simp
    rw [e1]
    have g : Gr [] F H (upd F p (.tup (xs.drop e))) (upd H p (.tup (xs.drop e))) := Gr.new s hp
    exact q _ _ _ g (.tup (.inl (.inl upd_same)) ((dp_drop e h2).to g.fs))
/-- a, b = the tuple -/
theorem gTup2 {K : PySem.W.Frag} {F H : Hp} {v : V} {d1 d2 : PyData} {t : TGs} {σ : L2.St} {Q : L2.St → Hp → Prop} (h : Dp K F v (.tuple [d1, d2])) (s : Same F H) (q : ∀ x y, Dp K F x d1 → Dp K F y d2 → t [x, y] σ H Q) : gTup K 2 t v σ H Q := by
  obtain ⟨a, xs, rfl, h1, h2⟩ := dp_tuple h
  cases h2 with
  | cons hx h2 =>
    cases h2 with
    | cons hy h2 =>
      cases h2
      exact ⟨a, _, rfl, same_tup s h1, rfl, q _ _ hx hy⟩
/-- the tuple of the heap -/
theorem gTupO {K : PySem.W.Frag} {H : Hp} {a : Addr} {xs : List V} {n : Nat} {t : TGs} {σ : L2.St} {Q : L2.St → Hp → Prop} (h : H a = some (.tup xs)) (e : xs.length = n) (q : t xs σ H Q) : gTup K n t (.ref a) σ H Q := ⟨a, xs, rfl, .inl (.inl h), e, q⟩
theorem gCons {t : TG} {u : TGs} {v : V} {r : List V} {σ : L2.St} {H : Hp} {Q : L2.St → Hp → Prop} (q : t v σ H fun σ' H' => u r σ' H' Q) : gCons t u (v :: r) σ H Q := ⟨v, r, rfl, q⟩
theorem gNil {σ : L2.St} {H : Hp} {Q : L2.St → Hp → Prop} (q : Q σ H) : gNil [] σ H Q := ⟨rfl, q⟩
theorem inT {K : PySem.W.Frag} {H : Hp} {x : V} {p : Addr} {xs : List V} {Q : VK} (h : H p = some (.tup xs)) (h1 : flatV x = true) (h2 : xs.all flatV = true) (q : Q (.bl (inV x xs)) H) : rIn K false x (.ref p) H Q := ⟨p, xs, rfl, .inr (.inl (.inl h)), h1, h2, q⟩
theorem inL {K : PySem.W.Frag} {H : Hp} {x : V} {p : Addr} {xs : List V} {Q : VK} (h : H p = some (.lst xs)) (h1 : flatV x = true) (h2 : xs.all flatV = true) (q : Q (.bl (inV x xs)) H) : rIn K false x (.ref p) H Q := ⟨p, xs, rfl, .inl (SqL.of h), h1, h2, q⟩
theorem ninL {K : PySem.W.Frag} {H : Hp} {x : V} {p : Addr} {xs : List V} {Q : VK} (h : H p = some (.lst xs)) (h1 : flatV x = true) (h2 : xs.all flatV = true) (q : Q (.bl (!inV x xs)) H) : rIn K true x (.ref p) H Q := ⟨p, xs, rfl, .inl (SqL.of h), h1, h2, q⟩
end S
namespace S
open PySem PySem.Spec PyProof.Rows L2 DL
theorem pairsC {tk tv : TE} {r : List (TE × TE)} {σ : L2.St} {H : Hp} {Q : List (V × V) → Hp → Prop} (q : tk σ H fun x H1 => tv σ H1 fun y H2 => tPairs r σ H2 fun ps H3 => Q ((x, y) :: ps) H3) : tPairs ((tk, tv) :: r) σ H Q := q
theorem pairsN {σ : L2.St} {H : Hp} {Q : List (V × V) → Hp → Prop} (q : Q [] H) : tPairs [] σ H Q := q
end S
namespace S
open PySem PySem.Spec PyProof.Rows L2 DL
theorem ixN_nat {n j : Nat} (h : j < n) : ixN n (j : Int) = some j := by
  unfold ixN
  rw [if_pos (by omega), if_pos (by omega), Int.toNat_natCast]
theorem atI_nat {α : Type} {l : List α} {j : Nat} {a : α} (h : l[j]? = some a) : atI l (j : Int) = some a := by
  unfold atI
  rw [ixN_nat (List.getElem?_eq_some_iff.mp h).1]
  exact h
theorem atI_0 {α : Type} {l : List α} {a : α} : atI (a :: l) 0 = some a := atI_nat (j := 0) rfl
theorem atI_1 {α : Type} {l : List α} {a b : α} : atI (a :: b :: l) 1 = some b := atI_nat (j := 1) rfl
theorem atI_2 {α : Type} {l : List α} {a b c : α} : atI (a :: b :: c :: l) 2 = some c := atI_nat (j := 2) rfl
end S
namespace S
open PySem PySem.Spec PyProof.Rows L2 DL
theorem iEnumT {K : PySem.W.Frag} {ta : TA} {σ : L2.St} {H : Hp} {R : It → Hp → Prop} (q : ta σ H fun vs H1 => ∃ a xs, vs = [.ref a] ∧ SqT K H1 a xs ∧ R (ItetT K a) H1) : DL.iEnumT K ta σ H R := q
end S
namespace S
open PySem PySem.Spec PyProof.Rows L2 DL
theorem lcS {wi : TI} {g : TG} {tt : TT} {te : TE} {vs : List Nat} {σ : L2.St} {H : Hp} {Q : VK} (q : wi σ H fun J H1 => ∀ D, H1 D = none → ∃ W : Nat → Nat → Hp → Prop, (∃ m, W 0 m (upd H1 D (.lst []))) ∧ ∀ i m H, W i m H →
  (J.stop i H ∧ Q (.ref D) H) ∨ (J.go i H ∧ ∃ Nx : Hp → Prop, (∀ H', Nx H' → ∃ m', m' < m ∧ W (i + 1) m' H') ∧ ∀ x H', J.yld i H x H' → g x (wipe σ vs) H' fun σ2 H2 => wipe σ2 vs = wipe σ vs ∧ tt σ2 H2 fun b H3 =>
    if b = true then te σ2 H3 fun y H4 => ∃ acc, H4 D = some (.lst acc) ∧ acc.length < sizeLine ∧ Nx (upd H4 D (.lst (acc ++ [y]))) else Nx H3)) : tLc wi g tt te vs σ H Q := q
theorem yes {σ : L2.St} {H : Hp} {QT : Bool → Hp → Prop} (q : QT true H) : tYes σ H QT := q
end S

/-! plain: what a deed does to the tables keeps them well -/
namespace Bo
open PySem PySem.Spec PyProof.Rows L2 DL
def deedOk (st : BSt) : PyData → Bool
  | .tuple (.str w :: t :: rest) => thereD st t && (match rest with
    | [] => decide (w = "end")
    | [x] => if w = "fork" then comeD st x else (decide (w = "load") || decide (w = "store")) && isFrom x 0 63
    | _ => false)
  | _ => false
def okD (st : BSt) (d : Deed) : Bool := deedOk st (deedD d)
def okAll : BSt → List Deed → Bool
  | _, [] => true
  | st, d :: ds => okD st d && okAll (doneE st d).2 ds
def runStep (z : List Ev × BSt) (d : Deed) : List Ev × BSt := (z.1 ++ (doneE z.2 d).1, (doneE z.2 d).2)
def runAll (z : List Ev × BSt) (ds : List Deed) : List Ev × BSt := ds.foldl runStep z
theorem okAll_at : ∀ {ds : List Deed} {st : BSt} {es : List Ev} {i : Nat} {d : Deed}, okAll st ds = true → ds[i]? = some d → okD (runAll (es, st) (ds.take i)).2 d = true
  | [], _, _, _, _, _, h => by simp at h
  | x :: ds, st, es, 0, d, h, e => by
    simp at e
    subst e
    exact (Bool.and_eq_true_iff.mp h).1
  | x :: ds, st, es, i + 1, d, h, e => okAll_at (ds := ds) (i := i) (Bool.and_eq_true_iff.mp h).2 (by simpa using e)
theorem putA_cons_eq {α : Type} {p : Int × α} {l : AL α} {k : Int} {a : α} (h : p.1 = k) (n : k ∉ keysA l) : putA (p :: l) k a = (k, a) :: l := by
  unfold putA
  rw [List.any_cons, decide_eq_true h, Bool.true_or, if_pos rfl, List.map_cons, if_pos h, h]
  congr 1
  conv => rhs; rw [← List.map_id l]
  apply List.map_congr_left
  intro q hq
  rw [if_neg fun z => n (by rw [← z]; exact List.mem_map_of_mem (f := fun p : Int × α => p.1) hq)]
  rfl
theorem putA_cons_ne {α : Type} {p : Int × α} {l : AL α} {k : Int} {a : α} (h : p.1 ≠ k) : putA (p :: l) k a = p :: putA l k a := by
  unfold putA
  rw [List.any_cons, decide_eq_false h, Bool.false_or]
  by_cases e : (l.any fun p => decide (p.1 = k)) = true
  · rw [if_pos e, if_pos e, List.map_cons, if_neg h]
  · rw [if_neg e, if_neg e]; rfl
theorem mem_putA {α : Type} {l : AL α} {k : Int} {a : α} {p : Int × α} (h : p ∈ putA l k a) : p ∈ l ∨ p = (k, a) := by
  unfold putA at h
  by_cases e : (l.any fun p => decide (p.1 = k)) = true
  · rw [if_pos e] at h
    obtain ⟨q, hq, rfl⟩ := List.mem_map.mp h
    by_cases e2 : q.1 = k
    · rw [if_pos e2]; exact .inr (by rw [e2])
    · rw [if_neg e2]; exact .inl hq
  · rw [if_neg e] at h
    rcases List.mem_append.mp h with h | h
    · exact .inl h
    · exact .inr (List.mem_singleton.mp h)
theorem dropA_cons_eq {α : Type} {p : Int × α} {l : AL α} {k : Int} (h : p.1 = k) (n : k ∉ keysA l) : dropA (p :: l) k = l := by
  unfold dropA
  rw [List.filter_cons, if_neg (by simp [h])]
  rw [List.filter_eq_self]
  intro q hq
  exact decide_eq_true fun z => n (by rw [← z]; exact List.mem_map_of_mem (f := fun p : Int × α => p.1) hq)
theorem dropA_cons_ne {α : Type} {p : Int × α} {l : AL α} {k : Int} (h : p.1 ≠ k) : dropA (p :: l) k = p :: dropA l k := by
  unfold dropA
  rw [List.filter_cons, if_pos (by simp [h])]
theorem occ_cons (p : Int × AL Int) (sh : AL (AL Int)) (b : Int) : occ (p :: sh) b = occR p.2 b + occ sh b := by
  unfold occ; rw [List.map_cons, List.sum_cons]
theorem occR_cons (p : Int × Int) (r : AL Int) (b : Int) : occR (p :: r) b = occR r b + if p.2 = b then 1 else 0 := by
  unfold occR
  rw [List.map_cons, List.count_cons]
  by_cases h : p.2 = b <;> simp [h]
theorem occR_nil (b : Int) : occR [] b = 0 := rfl
theorem occ_putA : ∀ {sh : AL (AL Int)} (t : Int) (row : AL Int) (b : Int), (keysA sh).Nodup → occ (putA sh t row) b + occR ((getA sh t).getD []) b = occ sh b + occR row b
  | [], t, row, b, _ => by
    rw [putA_new _ (getA_nil t), getA_nil]
    show occ ([] ++ [(t, row)]) b + 0 = 0 + occR row b
    rw [List.nil_append, occ_cons]
    show occR row b + 0 + 0 = _
    omega
  | p :: sh, t, row, b, nd => by
    have nd' : p.1 ∉ keysA sh ∧ (keysA sh).Nodup := List.nodup_cons.mp nd
    by_cases h : p.1 = t
    · rw [putA_cons_eq h (by rw [← h]; exact nd'.1), getA_cons, if_pos h, occ_cons, occ_cons]
      show occR row b + _ + occR p.2 b = _
      omega
    · rw [putA_cons_ne h, getA_cons, if_neg h, occ_cons, occ_cons]
      have := occ_putA t row b nd'.2
      omega
theorem occ_dropA : ∀ {sh : AL (AL Int)} (t : Int) (b : Int), (keysA sh).Nodup → occ (dropA sh t) b + occR ((getA sh t).getD []) b = occ sh b
  | [], t, b, _ => rfl
  | p :: sh, t, b, nd => by
    have nd' : p.1 ∉ keysA sh ∧ (keysA sh).Nodup := List.nodup_cons.mp nd
    by_cases h : p.1 = t
    · rw [dropA_cons_eq h (by rw [← h]; exact nd'.1), getA_cons, if_pos h, occ_cons]
      show _ + occR p.2 b = _
      omega
    · rw [dropA_cons_ne h, getA_cons, if_neg h, occ_cons, occ_cons]
      have := occ_dropA t b nd'.2
      omega
theorem occR_putA : ∀ {r : AL Int} (s x b : Int), (keysA r).Nodup → occR (putA r s x) b + (if getA r s = some b then 1 else 0) = occR r b + if x = b then 1 else 0
  | [], s, x, b, _ => by
    rw [putA_new _ (getA_nil s), getA_nil]
    show occR ([] ++ [(s, x)]) b + 0 = 0 + _
    rw [List.nil_append, occR_cons]
    show 0 + (if x = b then 1 else 0) + 0 = 0 + (if x = b then 1 else 0)
    rfl
  | p :: r, s, x, b, nd => by
    have nd' : p.1 ∉ keysA r ∧ (keysA r).Nodup := List.nodup_cons.mp nd
    by_cases h : p.1 = s
    · rw [putA_cons_eq h (by rw [← h]; exact nd'.1), getA_cons, if_pos h, occR_cons, occR_cons]
      by_cases e : p.2 = b
      · simp [e]; omega
      · simp [e]
    · rw [putA_cons_ne h, getA_cons, if_neg h, occR_cons, occR_cons]
      have := occR_putA s x b nd'.2
      omega
theorem occR_pos {r : AL Int} {b : Int} : occR r b ≠ 0 ↔ b ∈ r.map (·.2) := by
  unfold occR
  rw [← List.count_pos_iff]
  omega
theorem occR_le_one {r : AL Int} {b : Int} (h : (r.map (·.2)).Nodup) : occR r b ≤ 1 := by
  unfold occR
  exact List.nodup_iff_count.mp h b
theorem occR_le_occ {sh : AL (AL Int)} {t : Int} (b : Int) (nd : (keysA sh).Nodup) : occR ((getA sh t).getD []) b ≤ occ sh b := by
  have := occ_dropA t b nd
  omega
theorem row_ok {n : Nat} {st : BSt} (h : BOk n st) (t : Int) : (keysA ((getA st.sheets t).getD [])).Nodup ∧ (((getA st.sheets t).getD []).map (·.2)).Nodup ∧ ((getA st.sheets t).getD []).length ≤ n := by
  cases q : getA st.sheets t with
  | none => exact ⟨List.nodup_nil, List.nodup_nil, Nat.zero_le _⟩
  | some row => exact ⟨h.ndr _ (getA_mem q), h.ndv _ (getA_mem q), h.lr _ (getA_mem q)⟩
theorem putA_vals {r : AL Int} {s x y : Int} (h : y ∈ (putA r s x).map (·.2)) : y ∈ r.map (·.2) ∨ y = x := by
  obtain ⟨p, hp, rfl⟩ := List.mem_map.mp h
  rcases mem_putA hp with h | h
  · exact .inl (List.mem_map_of_mem (f := fun p : Int × Int => p.2) h)
  · exact .inr (by rw [h])
theorem vals_putA : ∀ {r : AL Int} {s x : Int}, (keysA r).Nodup → (r.map (·.2)).Nodup → x ∉ r.map (·.2) → ((putA r s x).map (·.2)).Nodup
  | [], s, x, _, _, _ => by rw [putA_new _ (getA_nil s)]; simp
  | p :: r, s, x, nd, nv, hx => by
    have nd' : p.1 ∉ keysA r ∧ (keysA r).Nodup := List.nodup_cons.mp nd
    have nv' : p.2 ∉ r.map (·.2) ∧ (r.map (·.2)).Nodup := List.nodup_cons.mp nv
    have hx' : x ≠ p.2 ∧ x ∉ r.map (·.2) := ⟨fun z => hx (by rw [z]; exact List.mem_cons_self), fun z => hx (List.mem_cons_of_mem _ z)⟩
    by_cases h : p.1 = s
    · rw [putA_cons_eq h (by rw [← h]; exact nd'.1), List.map_cons]
      exact List.nodup_cons.mpr ⟨hx'.2, nv'.2⟩
    · rw [putA_cons_ne h, List.map_cons]
      refine List.nodup_cons.mpr ⟨fun z => ?_, vals_putA nd'.2 nv'.2 hx'.2⟩
      rcases putA_vals z with z | z
      · exact nv'.1 z
      · exact hx'.1 z.symm
/-- the common step of load, store: a new body at (t, s), shares as told -/
theorem BOk.withBody {n : Nat} {st : BSt} (h : BOk n st) {t s : Int} (ht : (getA st.sheets t).isSome = true) (sh : AL Int) (nsh : (keysA sh).Nodup) (lsh : sh.length ≤ n)
    (hsh : ∀ b, getA sh b = if occ st.sheets b - (if bodyOf st t s = some b then 1 else 0) = 0 then none else some ((occ st.sheets b - (if bodyOf st t s = some b then 1 else 0) : Nat) : Int)) : BOk (n + 1) (withBody { st with shares := sh } t s) := by
  obtain ⟨r1, r2, r3⟩ := row_ok h t
  obtain ⟨row, hrow⟩ := getA_len ht
  have hb0 : bodyOf st t s = getA ((getA st.sheets t).getD []) s := rfl
  have hx : st.next ∉ ((getA st.sheets t).getD []).map (·.2) := fun z => by
    have h1 := occR_pos.mpr z
    have h2 := occR_le_occ (t := t) st.next h.nds
    have := h.lt st.next (by omega)
    omega
  have hocc : ∀ b, occ (putA st.sheets t (putA ((getA st.sheets t).getD []) s st.next)) b + (if bodyOf st t s = some b then 1 else 0) = occ st.sheets b + if st.next = b then 1 else 0 := fun b => by
    have h1 := occ_putA t (putA ((getA st.sheets t).getD []) s st.next) b h.nds
    have h2 := occR_putA s st.next b r1
    rw [← hb0] at h2
    omega
  have hz : occ st.sheets st.next = 0 := Classical.byContradiction fun z => by
    have := h.lt st.next z
    omega
  have hbn : bodyOf st t s ≠ some st.next := fun z => by
    have e := z
    rw [hb0] at e
    exact hx (List.mem_map_of_mem (f := fun p : Int × Int => p.2) (getA_mem e))
  refine ⟨nodup_putA h.nds _ _, ?_, ?_, fun b => ?_, nodup_putA nsh _ _, fun b hb => ?_, ?_, ?_, ?_, ?_, ?_, ?_, ?_⟩
  · intro p hp
    rcases mem_putA hp with hp | rfl
    · exact h.ndr p hp
    · exact nodup_putA r1 _ _
  · intro p hp
    rcases mem_putA hp with hp | rfl
    · exact h.ndv p hp
    · exact vals_putA r1 r2 hx
  · show getA (putA sh st.next 1) b = if occ (putA st.sheets t (putA ((getA st.sheets t).getD []) s st.next)) b = 0 then none else some _
    have e := hocc b
    rw [getA_putA]
    by_cases eb : b = st.next
    · subst eb
      rw [if_pos rfl] at e
      rw [if_neg hbn, hz] at e
      have e2 : occ (putA st.sheets t (putA ((getA st.sheets t).getD []) s st.next)) st.next = 1 := by omega
      rw [if_pos rfl, if_neg (by show ¬ occ (putA st.sheets t (putA ((getA st.sheets t).getD []) s st.next)) st.next = 0; omega)]
      show some 1 = some ((occ (putA st.sheets t (putA ((getA st.sheets t).getD []) s st.next)) st.next : Nat) : Int)
      rw [e2]; rfl
    · have e3 : (if st.next = b then 1 else 0) = 0 := if_neg fun z => eb z.symm
      rw [e3] at e
      rw [if_neg eb, hsh b]
      have e2 : occ (putA st.sheets t (putA ((getA st.sheets t).getD []) s st.next)) b = occ st.sheets b - (if bodyOf st t s = some b then 1 else 0) := by omega
      show _ = if occ (putA st.sheets t (putA ((getA st.sheets t).getD []) s st.next)) b = 0 then none else some ((occ (putA st.sheets t (putA ((getA st.sheets t).getD []) s st.next)) b : Nat) : Int)
      rw [e2]
  · have e := hocc b
    have hb' : occ (putA st.sheets t (putA ((getA st.sheets t).getD []) s st.next)) b ≠ 0 := hb
    show 0 ≤ b ∧ b < st.next + 1
    have nn := h.nn
    by_cases eb : st.next = b
    · omega
    · have e3 : (if st.next = b then 1 else 0) = 0 := if_neg eb
      rw [e3] at e
      have := h.lt b (by omega)
      omega
  · show 0 ≤ st.next + 1
    have nn := h.nn
    omega
  · show st.next + 1 ≤ ((n + 1 : Nat) : Int)
    have := h.ln
    omega
  · show (putA st.sheets t _).length ≤ n + 1 + 1
    rw [putA_len_in hrow]
    have := h.ls
    omega
  · intro p hp
    rcases mem_putA hp with hp | rfl
    · have := h.lr p hp
      omega
    · show (putA ((getA st.sheets t).getD []) s st.next).length ≤ n + 1
      have := putA_len ((getA st.sheets t).getD []) s st.next
      omega
  · show (putA sh st.next 1).length ≤ n + 1
    have := putA_len sh st.next 1
    omega
  · show st.met.length ≤ n + 1 + 1
    have := h.lm
    omega
  · intro t' h'
    have h2 : (getA (putA st.sheets t (putA ((getA st.sheets t).getD []) s st.next)) t').isSome = true := h'
    rw [getA_putA] at h2
    by_cases e : t' = t
    · rw [e]; exact h.mks t ht
    · rw [if_neg e] at h2; exact h.mks t' h2
theorem shareAll_get : ∀ (row sh : AL Int) (b : Int), getA (shareAll sh row) b = if occR row b = 0 then getA sh b else some ((getA sh b).getD 0 + (occR row b : Int))
  | [], sh, b => by rw [occR_nil]; rfl
  | p :: row, sh, b => by
    show getA (shareAll (putA sh p.2 ((getA sh p.2).getD 0 + 1)) row) b = _
    rw [shareAll_get row, getA_putA, occR_cons]
    by_cases e : p.2 = b
    · subst e
      rw [if_pos rfl, if_pos rfl, if_neg (show ¬ occR row p.2 + 1 = 0 by omega)]
      by_cases e2 : occR row p.2 = 0
      · rw [if_pos e2, e2]; rfl
      · rw [if_neg e2]
        show some ((getA sh p.2).getD 0 + 1 + (occR row p.2 : Int)) = _
        congr 1
        omega
    · have e3 : (if p.2 = b then 1 else 0) = 0 := if_neg e
      rw [if_neg (show ¬ b = p.2 from fun z => e z.symm), e3, Nat.add_zero]
theorem shareAll_nodup : ∀ (row sh : AL Int), (keysA sh).Nodup → (keysA (shareAll sh row)).Nodup
  | [], sh, h => h
  | p :: row, sh, h => shareAll_nodup row _ (nodup_putA h _ _)
theorem BOk.fork {n : Nat} {st : BSt} (h : BOk n st) {t c : Int} (ht : (getA st.sheets t).isSome = true) (hc : getA st.sheets c = none) : BOk (n + 1) (forkS st t c) := by
  obtain ⟨r1, r2, r3⟩ := row_ok h t
  have hocc : ∀ b, occ (putA st.sheets c ((getA st.sheets t).getD [])) b = occ st.sheets b + occR ((getA st.sheets t).getD []) b := fun b => by
    have h1 := occ_putA c ((getA st.sheets t).getD []) b h.nds
    rw [hc] at h1
    have : occR ((none : Option (AL Int)).getD []) b = 0 := rfl
    omega
  have hle := fun b => occR_le_occ (t := t) b h.nds
  refine ⟨nodup_putA h.nds _ _, ?_, ?_, fun b => ?_, shareAll_nodup _ _ h.ndh, fun b hb => ?_, h.nn, ?_, ?_, ?_, ?_, ?_, ?_⟩
  · intro p hp
    rcases mem_putA hp with hp | rfl
    · exact h.ndr p hp
    · exact r1
  · intro p hp
    rcases mem_putA hp with hp | rfl
    · exact h.ndv p hp
    · exact r2
  · show getA (shareAll st.shares ((getA st.sheets t).getD [])) b = if occ (putA st.sheets c ((getA st.sheets t).getD [])) b = 0 then none else some ((occ (putA st.sheets c ((getA st.sheets t).getD [])) b : Nat) : Int)
    rw [hocc, shareAll_get, h.sh b]
    have := hle b
    by_cases e1 : occR ((getA st.sheets t).getD []) b = 0
    · rw [if_pos e1, e1, Nat.add_zero]
    · rw [if_neg e1, if_neg (show ¬ occ st.sheets b = 0 by omega), if_neg (show ¬ occ st.sheets b + occR ((getA st.sheets t).getD []) b = 0 by omega), Option.getD_some]
      congr 1
  · have hb' : occ (putA st.sheets c ((getA st.sheets t).getD [])) b ≠ 0 := hb
    rw [hocc] at hb'
    have := hle b
    exact h.lt b (by omega)
  · show st.next ≤ ((n + 1 : Nat) : Int)
    have := h.ln
    omega
  · show (putA st.sheets c _).length ≤ n + 1 + 1
    have := putA_len st.sheets c ((getA st.sheets t).getD [])
    have := h.ls
    omega
  · intro p hp
    rcases mem_putA hp with hp | rfl
    · have := h.lr p hp
      omega
    · show ((getA st.sheets t).getD []).length ≤ n + 1
      omega
  · show (shareAll st.shares ((getA st.sheets t).getD [])).length ≤ n + 1
    obtain ⟨row, hrow⟩ := getA_len ht
    rw [shareAll_len _ _ fun p hp => by
      rw [hrow] at hp
      obtain ⟨x, hx⟩ := row_shares h hrow p hp
      rw [hx]; rfl]
    have := h.lh
    omega
  · show (putA st.met c ()).length ≤ n + 1 + 1
    have := putA_len st.met c ()
    have := h.lm
    omega
  · intro t' h'
    have h2 : (getA (putA st.sheets c ((getA st.sheets t).getD [])) t').isSome = true := h'
    show (getA (putA st.met c ()) t').isSome = true
    rw [getA_putA] at h2 ⊢
    by_cases e : t' = c
    · rw [if_pos e]; rfl
    · rw [if_neg e] at h2 ⊢; exact h.mks t' h2
theorem endTurn_at {z : List Ev × AL Int} {x c : Int} (h : getA z.2 x = some c) : getA (endTurn z x).2 x = if c = 1 then none else some (c - 1) := by
  unfold endTurn
  rw [h]
  dsimp only [Option.getD_some]
  by_cases e : c = 1
  · rw [if_pos e, if_pos (by omega), getA_dropA, if_pos rfl]
  · rw [if_neg e, if_neg (by omega), getA_putA, if_pos rfl]
theorem endTurn_nodup {z : List Ev × AL Int} (h : (keysA z.2).Nodup) (x : Int) : (keysA (endTurn z x).2).Nodup := by
  unfold endTurn
  dsimp only
  split
  · exact nodup_dropA (nodup_putA h _ _) _
  · exact nodup_putA h _ _
theorem endTurn_len {z : List Ev × AL Int} {x c : Int} (h : getA z.2 x = some c) : (endTurn z x).2.length ≤ z.2.length := by
  unfold endTurn
  dsimp only
  split
  · refine Nat.le_trans (List.length_filter_le _ _) ?_
    rw [putA_len_in h]; exact Nat.le_refl _
  · show (putA z.2 x _).length ≤ _
    rw [putA_len_in h]; exact Nat.le_refl _
/-- the end's fold over distinct bodies that all stand -/
theorem endFold : ∀ {l : List Int} {z : List Ev × AL Int}, l.Nodup → (keysA z.2).Nodup → (∀ x ∈ l, (getA z.2 x).isSome = true) →
    (∀ b, getA (l.foldl endTurn z).2 b = if b ∈ l then (if getA z.2 b = some 1 then none else (getA z.2 b).map (· - 1)) else getA z.2 b) ∧ (keysA (l.foldl endTurn z).2).Nodup ∧ (l.foldl endTurn z).2.length ≤ z.2.length ∧
    (l.foldl endTurn z).1 = z.1 ++ (l.filter fun b => getA z.2 b = some 1).map Ev.gone
  | [], z, _, nd, _ => ⟨fun b => by simp, nd, Nat.le_refl _, by simp⟩
  | x :: l, z, nl, nd, hs => by
    have nl' := List.nodup_cons.mp nl
    obtain ⟨c, hc⟩ := getA_len (hs x List.mem_cons_self)
    have ho : ∀ b ∈ l, getA (endTurn z x).2 b = getA z.2 b := fun b hb => endTurn_other fun e => nl'.1 (by rw [← e]; exact hb)
    obtain ⟨h1, h2, h3, h4⟩ := endFold (l := l) (z := endTurn z x) nl'.2 (endTurn_nodup nd x) fun y hy => by rw [ho y hy]; exact hs y (List.mem_cons_of_mem _ hy)
    refine ⟨fun b => ?_, h2, Nat.le_trans h3 (endTurn_len hc), ?_⟩
    · show getA (l.foldl endTurn (endTurn z x)).2 b = _
      rw [h1 b]
      by_cases eb : b = x
      · subst eb
        rw [if_neg nl'.1, if_pos List.mem_cons_self, endTurn_at hc, hc]
        by_cases e1 : c = 1
        · subst e1; simp
        · rw [if_neg e1, if_neg (fun z => e1 (Option.some.inj z))]; rfl
      · rw [endTurn_other eb]
        by_cases e2 : b ∈ l
        · rw [if_pos e2, if_pos (List.mem_cons_of_mem _ e2)]
        · rw [if_neg e2, if_neg (fun z => (List.mem_cons.mp z).elim eb e2)]
    · show (l.foldl endTurn (endTurn z x)).1 = _
      rw [h4]
      have hf : (l.filter fun b => decide (getA (endTurn z x).2 b = some 1)) = l.filter fun b => decide (getA z.2 b = some 1) := List.filter_congr fun b hb => by rw [ho b hb]
      rw [hf, List.filter_cons, hc]
      unfold endTurn
      rw [hc]
      dsimp only [Option.getD_some]
      by_cases e1 : c = 1
      · subst e1
        simp
      · rw [if_neg (show ¬ c - 1 = 0 by omega), if_neg (by simp [e1])]
theorem BOk.fin {n : Nat} {st : BSt} (h : BOk n st) {t : Int} (ht : (getA st.sheets t).isSome = true) : BOk (n + 1) (endE st t).2 ∧ (endE st t).1.length ≤ n ∧
    (endE st t).1 = (((sortI (((getA st.sheets t).getD []).map (·.2))).filter fun b => decide (occ st.sheets b = 1)).map Ev.gone) := by
  obtain ⟨r1, r2, r3⟩ := row_ok h t
  have hperm := sortI_perm (((getA st.sheets t).getD []).map (·.2))
  have hnd : (sortI (((getA st.sheets t).getD []).map (·.2))).Nodup := hperm.symm.nodup_iff.mp r2
  have hmem : ∀ b, b ∈ sortI (((getA st.sheets t).getD []).map (·.2)) ↔ occR ((getA st.sheets t).getD []) b ≠ 0 := fun b => by rw [occR_pos]; exact hperm.mem_iff
  have hle := fun b => occR_le_occ (t := t) b h.nds
  have hst : ∀ x ∈ sortI (((getA st.sheets t).getD []).map (·.2)), (getA st.shares x).isSome = true := fun x hx => by
    rw [h.sh x, if_neg (by have := (hmem x).mp hx; have := hle x; omega)]; rfl
  obtain ⟨h1, h2, h3, h4⟩ := endFold (z := ([], st.shares)) hnd h.ndh hst
  have hone : ∀ b, getA st.shares b = some 1 ↔ occ st.sheets b = 1 := fun b => by
    rw [h.sh b]
    by_cases e : occ st.sheets b = 0
    · rw [if_pos e]; simp [e]
    · rw [if_neg e]; simp; omega
  have hdrop := fun b => occ_dropA t b h.nds
  have heq : (endE st t).1 = (((sortI (((getA st.sheets t).getD []).map (·.2))).filter fun b => decide (occ st.sheets b = 1)).map Ev.gone) := by
    show ((sortI (((getA st.sheets t).getD []).map (·.2))).foldl endTurn ([], st.shares)).1 = _
    rw [h4, List.nil_append]
    congr 1
    apply List.filter_congr
    intro b _
    have := hone b
    by_cases e : occ st.sheets b = 1
    · rw [decide_eq_true e, decide_eq_true (this.mpr e)]
    · rw [decide_eq_false e, decide_eq_false (fun z => e (this.mp z))]
  refine ⟨⟨nodup_dropA h.nds _, fun p hp => h.ndr p (List.mem_filter.mp hp).1, fun p hp => h.ndv p (List.mem_filter.mp hp).1, fun b => ?_, h2, fun b hb => ?_, h.nn, ?_, ?_, fun p hp => ?_, ?_, ?_, fun t' h' => ?_⟩, ?_, heq⟩
  · show getA ((sortI (((getA st.sheets t).getD []).map (·.2))).foldl endTurn ([], st.shares)).2 b = if occ (dropA st.sheets t) b = 0 then none else some ((occ (dropA st.sheets t) b : Nat) : Int)
    rw [h1 b]
    have e0 := hdrop b
    have hm := hmem b
    have hb1 : occR ((getA st.sheets t).getD []) b ≤ 1 := occR_le_one r2
    have hsb := h.sh b
    by_cases em : b ∈ sortI (((getA st.sheets t).getD []).map (·.2))
    · have := hm.mp em
      rw [if_pos em]
      show (if getA st.shares b = some 1 then none else (getA st.shares b).map (· - 1)) = _
      by_cases e1 : occ st.sheets b = 1
      · rw [if_pos ((hone b).mpr e1), if_pos (by omega)]
      · rw [if_neg (fun z => e1 ((hone b).mp z)), if_neg (show ¬ occ (dropA st.sheets t) b = 0 by omega), hsb, if_neg (by omega)]
        show some ((occ st.sheets b : Int) - 1) = _
        congr 1
        omega
    · have : occR ((getA st.sheets t).getD []) b = 0 := Classical.byContradiction fun z => em (hm.mpr z)
      rw [if_neg em]
      show getA st.shares b = _
      rw [hsb, show occ (dropA st.sheets t) b = occ st.sheets b by omega]
  · have e0 := hdrop b
    have hb' : occ (dropA st.sheets t) b ≠ 0 := hb
    exact h.lt b (by omega)
  · show st.next ≤ ((n + 1 : Nat) : Int)
    have := h.ln
    omega
  · show (dropA st.sheets t).length ≤ n + 1 + 1
    have := List.length_filter_le (fun p : Int × AL Int => decide (p.1 ≠ t)) st.sheets
    have := h.ls
    unfold dropA
    omega
  · have := h.lr p (List.mem_filter.mp hp).1
    omega
  · show ((sortI (((getA st.sheets t).getD []).map (·.2))).foldl endTurn ([], st.shares)).2.length ≤ n + 1
    have h5 : ((sortI (((getA st.sheets t).getD []).map (·.2))).foldl endTurn ([], st.shares)).2.length ≤ st.shares.length := h3
    have := h.lh
    omega
  · show st.met.length ≤ n + 1 + 1
    have := h.lm
    omega
  · have h2 : (getA (dropA st.sheets t) t').isSome = true := h'
    rw [getA_dropA] at h2
    by_cases e : t' = t
    · rw [if_pos e] at h2; cases h2
    · rw [if_neg e] at h2; exact h.mks t' h2
  · rw [heq, List.length_map]
    refine Nat.le_trans (List.length_filter_le _ _) ?_
    rw [hperm.length_eq, List.length_map]
    exact r3
theorem BOk.more {n m : Nat} {st : BSt} (h : BOk n st) (hm : n ≤ m) : BOk m st :=
  ⟨h.nds, h.ndr, h.ndv, h.sh, h.ndh, h.lt, h.nn, by have := h.ln; omega, by have := h.ls; omega, fun p hp => by have := h.lr p hp; omega, by have := h.lh; omega, by have := h.lm; omega, h.mks⟩
theorem BOk.zero : BOk 0 st0 := by
  have ho : ∀ b, occ st0.sheets b = 0 := fun b => rfl
  refine ⟨by simp [st0, keysA], ?_, ?_, fun b => by rw [ho, if_pos rfl]; rfl, by simp [st0, keysA], fun b hb => absurd (ho b) hb, Int.le_refl _, Int.le_refl _, Nat.le_refl _, ?_, Nat.le_refl _, Nat.le_refl _, ?_⟩
  · intro p hp; simp [st0] at hp; subst hp; exact List.nodup_nil
  · intro p hp; simp [st0] at hp; subst hp; exact List.nodup_nil
  · intro p hp; simp [st0] at hp; subst hp; exact Nat.le_refl _
  · intro t h
    simp only [st0, getA_cons, getA_nil] at h ⊢
    by_cases e : (1 : Int) = t
    · rw [if_pos e]; rfl
    · rw [if_neg e] at h; cases h
/-- a deed that is told to be well can be done -/
theorem can_of {n : Nat} {st : BSt} (h : BOk n st) {d : Deed} (ok : okD st d = true) : can st d := by
  have isT : ∀ t : Int, thereD st (.int t) = true → (getA st.sheets t).isSome = true := fun t ht => (Bool.and_eq_true_iff.mp ht).2
  cases d with
  | load t s => exact isT t (Bool.and_eq_true_iff.mp ok).1
  | store t s => exact isT t (Bool.and_eq_true_iff.mp ok).1
  | fork t c =>
    obtain ⟨h1, h2⟩ := Bool.and_eq_true_iff.mp ok
    refine ⟨isT t h1, ?_⟩
    have h3 : comeD st (.int c) = true := by simpa [deedD] using h2
    have h4 : (getA st.met c).isSome = false := by
      have := (Bool.and_eq_true_iff.mp h3).2
      simpa using this
    cases q : getA st.sheets c with
    | none => rfl
    | some x =>
      have := h.mks c (by rw [q]; rfl)
      rw [h4] at this; cases this
  | fin t => exact isT t (Bool.and_eq_true_iff.mp ok).1
theorem BOk.step {n : Nat} {st : BSt} (h : BOk n st) (hn : 1 ≤ n + 1) {d : Deed} (c : can st d) : BOk (n + 1) (doneE st d).2 ∧ (doneE st d).1.length ≤ n + 2 := by
  cases d with
  | load t s =>
    refine ⟨h.more (Nat.le_succ n), ?_⟩
    show (loadE st t s).length ≤ n + 2
    unfold loadE
    cases bodyOf st t s <;> simp
  | store t s =>
    show BOk (n + 1) (storeE st t s).2 ∧ (storeE st t s).1.length ≤ n + 2
    unfold storeE
    cases q : bodyOf st t s with
    | none =>
      refine ⟨?_, by simp⟩
      have := h.withBody (s := s) c st.shares h.ndh h.lh fun b => by
        have e3 : (if (none : Option Int) = some b then 1 else 0) = 0 := by simp
        rw [q, e3, Nat.sub_zero]; exact h.sh b
      exact this
    | some x =>
      obtain ⟨hc, hc0⟩ := shares_of h q
      dsimp only
      by_cases e : 1 < cnt st x
      · rw [if_pos e]
        refine ⟨?_, by simp⟩
        refine h.withBody (s := s) c (putA st.shares x (cnt st x - 1)) (nodup_putA h.ndh _ _) (by rw [putA_len_in hc]; exact h.lh) fun b => ?_
        have hx := h.sh x
        rw [hc] at hx
        rw [q, getA_putA]
        by_cases eb : b = x
        · subst eb
          rw [if_pos rfl, if_pos rfl]
          by_cases e0 : occ st.sheets b = 0
          · rw [if_pos e0] at hx; cases hx
          · rw [if_neg e0] at hx
            have hx' := Option.some.inj hx
            rw [if_neg (by omega)]
            congr 1
            omega
        · have e3 : (if some x = some b then 1 else 0) = 0 := if_neg fun z => eb (Option.some.inj z).symm
          rw [if_neg eb, e3, Nat.sub_zero]
          exact h.sh b
      · rw [if_neg e]
        exact ⟨h.more (Nat.le_succ n), by simp⟩
  | fork t x => exact ⟨h.fork c.1 c.2, Nat.zero_le _⟩
  | fin t =>
    obtain ⟨h1, h2, _⟩ := h.fin c
    exact ⟨h1, Nat.le_trans h2 (by omega)⟩
theorem run_ok {ds : List Deed} (ok : okAll st0 ds = true) : ∀ i, i ≤ ds.length → BOk i (runAll ([], st0) (ds.take i)).2 ∧ (runAll ([], st0) (ds.take i)).1.length ≤ i * (i + 2)
  | 0, _ => ⟨BOk.zero, Nat.zero_le _⟩
  | i + 1, hi => by
    obtain ⟨h1, h2⟩ := run_ok ok i (by omega)
    have hd : ds[i]? = some ds[i] := by simp
    have hr : runAll ([], st0) (ds.take (i + 1)) = runStep (runAll ([], st0) (ds.take i)) ds[i] := take_succ_fold hd
    rw [hr]
    obtain ⟨h3, h4⟩ := h1.step (by omega) (can_of h1 (okAll_at (es := []) ok hd))
    refine ⟨h3, ?_⟩
    show ((runAll ([], st0) (ds.take i)).1 ++ _).length ≤ _
    rw [List.length_append]
    have e : (i + 1) * (i + 1 + 2) = i * (i + 2) + (i + 2) + (i + 1) := by
      rw [show i + 1 + 2 = (i + 2) + 1 from rfl, Nat.mul_succ, Nat.succ_mul]
    omega
def spIsDeed (K : PySem.W.Frag) (C : Addr) : Sp := fun vs H Q _ => ∃ (F : Hp) (p : Addr) (st : BSt) (W : List Addr) (v : V) (d : PyData), vs = [.ref p, v] ∧ Same F H ∧ BAt C F H p st W ∧ Dp K F v d ∧ ∀ F' H', Gr [] F H F' H' → Q (.bl (deedOk st d)) H'
/-- gone_through of deeds that are well -/
def spGone (K : PySem.W.Frag) (C : Addr) : Sp := fun vs H Q _ => ∃ (F : Hp) (v : V) (ds : List Deed), vs = [v] ∧ Same F H ∧ Dp K F v (.tuple (ds.map deedD)) ∧ ds.length ≤ 400 ∧ okAll st0 ds = true ∧
  ∀ r q p xs F' H' W', Gr [] F H F' H' → BAt C F' H' p (runAll ([], st0) ds).2 W' → (∀ b ∈ W', H b = none) → H q = none → q ∉ W' → F' q = none → H' q = some (.lst xs) → DpAll K F' xs ((runAll ([], st0) ds).1.map evD) →
    H r = none → H' r = some (.tup [.ref q, .ref p]) → Q (.ref r) H'
end Bo
namespace DL
open PySem PySem.Spec PyProof.Rows L2
theorem Gr.fresh {W : List Addr} {F H F1 H1 F2 H2 : Hp} (a : Gr [] F H F1 H1) (b : Gr W F1 H1 F2 H2) (h : ∀ x ∈ W, H x = none) : Gr [] F H F2 H2 :=
  ⟨a.fs.trans b.fs, fun c o n e => b.hs c o (fun z => by rw [h c z] at e; cases e) (a.hs c o n e), b.sub, fun c h1 h2 => b.own c (a.own c h1 h2) (a.live c h2), fun c h => b.live c (a.live c h)⟩
end DL

/-! the object of frames -/
namespace Fr
open PySem PySem.Spec PyProof.Rows L2 DL Bo
inductive Rule where
  | first | longest | clock | told (cs : List Int)
def ruleD : Rule → PyData
  | .first => .str "first"
  | .longest => .str "longest"
  | .clock => .str "clock"
  | .told cs => .tuple [.str "told", .tuple (cs.map PyData.int)]
def Rule.isStr : Rule → Bool
  | .told _ => false | _ => true
def Rule.isClock : Rule → Bool
  | .clock => true | _ => false
def Rule.isLongest : Rule → Bool
  | .longest => true | _ => false
theorem isStr_rule (R : Rule) : isStr (ruleD R) = R.isStr := by cases R <;> rfl
theorem eqv_clock (R : Rule) : PyData.eqv (ruleD R) (.str "clock") = R.isClock := by
  cases R with
  | told cs => simp [ruleD, PyData.eqv, Rule.isClock]
  | _ => simp only [ruleD, PyData.eqv, Rule.isClock] <;> decide +kernel
theorem eqv_longest (R : Rule) : PyData.eqv (ruleD R) (.str "longest") = R.isLongest := by
  cases R with
  | told cs => simp [ruleD, PyData.eqv, Rule.isLongest]
  | _ => simp only [ruleD, PyData.eqv, Rule.isLongest] <;> decide +kernel
theorem lay_str {x : Str} (h : PyData.strOk x = true) : PyData.canLay0 (.str x) = true := by unfold PyData.canLay0; exact h
theorem shaped_str {x : Str} (h : PyData.strOk x = true) : SeqAt.shaped (.str x) = true := by
  unfold SeqAt.shaped
  rw [lay_str h, show (PyData.str x).depth = 0 by simp [PyData.depth]] <;> rfl
theorem shaped_clock : SeqAt.shaped (.str "clock") = true := shaped_str (by decide +kernel)
theorem shaped_longest : SeqAt.shaped (.str "longest") = true := shaped_str (by decide +kernel)
theorem shaped_rule (R : Rule) : SeqAt.shaped (ruleD R) = true := by
  cases R with
  | first => exact shaped_str (by decide +kernel)
  | longest => exact shaped_str (by decide +kernel)
  | clock => exact shaped_str (by decide +kernel)
  | told cs =>
    have h1 := PySem.W.ke_canLayAll0 cs
    have h2 := PySem.W.ke_depthAll cs
    have h3 : PyData.canLay0 (.str "told") = true := lay_str (by decide +kernel)
    simp [ruleD, SeqAt.shaped, PyData.canLayAll0, PyData.depth, PyData.depthAll, h2, h3, PyData.canLay0, h1]
    exact h3
structure FSt where
  places : Int
  rule : Rule
  row : List Int
  marked : AL Unit
  missed : Int
  left : Nat
def fflds (n : Int) (v : V) (r m : Addr) (mi : Int) (l : Nat) : List (Str × V) := [("places", .int n), ("rule", v), ("row", .ref r), ("marked", .ref m), ("missed", .int mi), ("left", .int (l : Int))]
structure FParts (K : PySem.W.Frag) (C : Addr) (F H : Hp) (p : Addr) (st : FSt) (v : V) (r m : Addr) : Prop where
  ob : ∃ dx, H p = some (.ins C dx (fflds st.places v r m st.missed st.left))
  rwd : H r = some (.lst (st.row.map V.int))
  mkd : H m = some (.dK (kM (fun _ => V.bl true) st.marked))
  rl : Dp K F v (ruleD st.rule)
  pr : p ≠ r
  pm : p ≠ m
  rm : r ≠ m
  fp : F p = none
  fr : F r = none
  fm : F m = none
def FAt (K : PySem.W.Frag) (C : Addr) (F H : Hp) (p : Addr) (st : FSt) (W : List Addr) : Prop := ∃ v r m, W = [p, r, m] ∧ FParts K C F H p st v r m
theorem lk_places (n : Int) (v : V) (r m : Addr) (mi : Int) (l : Nat) : (fflds n v r m mi l).lookup ("places" : Str) = some (.int n) := rfl
theorem lk_rule (n : Int) (v : V) (r m : Addr) (mi : Int) (l : Nat) : (fflds n v r m mi l).lookup ("rule" : Str) = some v := rfl
theorem lk_row (n : Int) (v : V) (r m : Addr) (mi : Int) (l : Nat) : (fflds n v r m mi l).lookup ("row" : Str) = some (.ref r) := rfl
theorem lk_marked (n : Int) (v : V) (r m : Addr) (mi : Int) (l : Nat) : (fflds n v r m mi l).lookup ("marked" : Str) = some (.ref m) := rfl
theorem lk_missed (n : Int) (v : V) (r m : Addr) (mi : Int) (l : Nat) : (fflds n v r m mi l).lookup ("missed" : Str) = some (.int mi) := rfl
theorem lk_left (n : Int) (v : V) (r m : Addr) (mi : Int) (l : Nat) : (fflds n v r m mi l).lookup ("left" : Str) = some (.int (l : Int)) := rfl
theorem put_missed (n : Int) (v : V) (r m : Addr) (mi k : Int) (l : Nat) : putF "missed" (.int k) (fflds n v r m mi l) = fflds n v r m k l := rfl
theorem put_left (n : Int) (v : V) (r m : Addr) (mi : Int) (l : Nat) : putF "left" (.int ((l : Int) + 1)) (fflds n v r m mi l) = fflds n v r m mi (l + 1) := rfl
section
variable {K : PySem.W.Frag} {C : Addr} {F H : Hp} {p r m : Addr} {v : V} {st : FSt}
theorem FParts.step (h : FParts K C F H p st v r m) {F' H' : Hp} (fs : Same F F') (k : ∀ x ∈ [p, r, m], ∀ o, H x = some o → H' x = some o) (o : ∀ x ∈ [p, r, m], F' x = none) : FParts K C F' H' p st v r m := by
  obtain ⟨dx, h1⟩ := h.ob
  exact ⟨⟨dx, k p (by simp) _ h1⟩, k r (by simp) _ h.rwd, k m (by simp) _ h.mkd, h.rl.to fs, h.pr, h.pm, h.rm, o p (by simp), o r (by simp), o m (by simp)⟩
theorem FParts.off (h : FParts K C F H p st v r m) : ∀ x ∈ [p, r, m], F x = none := by
  intro x hx
  simp only [List.mem_cons, List.not_mem_nil, or_false] at hx
  rcases hx with rfl | rfl | rfl
  · exact h.fp
  · exact h.fr
  · exact h.fm
theorem FParts.live (h : FParts K C F H p st v r m) : ∀ x ∈ [p, r, m], H x ≠ none := by
  obtain ⟨dx, h1⟩ := h.ob
  intro x hx e
  simp only [List.mem_cons, List.not_mem_nil, or_false] at hx
  rcases hx with rfl | rfl | rfl
  · rw [h1] at e; cases e
  · rw [h.rwd] at e; cases e
  · rw [h.mkd] at e; cases e
theorem FParts.gr (h : FParts K C F H p st v r m) {F' H' : Hp} {W : List Addr} (g : Gr W F H F' H') (n : ∀ x ∈ [p, r, m], x ∉ W) : FParts K C F' H' p st v r m :=
  h.step g.fs (fun x hx o e => g.at (n x hx) e) fun x hx => g.own x (h.off x hx) (h.live x hx)
theorem FParts.gr0 (h : FParts K C F H p st v r m) {F' H' : Hp} (g : Gr [] F H F' H') : FParts K C F' H' p st v r m := h.gr g fun _ _ z => nomatch z
theorem FParts.wRow (h : FParts K C F H p st v r m) (row : List Int) : FParts K C F (upd H r (.lst (row.map V.int))) p { st with row := row } v r m := by
  obtain ⟨dx, h1⟩ := h.ob
  exact ⟨⟨dx, (upd_ne h.pr).trans h1⟩, upd_same, (upd_ne h.rm.symm).trans h.mkd, h.rl, h.pr, h.pm, h.rm, h.fp, h.fr, h.fm⟩
theorem FParts.wMark (h : FParts K C F H p st v r m) (mk : AL Unit) : FParts K C F (upd H m (.dK (kM (fun _ => V.bl true) mk))) p { st with marked := mk } v r m := by
  obtain ⟨dx, h1⟩ := h.ob
  exact ⟨⟨dx, (upd_ne h.pm).trans h1⟩, (upd_ne h.rm).trans h.rwd, upd_same, h.rl, h.pr, h.pm, h.rm, h.fp, h.fr, h.fm⟩
theorem FParts.wMissed (h : FParts K C F H p st v r m) (dx : Addr) (k : Int) : FParts K C F (upd H p (.ins C dx (fflds st.places v r m k st.left))) p { st with missed := k } v r m :=
  ⟨⟨dx, upd_same⟩, (upd_ne h.pr.symm).trans h.rwd, (upd_ne h.pm.symm).trans h.mkd, h.rl, h.pr, h.pm, h.rm, h.fp, h.fr, h.fm⟩
theorem FParts.wLeft (h : FParts K C F H p st v r m) (dx : Addr) (k : Nat) : FParts K C F (upd H p (.ins C dx (fflds st.places v r m st.missed k))) p { st with left := k } v r m :=
  ⟨⟨dx, upd_same⟩, (upd_ne h.pr.symm).trans h.rwd, (upd_ne h.pm.symm).trans h.mkd, h.rl, h.pr, h.pm, h.rm, h.fp, h.fr, h.fm⟩
theorem FAt.gr (h : FAt K C F H p st W') {F' H' : Hp} {W : List Addr} (g : Gr W F H F' H') (n : ∀ x ∈ W', x ∉ W) : FAt K C F' H' p st W' := by
  obtain ⟨v, r, m, rfl, P⟩ := h
  exact ⟨v, r, m, rfl, P.gr g n⟩
theorem FAt.gr0 (h : FAt K C F H p st W') {F' H' : Hp} (g : Gr [] F H F' H') : FAt K C F' H' p st W' := h.gr g fun _ _ z => nomatch z
theorem FAt.live (h : FAt K C F H p st W') : ∀ x ∈ W', H x ≠ none := by
  obtain ⟨v, r, m, rfl, P⟩ := h
  exact P.live
end
/-- the class as the top has made it -/
structure FrC (K : PySem.W.Frag) (C : Addr) : Prop where
  cl : Cls K C
  n1 : NoAttr K C "places"
  n2 : NoAttr K C "rule"
  n3 : NoAttr K C "row"
  n4 : NoAttr K C "marked"
  n5 : NoAttr K C "missed"
  n6 : NoAttr K C "left"
/-! what the methods do -/
def turnC : Nat → List Int → AL Unit → List Int × AL Unit
  | 0, row, mk => (row, mk)
  | _ + 1, [], mk => ([], mk)
  | n + 1, b :: row, mk => if (getA mk b).isSome = true then turnC n (row ++ [b]) (dropA mk b) else (b :: row, mk)
theorem getA_some_len {α : Type} {l : AL α} {k : Int} (h : (getA l k).isSome = true) : (dropA l k).length < l.length := by
  obtain ⟨a, ha⟩ := getA_len h
  have hm := getA_mem ha
  unfold dropA
  have h1 := List.length_filter_le (fun p : Int × α => decide (p.1 ≠ k)) l
  rcases Nat.lt_or_ge (l.filter fun p : Int × α => decide (p.1 ≠ k)).length l.length with h2 | h2
  · exact h2
  · have h3 := List.length_filter_eq_length_iff.mp (Nat.le_antisymm h1 h2) _ hm
    simp at h3
theorem turnC_fuel : ∀ (n m : Nat) (row : List Int) (mk : AL Unit), mk.length ≤ n → mk.length ≤ m → turnC n row mk = turnC m row mk
  | 0, 0, _, _, _, _ => rfl
  | 0, m + 1, row, mk, h, _ => by
    have : mk = [] := List.length_eq_zero_iff.mp (Nat.le_zero.mp h)
    subst this
    cases row with
    | nil => rfl
    | cons b row => rfl
  | n + 1, 0, row, mk, _, h => by
    have : mk = [] := List.length_eq_zero_iff.mp (Nat.le_zero.mp h)
    subst this
    cases row with
    | nil => rfl
    | cons b row => rfl
  | n + 1, m + 1, [], mk, _, _ => rfl
  | n + 1, m + 1, b :: row, mk, h1, h2 => by
    unfold turnC
    by_cases e : (getA mk b).isSome = true
    · rw [if_pos e, if_pos e]
      have := getA_some_len e
      exact turnC_fuel n m _ _ (by omega) (by omega)
    · rw [if_neg e, if_neg e]
def choiceF (st : FSt) : Int := match st.rule with
  | .told cs => (cs[st.left]?).getD 0
  | _ => 0
def chosenF (st : FSt) : Int := ((sortI st.row)[(choiceF st % st.places).toNat]?).getD 0
def putOutF (st : FSt) : FSt :=
  let st1 := if st.rule.isClock then { st with row := (turnC st.marked.length st.row st.marked).1, marked := (turnC st.marked.length st.row st.marked).2 } else st
  let st2 := if st.rule.isStr then { st1 with row := st1.row.drop 1 } else { st1 with row := st1.row.erase (chosenF st1) }
  { st2 with left := st2.left + 1 }
def lookF (st : FSt) (b : Int) : FSt :=
  let st1 := if st.rule.isLongest then { st with row := st.row.erase b ++ [b] } else st
  if st.rule.isClock then { st1 with marked := putA st1.marked b () } else st1
def leaveF (st : FSt) (b : Int) : FSt := { st with row := st.row.erase b, marked := dropA st.marked b }
def comeF (st : FSt) : Ev → FSt
  | .gone b => leaveF st b
  | .look b | .make b => if b ∈ st.row then lookF st b else
    let st1 := if (st.row.length : Int) = st.places then putOutF st else st
    { st1 with row := st1.row ++ [b], missed := st1.missed + 1 }
theorem turnC_len : ∀ (n : Nat) (row : List Int) (mk : AL Unit), (turnC n row mk).1.length = row.length
  | 0, _, _ => rfl
  | _ + 1, [], _ => rfl
  | n + 1, b :: row, mk => by
    unfold turnC
    by_cases e : (getA mk b).isSome = true
    · rw [if_pos e, turnC_len n]; simp
    · rw [if_neg e]
theorem putOut_len (st : FSt) : (putOutF st).row.length ≤ st.row.length := by
  have h0 : (if st.rule.isClock then ({ st with row := (turnC st.marked.length st.row st.marked).1, marked := (turnC st.marked.length st.row st.marked).2 } : FSt) else st).row.length = st.row.length := by
    by_cases e : st.rule.isClock = true
    · rw [if_pos e]; exact turnC_len ..
    · rw [if_neg e]
  unfold putOutF
  dsimp only
  generalize (if st.rule.isClock then ({ st with row := (turnC st.marked.length st.row st.marked).1, marked := (turnC st.marked.length st.row st.marked).2 } : FSt) else st) = st1 at *
  by_cases e : st.rule.isStr = true
  · rw [if_pos e]
    show (st1.row.drop 1).length ≤ _
    rw [List.length_drop]; omega
  · rw [if_neg e]
    show (st1.row.erase _).length ≤ _
    have := List.length_erase_le (a := chosenF st1) (l := st1.row)
    omega
/-- what keeps the frames well, behind n events -/
structure FOk (n : Nat) (st : FSt) : Prop where
  p1 : 1 ≤ st.places
  p2 : st.places ≤ 16
  nd : st.row.Nodup
  rl : (st.row.length : Int) ≤ st.places
  ml : st.marked.length ≤ n
def spNeedFrames (K : PySem.W.Frag) : Sp := fun vs H Q _ => ∃ n : Int, vs = [.int n] ∧ 1 ≤ n ∧ n ≤ 16 ∧ Q .non H
def ruleOk : Rule → Prop
  | .told cs => cs.length ≤ 800 ∧ ∀ c ∈ cs, 0 ≤ c ∧ c ≤ 15
  | _ => True
def spChoices (K : PySem.W.Frag) : Sp := fun vs H Q _ => ∃ (F : Hp) (v : V) (cs : List Int), vs = [v] ∧ Same F H ∧ Dp K F v (.tuple (cs.map .int)) ∧ cs.length ≤ 800 ∧ (∀ c ∈ cs, 0 ≤ c ∧ c ≤ 15) ∧ ∀ F' H', Gr [] F H F' H' → Q (.bl true) H'
def spIsRule (K : PySem.W.Frag) : Sp := fun vs H Q _ => ∃ (F : Hp) (v : V) (R : Rule), vs = [v] ∧ Same F H ∧ Dp K F v (ruleD R) ∧ ruleOk R ∧ ∀ F' H', Gr [] F H F' H' → Q (.bl true) H'
def spNeedRule (K : PySem.W.Frag) : Sp := fun vs H Q _ => ∃ (F : Hp) (v : V) (R : Rule), vs = [v] ∧ Same F H ∧ Dp K F v (ruleD R) ∧ ruleOk R ∧ ∀ F' H', Gr [] F H F' H' → Q .non H'
def fst0 (n : Int) (R : Rule) : FSt := ⟨n, R, [], [], 0, 0⟩
def spFInit (K : PySem.W.Frag) (C : Addr) : Sp := fun vs H Q _ => ∃ (F : Hp) (p dx : Addr) (n : Int) (v : V) (R : Rule), vs = [.ref p, .int n, v] ∧ Same F H ∧ F p = none ∧ H p = some (.ins C dx []) ∧ Dp K F v (ruleD R) ∧
  ∀ F' H' W', Gr [p] F H F' H' → FAt K C F' H' p (fst0 n R) W' → (∀ b ∈ W', b = p ∨ H b = none) → Q .non H'
def spInside (K : PySem.W.Frag) (C : Addr) : Sp := fun vs H Q _ => ∃ (F : Hp) (p : Addr) (st : FSt) (W : List Addr), vs = [.ref p] ∧ Same F H ∧ FAt K C F H p st W ∧ ∀ v F' H', Gr [] F H F' H' → Dp K F' v (.tuple ((sortI st.row).map .int)) → Q v H'
def spChosen (K : PySem.W.Frag) (C : Addr) : Sp := fun vs H Q _ => ∃ (F : Hp) (p : Addr) (st : FSt) (W : List Addr), vs = [.ref p] ∧ Same F H ∧ FAt K C F H p st W ∧ st.rule.isStr = false ∧ 1 ≤ st.places ∧ (st.row.length : Int) = st.places ∧ ∀ F' H', Gr [] F H F' H' → Q (.int (chosenF st)) H'
/-- the object changed in its place -/
def FSet (K : PySem.W.Frag) (C : Addr) (F H : Hp) (p : Addr) (W : List Addr) (st' : FSt) (Q : VK) : Prop := ∀ F' H', Gr W F H F' H' → FAt K C F' H' p st' W → Q .non H'
def spPutOut (K : PySem.W.Frag) (C : Addr) : Sp := fun vs H Q _ => ∃ (F : Hp) (p : Addr) (st : FSt) (W : List Addr), vs = [.ref p] ∧ Same F H ∧ FAt K C F H p st W ∧ (∃ n, n ≤ 900000 ∧ FOk n st) ∧ (st.row.length : Int) = st.places ∧ FSet K C F H p W (putOutF st) Q
def spLook (K : PySem.W.Frag) (C : Addr) : Sp := fun vs H Q _ => ∃ (F : Hp) (p : Addr) (st : FSt) (W : List Addr) (b : Int), vs = [.ref p, .int b] ∧ Same F H ∧ FAt K C F H p st W ∧ (∃ n, n ≤ 900000 ∧ FOk n st) ∧ b ∈ st.row ∧ FSet K C F H p W (lookF st b) Q
def spLeave (K : PySem.W.Frag) (C : Addr) : Sp := fun vs H Q _ => ∃ (F : Hp) (p : Addr) (st : FSt) (W : List Addr) (b : Int), vs = [.ref p, .int b] ∧ Same F H ∧ FAt K C F H p st W ∧ FSet K C F H p W (leaveF st b) Q
def spComeF (K : PySem.W.Frag) (C : Addr) : Sp := fun vs H Q _ => ∃ (F : Hp) (p : Addr) (st : FSt) (W : List Addr) (v : V) (e : Ev), vs = [.ref p, v] ∧ Same F H ∧ FAt K C F H p st W ∧ Dp K F v (evD e) ∧ (∃ n, n ≤ 900000 ∧ FOk n st) ∧ FSet K C F H p W (comeF st e) Q
def runF (st : FSt) (es : List Ev) : FSt := es.foldl comeF st
/-- misses of deeds, frames and a rule that are well -/
def spMisses (K : PySem.W.Frag) : Sp := fun vs H Q _ => ∃ (F : Hp) (v u : V) (ds : List Deed) (n : Int) (R : Rule), vs = [v, .int n, u] ∧ Same F H ∧ Dp K F v (.tuple (ds.map deedD)) ∧ ds.length ≤ 400 ∧ okAll st0 ds = true ∧ 1 ≤ n ∧ n ≤ 16 ∧ Dp K F u (ruleD R) ∧ ruleOk R ∧
  ∀ w F' H', Gr [] F H F' H' → Dp K F' w (.tuple [.int (runF (fst0 n R) (runAll ([], st0) ds).1).missed, .tuple ((sortI (runF (fst0 n R) (runAll ([], st0) ds).1).row).map .int)]) → Q w H'
/-! lists of ints -/
theorem flat_ints (l : List Int) : (l.map V.int).all flatV = true := by rw [List.all_map, List.all_eq_true]; intro _ _; rfl
theorem inV_ints (b : Int) (l : List Int) : inV (.int b) (l.map V.int) = decide (b ∈ l) := by
  unfold inV
  rw [List.any_map]
  by_cases h : b ∈ l
  · rw [decide_eq_true h, List.any_eq_true]
    exact ⟨b, h, by show (b == b) = true; simp⟩
  · rw [decide_eq_false h, List.any_eq_false]
    intro x hx z
    have : (x == b) = true := z
    exact h (by rw [← eq_of_beq this]; exact hx)
theorem rem_at : ∀ {l : List Int} {b : Int}, b ∈ l → ∃ j, l[j]? = some b ∧ (∀ m : Nat, m < j → l[m]? ≠ some b) ∧ l.eraseIdx j = l.erase b
  | [], _, h => nomatch h
  | a :: l, b, h => by
    by_cases e : a = b
    · subst e
      exact ⟨0, rfl, fun m hm => absurd hm (Nat.not_lt_zero _), by simp⟩
    · have h' : b ∈ l := (List.mem_cons.mp h).resolve_left fun z => e z.symm
      obtain ⟨j, h1, h2, h3⟩ := rem_at h'
      refine ⟨j + 1, by simpa using h1, fun m hm => ?_, ?_⟩
      · cases m with
        | zero => simpa using e
        | succ m => simpa using h2 m (by omega)
      · rw [List.eraseIdx_cons_succ, h3, List.erase_cons, if_neg (by simpa using e)]
/-- l.remove(b), ints -/
theorem remO {r : Addr} {l : List Int} {b : Int} {H : Hp} {Q : VK} (h : H r = some (.lst (l.map V.int))) (hb : b ∈ l) (q : Q .non (upd H r (.lst ((l.erase b).map V.int)))) : rRemI (.ref r) [.int b] H Q := by
  obtain ⟨j, h1, h2, h3⟩ := rem_at hb
  exact ⟨r, l, b, j, rfl, rfl, h, h1, h2, by rw [h3]; exact q⟩
/-- l.pop(0) -/
theorem pop0 {r : Addr} {l : List Int} {b : Int} {H : Hp} {Q : VK} (h : H r = some (.lst ((b :: l).map V.int))) (q : Q (.int b) (upd H r (.lst (l.map V.int)))) : rPopAt (.ref r) [.int 0] H Q :=
  ⟨r, _, 0, 0, .int b, rfl, rfl, h, by decide, by decide, (ixN_seq (S.ixN_nat (n := ((b :: l).map V.int).length) (j := 0) (by simp))).1, rfl, q⟩
theorem turnC_perm : ∀ (n : Nat) (row : List Int) (mk : AL Unit), (turnC n row mk).1.Perm row
  | 0, _, _ => .refl _
  | _ + 1, [], _ => .refl _
  | n + 1, b :: row, mk => by
    unfold turnC
    by_cases e : (getA mk b).isSome = true
    · rw [if_pos e]
      exact (turnC_perm n _ _).trans (List.perm_append_comm (l₁ := row) (l₂ := [b]))
    · rw [if_neg e]
theorem turnC_mk : ∀ (n : Nat) (row : List Int) (mk : AL Unit), (turnC n row mk).2.length ≤ mk.length
  | 0, _, _ => Nat.le_refl _
  | _ + 1, [], _ => Nat.le_refl _
  | n + 1, b :: row, mk => by
    unfold turnC
    by_cases e : (getA mk b).isSome = true
    · rw [if_pos e]
      have := turnC_mk n (row ++ [b]) (dropA mk b)
      have := getA_some_len e
      omega
    · rw [if_neg e]; exact Nat.le_refl _
theorem chosenF_mem {st : FSt} (h1 : 1 ≤ st.places) (h2 : (st.row.length : Int) = st.places) : chosenF st ∈ st.row := by
  have hm1 := Int.emod_nonneg (choiceF st) (show st.places ≠ 0 by omega)
  have hm2 := Int.emod_lt_of_pos (choiceF st) (show 0 < st.places by omega)
  have hl2 : (sortI st.row).length = st.row.length := (sortI_perm _).length_eq
  have hj : (choiceF st % st.places).toNat < (sortI st.row).length := by omega
  unfold chosenF
  rw [List.getElem?_eq_getElem hj]
  exact (sortI_perm _).subset (List.getElem_mem hj)
/-- st with the clock turned -/
def turnF (st : FSt) : FSt := if st.rule.isClock then { st with row := (turnC st.marked.length st.row st.marked).1, marked := (turnC st.marked.length st.row st.marked).2 } else st
theorem turnF_facts (st : FSt) : (turnF st).row.Perm st.row ∧ (turnF st).marked.length ≤ st.marked.length ∧ (turnF st).places = st.places ∧ (turnF st).rule = st.rule ∧ (turnF st).left = st.left ∧ (turnF st).missed = st.missed := by
  unfold turnF
  by_cases e : st.rule.isClock = true
  · rw [if_pos e]; exact ⟨turnC_perm .., turnC_mk .., rfl, rfl, rfl, rfl⟩
  · rw [if_neg e]; exact ⟨.refl _, Nat.le_refl _, rfl, rfl, rfl, rfl⟩
theorem putOut_turn (st : FSt) : putOutF st = { (if st.rule.isStr then { turnF st with row := (turnF st).row.drop 1 } else { turnF st with row := (turnF st).row.erase (chosenF (turnF st)) }) with left := (turnF st).left + 1 } := by
  unfold putOutF turnF
  by_cases z : st.rule.isStr = true
  · simp [z]
  · simp [z]
theorem putOut_facts {st : FSt} (h1 : 1 ≤ st.places) (h2 : (st.row.length : Int) = st.places) : (putOutF st).row.Sublist (turnF st).row ∧ (putOutF st).row.length + 1 = st.row.length ∧ (putOutF st).marked.length ≤ st.marked.length ∧ (putOutF st).places = st.places ∧ (putOutF st).rule = st.rule ∧ (putOutF st).missed = st.missed ∧ (putOutF st).left = st.left + 1 := by
  obtain ⟨f1, f2, f3, f4, f5, f6⟩ := turnF_facts st
  rw [putOut_turn]
  have hl := f1.length_eq
  by_cases z : st.rule.isStr = true
  · rw [if_pos z]
    refine ⟨List.drop_sublist _ _, ?_, f2, f3, f4, f6, by show (turnF st).left + 1 = _; rw [f5]⟩
    show ((turnF st).row.drop 1).length + 1 = _
    rw [List.length_drop]; omega
  · rw [if_neg z]
    have hm := chosenF_mem (st := turnF st) (by omega) (by omega)
    refine ⟨List.erase_sublist, ?_, f2, f3, f4, f6, by show (turnF st).left + 1 = _; rw [f5]⟩
    show ((turnF st).row.erase _).length + 1 = _
    rw [List.length_erase_of_mem hm]
    omega
theorem nodup_snoc {l : List Int} {b : Int} (h : l.Nodup) (n : b ∉ l) : (l ++ [b]).Nodup := by
  rw [List.nodup_append]
  refine ⟨h, by simp, ?_⟩
  intro x hx y hy z
  simp at hy
  subst hy; subst z
  exact n hx
theorem FOk.step {n : Nat} {st : FSt} (h : FOk n st) (e : Ev) : FOk (n + 1) (comeF st e) ∧ (comeF st e).places = st.places ∧ (comeF st e).rule = st.rule := by
  have hcome : ∀ b, FOk (n + 1) (comeF st (.look b)) ∧ (comeF st (.look b)).places = st.places ∧ (comeF st (.look b)).rule = st.rule := fun b => by
    show FOk (n + 1) (if b ∈ st.row then lookF st b else _) ∧ (if b ∈ st.row then lookF st b else _).places = st.places ∧ (if b ∈ st.row then lookF st b else _).rule = st.rule
    by_cases hb : b ∈ st.row
    · rw [if_pos hb]
      have hl : (st.row.erase b ++ [b]).length = st.row.length := by
        rw [List.length_append, List.length_erase_of_mem hb]
        have := List.length_pos_of_mem hb
        show st.row.length - 1 + 1 = _
        omega
      have hnd : (st.row.erase b ++ [b]).Nodup := nodup_snoc (h.nd.erase b) (by rw [h.nd.mem_erase_iff]; simp)
      have ml := h.ml
      have rl := h.rl
      have pl := putA_len st.marked b ()
      unfold lookF
      by_cases e1 : st.rule.isLongest = true
      · rw [if_pos e1]
        by_cases e2 : st.rule.isClock = true
        · rw [if_pos e2]
          exact ⟨⟨h.p1, h.p2, hnd, by show ((st.row.erase b ++ [b]).length : Int) ≤ st.places; rw [hl]; exact rl, by show (putA st.marked b ()).length ≤ n + 1; omega⟩, rfl, rfl⟩
        · rw [if_neg e2]
          exact ⟨⟨h.p1, h.p2, hnd, by show ((st.row.erase b ++ [b]).length : Int) ≤ st.places; rw [hl]; exact rl, by show st.marked.length ≤ n + 1; omega⟩, rfl, rfl⟩
      · rw [if_neg e1]
        by_cases e2 : st.rule.isClock = true
        · rw [if_pos e2]
          exact ⟨⟨h.p1, h.p2, h.nd, rl, by show (putA st.marked b ()).length ≤ n + 1; omega⟩, rfl, rfl⟩
        · rw [if_neg e2]
          exact ⟨⟨h.p1, h.p2, h.nd, rl, by omega⟩, rfl, rfl⟩
    · rw [if_neg hb]
      have ml := h.ml
      have rl := h.rl
      by_cases e3 : (st.row.length : Int) = st.places
      · rw [if_pos e3]
        obtain ⟨f1, f2, f3, f4, f5, f6, f7⟩ := putOut_facts h.p1 e3
        obtain ⟨t1, _⟩ := turnF_facts st
        have hnd : (putOutF st).row.Nodup := f1.nodup (t1.symm.nodup_iff.mp h.nd)
        have hnb : b ∉ (putOutF st).row := fun z => hb (t1.subset (f1.subset z))
        refine ⟨⟨by show 1 ≤ (putOutF st).places; rw [f4]; exact h.p1, by show (putOutF st).places ≤ 16; rw [f4]; exact h.p2, nodup_snoc hnd hnb, ?_, by show (putOutF st).marked.length ≤ n + 1; omega⟩, f4, f5⟩
        show (((putOutF st).row ++ [b]).length : Int) ≤ (putOutF st).places
        rw [List.length_append, f4]
        show (((putOutF st).row.length + 1 : Nat) : Int) ≤ _
        omega
      · rw [if_neg e3]
        refine ⟨⟨h.p1, h.p2, nodup_snoc h.nd hb, ?_, by show st.marked.length ≤ n + 1; omega⟩, rfl, rfl⟩
        show ((st.row ++ [b]).length : Int) ≤ st.places
        rw [List.length_append]
        show ((st.row.length + 1 : Nat) : Int) ≤ _
        omega
  cases e with
  | look b => exact hcome b
  | make b => exact hcome b
  | gone b =>
    have h1 := List.length_erase_le (a := b) (l := st.row)
    have h2 := List.length_filter_le (fun p : Int × Unit => decide (p.1 ≠ b)) st.marked
    have ml := h.ml
    have rl := h.rl
    exact ⟨⟨h.p1, h.p2, h.nd.erase b, by show ((st.row.erase b).length : Int) ≤ st.places; omega, by show (dropA st.marked b).length ≤ n + 1; unfold dropA; omega⟩, rfl, rfl⟩
theorem FOk.zero {n : Int} (h1 : 1 ≤ n) (h2 : n ≤ 16) (R : Rule) : FOk 0 (fst0 n R) := ⟨h1, h2, List.nodup_nil, by show (0 : Int) ≤ n; omega, Nat.le_refl _⟩
theorem runF_ok {n : Int} (h1 : 1 ≤ n) (h2 : n ≤ 16) (R : Rule) (es : List Ev) : ∀ i, i ≤ es.length → FOk i (runF (fst0 n R) (es.take i))
  | 0, _ => FOk.zero h1 h2 R
  | i + 1, hi => by
    have hd : es[i]? = some es[i] := by simp
    have hr : runF (fst0 n R) (es.take (i + 1)) = comeF (runF (fst0 n R) (es.take i)) es[i] := take_succ_fold hd
    rw [hr]
    exact ((runF_ok h1 h2 R es i (by omega)).step _).1
end Fr
namespace DL
open PySem PySem.Spec PyProof.Rows L2
/-- an object that came in the stretch becomes frozen -/
theorem Gr.frz {W : List Addr} {F H F1 H1 : Hp} (g : Gr W F H F1 H1) {q : Addr} {o : HO} (hq : H q = none) (fq : F1 q = none) (h : H1 q = some o) : Gr W F H (upd F1 q o) H1 := by
  refine ⟨fun b u e => ?_, g.hs, fun b u e => ?_, fun b e1 e2 => ?_, g.live⟩
  · have := g.fs b u e
    rw [upd_ne (ne_of_none this fq)]; exact this
  · by_cases hb : b = q
    · subst hb; rw [upd_same] at e; rw [h]; exact e
    · rw [upd_ne hb] at e; exact g.sub b u e
  · by_cases hb : b = q
    · subst hb; exact absurd hq e2
    · rw [upd_ne hb]; exact g.own b e1 e2
end DL
namespace S
open PySem PySem.Spec PyProof.Rows L2 DL
theorem ixTO {K : PySem.W.Frag} {H : Hp} {Q : VK} {a : Addr} {xs : List V} {w : V} {i : Int} (h : H a = some (.tup xs)) (e : atI xs i = some w) (q : Q w H) : rIx K (.ref a) (.int i) H Q := .inr (.inl ⟨a, xs, i, w, rfl, rfl, .inl (.inl h), e, q⟩)
end S

/-! the law's own helpers: the deck, draws, sameness -/
namespace S
open PySem PySem.Spec PyProof.Rows L2 DL
/-- a statement both of whose ways meet again -/
theorem seqJ {s1 s3 : TS} {D : Ends} {σ : L2.St} {H : Hp} (P : L2.St → Hp → Prop) (hr : ∀ σ' H', P σ' H' → s3 D σ' H') (h : (∀ σ' H', P σ' H' → s3 D σ' H') → s1 { D with nx := s3 D } σ H) : tSeq s1 s3 D σ H := h hr
/-- an if whose other way is come to by several roads -/
theorem ifJ {t : TT} {s1 s2 : TS} {D : Ends} {σ : L2.St} {H : Hp} (P : Hp → Prop) (hs2 : ∀ H', P H' → s2 D σ H') (h : (∀ H', P H' → s2 D σ H') → t σ H fun b H1 => if b = true then s1 D σ H1 else s2 D σ H1) : tIfS t s1 s2 D σ H := h hs2
theorem int1G {a : Int} {P : V → Prop} (q : P (.int a)) : (∃ i, [V.int a] = [V.int i] ∧ P (.int i)) ∨ ∃ k, [V.int a] = [V.bl k] ∧ P (.int (if k then 1 else 0)) := .inl ⟨a, rfl, q⟩
theorem lenSL {K : PySem.W.Frag} {H : Hp} {Q : VK} {a : Addr} {xs : List V} (h : SqL K H a xs) (q : Q (.int xs.length) H) : rLenU K [.ref a] H Q := .inl ⟨a, xs, rfl, .inl h, q⟩
theorem lenST {K : PySem.W.Frag} {H : Hp} {Q : VK} {a : Addr} {xs : List V} (h : SqT K H a xs) (q : Q (.int xs.length) H) : rLenU K [.ref a] H Q := .inl ⟨a, xs, rfl, .inr h, q⟩
theorem ixSL {K : PySem.W.Frag} {H : Hp} {Q : VK} {a : Addr} {xs : List V} {w : V} {i : Int} (h : SqL K H a xs) (e : atI xs i = some w) (q : Q w H) : rIx K (.ref a) (.int i) H Q := .inl ⟨a, xs, i, w, rfl, rfl, h, e, q⟩
theorem ixST {K : PySem.W.Frag} {H : Hp} {Q : VK} {a : Addr} {xs : List V} {w : V} {i : Int} (h : SqT K H a xs) (e : atI xs i = some w) (q : Q w H) : rIx K (.ref a) (.int i) H Q := .inr (.inl ⟨a, xs, i, w, rfl, rfl, h, e, q⟩)
end S
namespace DL
open PySem PySem.Spec PyProof.Rows L2
theorem rd_gr {W : List Addr} {F H F' H' : Hp} (g : Gr W F H F' H') {a : Addr} (n : a ∉ W) {u : HO} (h : Rd H a u) : Rd H' a u := by
  rcases h with h | ⟨o, h⟩
  · exact .inl (g.at n h)
  · exact .inr ⟨o, g.at n h⟩
theorem sql_gr {K : PySem.W.Frag} {W : List Addr} {F H F' H' : Hp} (g : Gr W F H F' H') {a : Addr} (n : a ∉ W) {xs : List V} (h : SqL K H a xs) : SqL K H' a xs := h.imp (rd_gr g n) id
theorem sqt_gr {K : PySem.W.Frag} {W : List Addr} {F H F' H' : Hp} (g : Gr W F H F' H') {a : Addr} (n : a ∉ W) {xs : List V} (h : SqT K H a xs) : SqT K H' a xs := h.imp (rd_gr g n) id
end DL
namespace Lw
open PySem PySem.Spec PyProof.Rows L2 DL Bo Fr
/-- the deck at q, behind at most m draws -/
def DkAt (H : Hp) (q : Addr) (m : Nat) : Prop := ∃ a b c : Int, H q = some (.lst [.int a, .int b, .int c]) ∧ 0 ≤ a ∧ a < 2 ^ 1100 ∧ 0 ≤ b ∧ b < 2 ^ 120 ∧ 0 ≤ c ∧ c ≤ m
theorem DkAt.more {H : Hp} {q : Addr} {m n : Nat} (h : DkAt H q m) (hn : m ≤ n) : DkAt H q n := by
  obtain ⟨a, b, c, h1, h2, h3, h4, h5, h6, h7⟩ := h
  exact ⟨a, b, c, h1, h2, h3, h4, h5, h6, by omega⟩
theorem DkAt.gr {W : List Addr} {F H F' H' : Hp} {q : Addr} {m : Nat} (h : DkAt H q m) (g : Gr W F H F' H') (n : q ∉ W) : DkAt H' q m := by
  obtain ⟨a, b, c, h1, h2⟩ := h
  exact ⟨a, b, c, g.at n h1, h2⟩
theorem DkAt.live {H : Hp} {q : Addr} {m : Nat} (h : DkAt H q m) : H q ≠ none := by
  obtain ⟨a, b, c, h1, _⟩ := h
  rw [h1]; exact fun z => nomatch z
theorem DkAt.poke {H : Hp} {q r : Addr} {m : Nat} {o : HO} (h : DkAt H q m) (n : q ≠ r) : DkAt (upd H r o) q m := by
  obtain ⟨a, b, c, h1, h2⟩ := h
  exact ⟨a, b, c, (upd_ne n).trans h1, h2⟩
def spDeck (K : PySem.W.Frag) : Sp := fun vs H Q _ => ∃ (F : Hp) (a : Addr) (ns : List Int) (k : Int), vs = [.ref a, .int k] ∧ Same F H ∧ SqL K H a (ns.map V.int) ∧ ns.length ≤ 63 ∧ 0 ≤ k ∧ k < 64 ∧
  ∀ q H', Gr [] F H F H' → H q = none → F q = none → DkAt H' q 0 → Q (.ref q) H'
def spDraw : Sp := fun vs H Q _ => ∃ (F : Hp) (q : Addr) (many : Int) (m : Nat), vs = [.ref q, .int many] ∧ Same F H ∧ F q = none ∧ DkAt H q m ∧ m ≤ 1000000 ∧ 1 ≤ many ∧ many < 2 ^ 60 ∧
  ∀ x H', Gr [q] F H F H' → DkAt H' q (m + 1) → 0 ≤ x → x < many → Q (.int x) H'
def spPick (K : PySem.W.Frag) : Sp := fun vs H Q _ => ∃ (F : Hp) (q a : Addr) (xs : List V) (m : Nat), vs = [.ref q, .ref a] ∧ Same F H ∧ F q = none ∧ DkAt H q m ∧ m ≤ 1000000 ∧ (SqL K H a xs ∨ SqT K H a xs) ∧ (∀ H', Gr [q] F H F H' → SqL K H' a xs ∨ SqT K H' a xs) ∧ xs ≠ [] ∧ xs.length ≤ 1000000 ∧
  ∀ (i : Nat) x H', xs[i]? = some x → Gr [q] F H F H' → DkAt H' q (m + 1) → Q x H'
theorem pick_own {K : PySem.W.Frag} {F H : Hp} {q a : Addr} {xs : List V} (n : a ≠ q) (h : SqL K H a xs) : (SqL K H a xs ∨ SqT K H a xs) ∧ (∀ H', Gr [q] F H F H' → SqL K H' a xs ∨ SqT K H' a xs) := ⟨.inl h, fun _ g => .inl (sql_gr g (by simp [n]) h)⟩
theorem pick_dat {K : PySem.W.Frag} {F H : Hp} {q a : Addr} {xs : List V} (s : Same F H) (h : SqL K F a xs) : (SqL K H a xs ∨ SqT K H a xs) ∧ (∀ H', Gr [q] F H F H' → SqL K H' a xs ∨ SqT K H' a xs) := ⟨.inl (same_lst s h), fun _ g => .inl (same_lst g.sub h)⟩
theorem mod_lt {x M : Int} {n : Nat} (h : 0 < M) (h2 : M < 2 ^ n) : (x % M).natAbs < 2 ^ n ∧ 0 ≤ x % M ∧ x % M < M := by
  have h3 := Int.emod_nonneg x (show M ≠ 0 by omega)
  have h4 := Int.emod_lt_of_pos x h
  refine ⟨?_, h3, h4⟩
  have h5 : (((x % M).natAbs : Nat) : Int) < ((2 ^ n : Nat) : Int) := by
    rw [Int.natCast_pow]
    show ((x % M).natAbs : Int) < 2 ^ n
    omega
  exact Int.ofNat_lt.mp h5
theorem abs_lt {x : Int} {n : Nat} (h0 : 0 ≤ x) (h : x < 2 ^ n) : x.natAbs < 2 ^ n := by
  have h5 : ((x.natAbs : Nat) : Int) < ((2 ^ n : Nat) : Int) := by
    rw [Int.natCast_pow]
    show (x.natAbs : Int) < 2 ^ n
    omega
  exact Int.ofNat_lt.mp h5
theorem ten_pow (k : Nat) (h : k ≤ 100) : CPowW 10 (k : Int) := powW_of (a := 4) (b := 100) (by decide) (by decide) (by omega) (by omega) (by decide)
theorem walk_zipT {K : PySem.W.Frag} {a b : Addr} {xs ys : List V} {n : Nat} (hn : n = min xs.length ys.length) : Walk (RZ.ItzT K a b) n (fun H => SqT K H a xs ∧ SqT K H b ys) (YPair (fun i => xs[i]?) (fun i => ys[i]?)) := by
  subst hn
  refine ⟨fun i _ hi q => ?_, fun _ q => ⟨xs, ys, q.1, q.2, by omega⟩, fun i H v H' _ q y => ?_⟩
  · have h1 : i < xs.length := by omega
    have h2 : i < ys.length := by omega
    exact ⟨xs, ys, xs[i], ys[i], q.1, q.2, by simp [h1], by simp [h2]⟩
  · obtain ⟨T, x, z, h1, h2, h3, h4, h5⟩ := y
    exact ⟨T, x, z, h1, h2, h3, h4 xs q.1, h5 ys q.2⟩
/-- isinstance(x, (tuple, list)) -/
theorem isi_seq {K : PySem.W.Frag} {F H : Hp} {v : V} {d : PyData} {tp : Addr} {Q : VK} (h : Dp K F v d) (s : Same F H) (ht : H tp = some (.tup [.ty "tuple", .ty "list"])) (q : Q (.bl (isTup d || isLst d)) H) : rIsiT K [v, .ref tp] H Q := by
  refine ⟨v, tp, _, _, [.type "tuple", .type "list"], isTup d || isLst d, rfl, ht, .cons (.ty _) (.cons (.ty _) .nil), tyx_of h s, ?_, q⟩
  have k1 : ∀ a : String, kitB a "tuple" = some (a == "tuple") → kitB a "list" = some (a == "list") → PySem.W.kitAny K (.type a) [.type "tuple", .type "list"] = some (a == "tuple" || a == "list") := by
    intro a h1 h2
    unfold PySem.W.kitAny
    rw [kit_ty h1]
    cases e1 : (a == "tuple")
    · dsimp only
      unfold PySem.W.kitAny
      rw [kit_ty h2]
      cases e2 : (a == "list")
      · rfl
      · rfl
    · rfl
  cases h <;> (refine k1 _ ?_ ?_ <;> (dsimp only [tyN]; decide +kernel))
mutual
def wid : PyData → Bool
  | .list ds => decide (ds.length ≤ 1000000) && widAll ds
  | .tuple ds => decide (ds.length ≤ 1000000) && widAll ds
  | _ => true
def widAll : List PyData → Bool
  | [] => true
  | d :: ds => wid d && widAll ds
end
theorem wid_mem : ∀ {ds : List PyData} {d : PyData}, d ∈ ds → widAll ds = true → wid d = true
  | [], _, h, _ => nomatch h
  | e :: ds, d, h, w => by
    unfold widAll at w
    obtain ⟨w1, w2⟩ := Bool.and_eq_true_iff.mp w
    rcases List.mem_cons.mp h with rfl | h
    · exact w1
    · exact wid_mem h w2
theorem wid_ints (l : List Int) : widAll (l.map PyData.int) = true := by
  induction l with
  | nil => unfold widAll; rfl
  | cons a l ih => rw [List.map_cons]; unfold widAll; rw [ih]; simp [wid]
def spSame (K : PySem.W.Frag) (n : Nat) : Sp := fun vs H Q _ => ∃ (F : Hp) (v u : V) (d : PyData), vs = [v, u] ∧ Same F H ∧ Dp K F v d ∧ Dp K F u d ∧ d.depth < n ∧ wid d = true ∧ ∀ F' H', Gr [] F H F' H' → Q (.bl true) H'
theorem new_tupS {F H : Hp} {xs : List V} {G : Addr → Prop} (s : Same F H) (k : ∀ p, Gr [] F H F (upd H p (.tup xs)) → upd H p (.tup xs) p = some (.tup xs) → G p) (hl : xs.length ≤ sizeLine := by decide) : xs.length ≤ sizeLine ∧ ∀ p, H p = none → G p := ⟨hl, fun p hp => k p (Gr.newOwn s hp) upd_same⟩
theorem depth_mem : ∀ {ds : List PyData} {d : PyData}, d ∈ ds → d.depth ≤ PyData.depthAll ds
  | [], _, h => nomatch h
  | e :: ds, d, h => by
    unfold PyData.depthAll
    rcases List.mem_cons.mp h with rfl | h
    · omega
    · have := depth_mem h
      omega
end Lw
namespace S
open PySem PySem.Spec PyProof.Rows L2 DL
theorem neBB {K : PySem.W.Frag} {H : Hp} {Q : VK} {a b : Bool} (q : Q (.bl (!decide (a = b))) H) : rNeU K (.bl a) (.bl b) H Q := .inl ⟨rfl, by
  have e : decide ((V.bl a) = V.bl b) = decide (a = b) := by
    by_cases h : a = b
    · subst h; simp
    · rw [decide_eq_false h, decide_eq_false (fun z => h (V.bl.inj z))]
  rw [e]; exact q⟩
theorem eqSelf {K : PySem.W.Frag} {H : Hp} {Q : VK} {v : V} (hs : scal v v = true) (q : Q (.bl true) H) : rEqU K v v H Q := .inl ⟨hs, by rw [decide_eq_true rfl]; exact q⟩
theorem iZipT {K : PySem.W.Frag} {ta : TA} {σ : L2.St} {H : Hp} {R : It → Hp → Prop} (q : ta σ H fun vs H1 => ∃ a b xs ys, vs = [.ref a, .ref b] ∧ ((SqL K H1 a xs ∧ SqL K H1 b ys ∧ R (Itz K a b) H1) ∨ (SqT K H1 a xs ∧ SqT K H1 b ys ∧ R (RZ.ItzT K a b) H1))) : RZ.iZipA K ta σ H R := q
end S

/-! the deeds that the law draws -/
namespace Lw
open PySem PySem.Spec PyProof.Rows L2 DL Bo Fr
structure GInv (there met : List Int) (st : BSt) : Prop where
  nt : there.Nodup
  ne : there ≠ []
  rg : ∀ t ∈ there, 1 ≤ t ∧ t ≤ 6
  th : ∀ t, t ∈ there ↔ (getA st.sheets t).isSome = true
  mt : ∀ t, t ∈ met ↔ (getA st.met t).isSome = true
theorem isFrom_of {i lo hi : Int} (h1 : lo ≤ i) (h2 : i ≤ hi) : isFrom (.int i) lo hi = true := by
  show (decide (lo ≤ i) && decide (i ≤ hi)) = true
  rw [decide_eq_true h1, decide_eq_true h2] <;> rfl
theorem GInv.there {there met : List Int} {st : BSt} (h : GInv there met st) {t : Int} (ht : t ∈ there) : thereD st (.int t) = true := by
  obtain ⟨h1, h2⟩ := h.rg t ht
  show (isFrom (.int t) 1 6 && (getA st.sheets t).isSome) = true
  rw [isFrom_of h1 h2, (h.th t).mp ht] <;> rfl
theorem ok_load {st : BSt} {t s : Int} (h : thereD st (.int t) = true) (h1 : 0 ≤ s) (h2 : s ≤ 63) : okD st (.load t s) = true := by
  show (thereD st (.int t) && (if ("load" : Str) = "fork" then comeD st (.int s) else (decide (("load" : Str) = "load") || decide (("load" : Str) = "store")) && isFrom (.int s) 0 63)) = true
  rw [h, if_neg (by decide +kernel), isFrom_of h1 h2, show decide (("load" : Str) = "load") = true by decide +kernel] <;> rfl
theorem ok_store {st : BSt} {t s : Int} (h : thereD st (.int t) = true) (h1 : 0 ≤ s) (h2 : s ≤ 63) : okD st (.store t s) = true := by
  show (thereD st (.int t) && (if ("store" : Str) = "fork" then comeD st (.int s) else (decide (("store" : Str) = "load") || decide (("store" : Str) = "store")) && isFrom (.int s) 0 63)) = true
  rw [h, if_neg (by decide +kernel), isFrom_of h1 h2, show decide (("store" : Str) = "load") = false by decide +kernel, show decide (("store" : Str) = "store") = true by decide +kernel] <;> rfl
theorem ok_fork {st : BSt} {t c : Int} (h : thereD st (.int t) = true) (h1 : 1 ≤ c) (h2 : c ≤ 6) (h3 : (getA st.met c).isSome = false) : okD st (.fork t c) = true := by
  show (thereD st (.int t) && (if ("fork" : Str) = "fork" then comeD st (.int c) else (decide (("fork" : Str) = "load") || decide (("fork" : Str) = "store")) && isFrom (.int c) 0 63)) = true
  rw [h, if_pos rfl, Bool.true_and]
  show (isFrom (.int c) 1 6 && !(getA st.met c).isSome) = true
  rw [isFrom_of h1 h2, h3] <;> rfl
theorem ok_fin {st : BSt} {t : Int} (h : thereD st (.int t) = true) : okD st (.fin t) = true := by
  show (thereD st (.int t) && decide (("end" : Str) = "end")) = true
  rw [h, decide_eq_true rfl] <;> rfl
theorem isSome_putA {α : Type} {l : AL α} {k j : Int} {a : α} : (getA (putA l k a) j).isSome = true ↔ j = k ∨ (getA l j).isSome = true := by
  rw [getA_putA]
  by_cases e : j = k <;> simp [e]
theorem GInv.store {there met : List Int} {st : BSt} (h : GInv there met st) {t s : Int} (ht : t ∈ there) : GInv there met (doneE st (.store t s)).2 := by
  show GInv there met (storeE st t s).2
  have hw : ∀ sh : AL Int, GInv there met (withBody { st with shares := sh } t s) := fun sh => by
    refine ⟨h.nt, h.ne, h.rg, fun t' => ?_, h.mt⟩
    show _ ↔ (getA (putA st.sheets t _) t').isSome = true
    rw [isSome_putA, h.th]
    constructor
    · exact .inr
    · rintro (rfl | h2)
      · exact (h.th _).mp ht
      · exact h2
  unfold storeE
  cases q : bodyOf st t s with
  | none => exact hw st.shares
  | some b =>
    dsimp only
    by_cases e : 1 < cnt st b
    · rw [if_pos e]; exact hw _
    · rw [if_neg e]; exact h
theorem GInv.fork {there met : List Int} {st : BSt} (h : GInv there met st) {t c : Int} (h1 : 1 ≤ c) (h2 : c ≤ 6) (hc : c ∉ met) (ht : c ∉ there) : GInv (there ++ [c]) (met ++ [c]) (doneE st (.fork t c)).2 := by
  refine ⟨nodup_snoc h.nt ht, by simp, fun t' h' => ?_, fun t' => ?_, fun t' => ?_⟩
  · rcases List.mem_append.mp h' with h' | h'
    · exact h.rg t' h'
    · rw [List.mem_singleton.mp h']; exact ⟨h1, h2⟩
  · show _ ↔ (getA (putA st.sheets c _) t').isSome = true
    rw [isSome_putA, List.mem_append, List.mem_singleton, h.th]
    exact or_comm
  · show _ ↔ (getA (putA st.met c _) t').isSome = true
    rw [isSome_putA, List.mem_append, List.mem_singleton, h.mt]
    exact or_comm
theorem GInv.fin {there met : List Int} {st : BSt} (h : GInv there met st) {t : Int} (ht : t ∈ there) (hl : 1 < there.length) : GInv (there.erase t) met (doneE st (.fin t)).2 := by
  refine ⟨h.nt.erase t, fun z => ?_, fun t' h' => h.rg t' (List.mem_of_mem_erase h'), fun t' => ?_, h.mt⟩
  · have := List.length_erase_of_mem ht
    rw [z] at this
    simp at this
    omega
  · show _ ↔ (getA (dropA st.sheets t) t').isSome = true
    rw [h.nt.mem_erase_iff, getA_dropA, h.th]
    by_cases e : t' = t <;> simp [e]
theorem okAll_snoc : ∀ {ds : List Deed} {st : BSt} {es : List Ev} {d : Deed}, okAll st ds = true → okD (runAll (es, st) ds).2 d = true → okAll st (ds ++ [d]) = true
  | [], st, es, d, _, h => by
    show (okD st d && okAll (doneE st d).2 []) = true
    rw [show okD st d = true from h] <;> rfl
  | x :: ds, st, es, d, h1, h2 => by
    obtain ⟨a, b⟩ := Bool.and_eq_true_iff.mp h1
    show (okD st x && okAll (doneE st x).2 (ds ++ [d])) = true
    rw [a, Bool.true_and]
    exact okAll_snoc (es := es ++ (doneE st x).1) b h2
theorem runAll_snoc (z : List Ev × BSt) (ds : List Deed) (d : Deed) : runAll z (ds ++ [d]) = runStep (runAll z ds) d := by
  unfold runAll; rw [List.foldl_append]; rfl
/-- the sheets that the deeds name -/
def shIn (sh : List Int) : Deed → Prop
  | .load _ s => s ∈ sh
  | .store _ s => s ∈ sh
  | _ => True
theorem keys_putA_sub {α : Type} {l : AL α} {k : Int} {a : α} {sh : List Int} (h : ∀ x ∈ keysA l, x ∈ sh) (hk : k ∈ sh) : ∀ x ∈ keysA (putA l k a), x ∈ sh := by
  intro x hx
  rw [keys_putA] at hx
  by_cases e : k ∈ keysA l
  · rw [if_pos e] at hx; exact h x hx
  · rw [if_neg e] at hx
    rcases List.mem_append.mp hx with hx | hx
    · exact h x hx
    · rw [List.mem_singleton.mp hx]; exact hk
theorem rows_in {sh : List Int} {st : BSt} (h : ∀ p ∈ st.sheets, ∀ k ∈ keysA p.2, k ∈ sh) {d : Deed} (hd : shIn sh d) : ∀ p ∈ (doneE st d).2.sheets, ∀ k ∈ keysA p.2, k ∈ sh := by
  have hrow : ∀ t, ∀ k ∈ keysA ((getA st.sheets t).getD []), k ∈ sh := fun t k hk => by
    cases q : getA st.sheets t with
    | none => rw [q] at hk; cases hk
    | some row => rw [q] at hk; exact h _ (getA_mem q) k hk
  cases d with
  | load t s => exact h
  | store t s =>
    have hw : ∀ shs : AL Int, ∀ p ∈ (withBody { st with shares := shs } t s).sheets, ∀ k ∈ keysA p.2, k ∈ sh := fun shs p hp k hk => by
      rcases mem_putA hp with hp | rfl
      · exact h p hp k hk
      · exact keys_putA_sub (hrow t) hd k hk
    show ∀ p ∈ (storeE st t s).2.sheets, _
    unfold storeE
    cases q : bodyOf st t s with
    | none => exact hw st.shares
    | some b =>
      dsimp only
      by_cases e : 1 < cnt st b
      · rw [if_pos e]; exact hw _
      · rw [if_neg e]; exact h
  | fork t c =>
    intro p hp k hk
    rcases mem_putA hp with hp | rfl
    · exact h p hp k hk
    · exact hrow t k hk
  | fin t =>
    intro p hp k hk
    exact h p (List.mem_filter.mp hp).1 k hk
theorem run_rows {sh : List Int} : ∀ {ds : List Deed} {z : List Ev × BSt}, (∀ p ∈ z.2.sheets, ∀ k ∈ keysA p.2, k ∈ sh) → (∀ d ∈ ds, shIn sh d) → ∀ p ∈ (runAll z ds).2.sheets, ∀ k ∈ keysA p.2, k ∈ sh
  | [], z, h, _ => h
  | d :: ds, z, h, hd => run_rows (ds := ds) (z := runStep z d) (rows_in h (hd d List.mem_cons_self)) fun e he => hd e (List.mem_cons_of_mem _ he)
theorem len_of_sub : ∀ {l m : List Int}, l.Nodup → (∀ x ∈ l, x ∈ m) → l.length ≤ m.length
  | [], m, _, _ => Nat.zero_le _
  | a :: l, m, nd, h => by
    obtain ⟨n1, n2⟩ := List.nodup_cons.mp nd
    have ha := h a List.mem_cons_self
    have := len_of_sub (l := l) (m := m.erase a) n2 fun x hx => (List.mem_erase_of_ne fun z => n1 (by rw [← z]; exact hx)).mpr (h x (List.mem_cons_of_mem _ hx))
    rw [List.length_erase_of_mem ha] at this
    have := List.length_pos_of_mem ha
    rw [List.length_cons]
    omega
/-- the law's deeds -/
def spLawDeeds (K : PySem.W.Frag) : Sp := fun vs H Q _ => ∃ (F : Hp) (q a : Addr) (many : Int) (sh : List Int) (m : Nat), vs = [.ref q, .int many, .ref a] ∧ Same F H ∧ F q = none ∧ DkAt H q m ∧ m ≤ 10000 ∧ 0 ≤ many ∧ many ≤ 100 ∧ SqL K F a (sh.map V.int) ∧ sh ≠ [] ∧ sh.length ≤ 50 ∧ (∀ s ∈ sh, 0 ≤ s ∧ s ≤ 63) ∧
  ∀ ds v F' H', Gr [q] F H F' H' → DkAt H' q (m + 4 * many.toNat) → ds.length = many.toNat → okAll st0 ds = true → (∀ d ∈ ds, shIn sh d) → (∃ t, (getA (runAll ([], st0) ds).2.sheets t).isSome = true) → Dp K F' v (.tuple (ds.map deedD)) → Q v H'
end Lw
namespace S
open PySem PySem.Spec PyProof.Rows L2 DL
theorem iRng1 {ta : TA} {σ : L2.St} {H : Hp} {R : It → Hp → Prop} (q : ta σ H fun vs H1 => ∃ j : Int, vs = [.int j] ∧ -(2 ^ 62) ≤ j ∧ j < 2 ^ 62 ∧ R (Itr 0 j.toNat) H1) : L2.iRng1 ta σ H R := q
theorem iRng2 {ta : TA} {σ : L2.St} {H : Hp} {R : It → Hp → Prop} (q : ta σ H fun vs H1 => ∃ i j : Int, vs = [.int i, .int j] ∧ (-(2 ^ 62) ≤ i ∧ i < 2 ^ 62 ∧ -(2 ^ 62) ≤ j ∧ j < 2 ^ 62) ∧ R (Itr i (j - i).toNat) H1) : L2.iRng2 ta σ H R := q
end S
namespace Lw
open PySem PySem.Spec PyProof.Rows L2 DL Bo Fr
theorem ints_shaped (l : List Int) : SeqAt.shaped (.list (l.map PyData.int)) = true := PySem.W.ke_shaped_ints l
theorem eqv_nil (l : List PyData) : PyData.eqv (.list l) (.list []) = l.isEmpty := by
  cases l <;> simp [PyData.eqv, PyData.eqvAll]
end Lw
namespace Lw
open PySem PySem.Spec PyProof.Rows L2 DL Bo Fr
structure DCore (K : PySem.W.Frag) (F H : Hp) (q tA mA rA : Addr) (sh : List Int) (m i : Nat) (F' H' : Hp) (ds : List Deed) (there met : List Int) (xs : List V) : Prop where
  g : Gr [q] F H F' H'
  dk : DkAt H' q (m + 4 * i)
  dl : ds.length = i
  ok : okAll st0 ds = true
  si : ∀ d ∈ ds, shIn sh d
  gi : GInv there met (runAll ([], st0) ds).2
  ht : H' tA = some (.lst (there.map V.int))
  hm : H' mA = some (.lst (met.map V.int))
  hr : H' rA = some (.lst xs)
  hx : DpAll K F' xs (ds.map deedD)
  ft : F' tA = none
  fm : F' mA = none
  fr : F' rA = none
  lt : there.length ≤ i + 1
  lm : met.length ≤ i + 1
theorem DCore.snoc {K : PySem.W.Frag} {F H : Hp} {q tA mA rA : Addr} {sh : List Int} {m i : Nat} {F' H' : Hp} {ds : List Deed} {there met : List Int} {xs : List V} (c : DCore K F H q tA mA rA sh m i F' H' ds there met xs)
    {F9 H9 : Hp} {d : Deed} {there' met' : List Int} {v : V} (g : Gr [q] F H F9 H9) (fs : Same F' F9) (dk : DkAt H9 q (m + 4 * (i + 1))) (ok : okD (runAll ([], st0) ds).2 d = true) (si : shIn sh d) (gi : GInv there' met' (doneE (runAll ([], st0) ds).2 d).2)
    (ht : H9 tA = some (.lst (there'.map V.int))) (hm : H9 mA = some (.lst (met'.map V.int))) (hr : H9 rA = some (.lst (xs ++ [v]))) (hv : Dp K F9 v (deedD d)) (ft : F9 tA = none) (fm : F9 mA = none) (fr : F9 rA = none) (lt : there'.length ≤ i + 2) (lm : met'.length ≤ i + 2) :
    DCore K F H q tA mA rA sh m (i + 1) F9 H9 (ds ++ [d]) there' met' (xs ++ [v]) := by
  refine ⟨g, dk, by simp [c.dl], okAll_snoc (es := []) c.ok ok, fun e he => ?_, by rw [runAll_snoc]; exact gi, ht, hm, hr, ?_, ft, fm, fr, lt, lm⟩
  · rcases List.mem_append.mp he with he | he
    · exact c.si e he
    · rw [List.mem_singleton.mp he]; exact si
  · rw [List.map_append]
    exact dp_app (c.hx.to fs) (.cons hv .nil)
def DInv (K : PySem.W.Frag) (F H : Hp) (q a tA mA rA : Addr) (many : Int) (sh : List Int) (m i : Nat) (σ : L2.St) (H' : Hp) : Prop := ∃ F' ds there met xs o6 o7 o8 o9 o10 o11 o12, DCore K F H q tA mA rA sh m i F' H' ds there met xs ∧
  σ = [some (V.ref q), some (V.int many), some (V.ref a), some (V.ref tA), some (V.ref mA), some (V.ref rA), o6, o7, o8, o9, o10, o11, o12]
end Lw
namespace Lw
open PySem PySem.Spec PyProof.Rows L2 DL Bo Fr
def rowD (t : Int) (row : AL Int) (b : Int) : List PyData := ((sortI (keysA row)).filter fun s => decide (getA row s = some b)).map fun s => PyData.tuple [.int t, .int s]
def havingD (sh : AL (AL Int)) (b : Int) : List PyData := (sortI (keysA sh)).flatMap fun t => rowD t ((getA sh t).getD []) b
/-- the tables of the law, read -/
def spHaving (K : PySem.W.Frag) : Sp := fun vs H Q _ => ∃ (F : Hp) (a : Addr) (T : AL (Addr × AL Int)) (b : Int), vs = [.ref a, .int b] ∧ Same F H ∧ TabsAt H a T ∧ (keysA T).Nodup ∧ (∀ t ∈ T, (keysA t.2.2).Nodup) ∧ T.length < 64 ∧ (∀ t ∈ T, t.2.2.length < 64) ∧
  ∀ v F' H', Gr [] F H F' H' → Dp K F' v (.list (havingD (sheetsOf T) b)) → Q v H'
end Lw
namespace S
open PySem PySem.Spec PyProof.Rows L2 DL
theorem catL {K : PySem.W.Frag} {H : Hp} {Q : VK} {l b : Addr} {xs zs : List V} (h1 : H l = some (.lst xs)) (h2 : H b = some (.lst zs)) (hl : xs.length + zs.length ≤ sizeLine) (q : ∀ p, H p = none → Q (.ref p) (upd H p (.lst (xs ++ zs)))) : rAddU K (.ref l) (.ref b) H Q := .inr (.inr ⟨l, b, xs, zs, rfl, rfl, h1, h2, hl, q⟩)
end S
namespace Lw
open PySem PySem.Spec PyProof.Rows L2 DL Bo Fr
theorem getA_isSome_of_mem {α : Type} {l : AL α} {k : Int} (h : k ∈ keysA l) : ∃ a, getA l k = some a := by
  cases q : getA l k with
  | none => exact absurd h (getA_none.mp q)
  | some a => exact ⟨a, rfl⟩
theorem flatMap_snoc {α β : Type} (f : α → List β) (l : List α) (a : α) : (l ++ [a]).flatMap f = l.flatMap f ++ f a := by simp [List.flatMap_append]
theorem filter_snoc {α : Type} (p : α → Bool) (l : List α) (a : α) : (l ++ [a]).filter p = if p a then l.filter p ++ [a] else l.filter p := by
  rw [List.filter_append]
  by_cases h : p a = true
  · rw [if_pos h]; simp [h]
  · rw [if_neg h]; simp [h]
theorem rowD_len (t : Int) (row : AL Int) (b : Int) : (rowD t row b).length ≤ row.length := by
  unfold rowD
  rw [List.length_map]
  refine Nat.le_trans (List.length_filter_le _ _) ?_
  rw [(sortI_perm _).length_eq]
  simp [keysA]
end Lw

/-! the law's own going through the deeds -/
namespace Lw
open PySem PySem.Spec PyProof.Rows L2 DL Bo Fr
theorem nodup_snoc2 {l : List Addr} {b : Addr} (h : l.Nodup) (n : b ∉ l) : (l ++ [b]).Nodup := by
  rw [List.nodup_append]
  refine ⟨h, by simp, ?_⟩
  intro x hx y hy z
  simp at hy
  subst hy; subst z
  exact n hx
structure TP (F H : Hp) (a : Addr) (T : AL (Addr × AL Int)) : Prop where
  tabs : TabsAt H a T
  nd : (a :: addrsOf T).Nodup
  off : ∀ x ∈ a :: addrsOf T, F x = none
section
variable {F H : Hp} {a : Addr} {T : AL (Addr × AL Int)}
theorem TP.step (h : TP F H a T) {F' H' : Hp} (k : ∀ x ∈ a :: addrsOf T, ∀ o, H x = some o → H' x = some o) (o : ∀ x ∈ a :: addrsOf T, F' x = none) : TP F' H' a T :=
  ⟨⟨k a (by simp) _ h.tabs.tab, fun t ht => k _ (by simp [addr_mem ht]) _ (h.tabs.rows t ht)⟩, h.nd, o⟩
theorem TP.live (h : TP F H a T) : ∀ x ∈ a :: addrsOf T, H x ≠ none := by
  intro x hx e
  rcases List.mem_cons.mp hx with rfl | hx
  · rw [h.tabs.tab] at e; cases e
  · obtain ⟨t, ht, rfl⟩ := List.mem_map.mp hx
    rw [h.tabs.rows t ht] at e; cases e
theorem TP.gr (h : TP F H a T) {F' H' : Hp} {W : List Addr} (g : Gr W F H F' H') (n : ∀ x ∈ a :: addrsOf T, x ∉ W) : TP F' H' a T :=
  h.step (fun x hx o e => g.at (n x hx) e) fun x hx => g.own x (h.off x hx) (h.live x hx)
theorem TP.gr0 (h : TP F H a T) {F' H' : Hp} (g : Gr [] F H F' H') : TP F' H' a T := h.gr g fun _ _ z => nomatch z
theorem TP.poke (h : TP F H a T) {q : Addr} {o : HO} (n : q ∉ a :: addrsOf T) : TP F (upd H q o) a T :=
  h.step (fun x hx u e => by rw [upd_ne fun z => n (by rw [← z]; exact hx)]; exact e) h.off
theorem TP.wRow (h : TP F H a T) (nk : (keysA T).Nodup) {t : Int} {d : Addr} {row : AL Int} (ht : getA T t = some (d, row)) (row' : AL Int) : TP F (upd H d (.dK (kM V.int row'))) a (setRow T t row') := by
  have hm := getA_mem ht
  have hd : d ∈ addrsOf T := addr_mem hm
  obtain ⟨n1, n2⟩ := List.nodup_cons.mp h.nd
  refine ⟨⟨?_, fun x hx => ?_⟩, by rw [setRow_addrs]; exact h.nd, by rw [setRow_addrs]; exact h.off⟩
  · rw [upd_ne fun z => n1 (by rw [z]; exact hd), setRow_kM]; exact h.tabs.tab
  · obtain ⟨y, hy, rfl⟩ := List.mem_map.mp hx
    by_cases e : y.1 = t
    · have e2 : getA T t = some y.2 := getA_of_mem nk (by rw [← e]; exact hy)
      rw [ht] at e2
      have e3 : y.2.1 = d := by rw [← Option.some.inj e2]
      rw [if_pos e]
      show upd H d _ y.2.1 = _
      rw [e3, upd_same]
    · rw [if_neg e]
      rw [upd_ne fun z => e (by rw [addr_inj n2 hy hm z])]
      exact h.tabs.rows y hy
theorem TP.wNew (h : TP F H a T) {q : Addr} {c : Int} {row : AL Int} (hq : H q = some (.dK (kM V.int row))) (nq : q ∉ a :: addrsOf T) (fq : F q = none) :
    TP F (upd H a (.dK (kM (fun x : Addr × AL Int => V.ref x.1) (T ++ [(c, (q, row))])))) a (T ++ [(c, (q, row))]) := by
  obtain ⟨n1, n2⟩ := List.nodup_cons.mp h.nd
  have ea : addrsOf (T ++ [(c, (q, row))]) = addrsOf T ++ [q] := by simp [addrsOf]
  simp only [List.mem_cons, not_or] at nq
  obtain ⟨q1, q2⟩ := nq
  refine ⟨⟨upd_same, fun x hx => ?_⟩, ?_, ?_⟩
  · rcases List.mem_append.mp hx with hx | hx
    · rw [upd_ne fun z => n1 (by rw [← z]; exact addr_mem hx)]; exact h.tabs.rows x hx
    · simp only [List.mem_singleton] at hx
      subst hx
      show upd H a _ q = _
      rw [upd_ne q1]; exact hq
  · rw [ea]
    refine List.nodup_cons.mpr ⟨by simp [n1, Ne.symm q1], nodup_snoc2 n2 q2⟩
  · intro x hx
    rw [ea] at hx
    simp only [List.mem_cons, List.mem_append, List.not_mem_nil, or_false] at hx
    rcases hx with h1 | h1 | h1
    · exact h.off x (by simp [h1])
    · exact h.off x (by simp [h1])
    · rw [h1]; exact fq
theorem TP.wDrop (h : TP F H a T) (t : Int) : TP F (upd H a (.dK (kM (fun x : Addr × AL Int => V.ref x.1) (dropA T t)))) a (dropA T t) := by
  obtain ⟨n1, n2⟩ := List.nodup_cons.mp h.nd
  have sub : ∀ x ∈ addrsOf (dropA T t), x ∈ addrsOf T := fun x hx => by
    obtain ⟨y, hy, rfl⟩ := List.mem_map.mp hx
    exact addr_mem (List.mem_filter.mp hy).1
  have snd : (addrsOf (dropA T t)).Nodup := List.Nodup.sublist (List.Sublist.map _ List.filter_sublist) n2
  refine ⟨⟨upd_same, fun x hx => ?_⟩, List.nodup_cons.mpr ⟨fun z => n1 (sub _ z), snd⟩, fun x hx => ?_⟩
  · have hx' := (List.mem_filter.mp hx).1
    rw [upd_ne fun z => n1 (by rw [← z]; exact addr_mem hx')]; exact h.tabs.rows x hx'
  · rcases List.mem_cons.mp hx with h1 | h1
    · exact h.off x (by simp [h1])
    · exact h.off x (by simp [sub _ h1])
theorem drop_sheets (t : Int) : sheetsOf (dropA T t) = dropA (sheetsOf T) t := by
  unfold sheetsOf dropA
  rw [List.filter_map]; rfl
end
theorem perm_sum {l l' : List Nat} (h : l.Perm l') : l.sum = l'.sum := by
  induction h with
  | nil => rfl
  | cons x _ ih => simp [ih]
  | swap x y l => simp; omega
  | trans _ _ ih1 ih2 => rw [ih1, ih2]
theorem rowD_length {t : Int} {row : AL Int} {b : Int} (nd : (keysA row).Nodup) : (rowD t row b).length = occR row b := by
  unfold rowD occR
  rw [List.length_map, ← List.countP_eq_length_filter, (sortI_perm (keysA row)).countP_eq]
  unfold keysA
  rw [List.countP_map, List.count_eq_countP, List.countP_map]
  apply List.countP_congr
  intro p hp
  have : getA row p.1 = some p.2 := getA_of_mem nd hp
  simp [this]
theorem having_len {sh : AL (AL Int)} {b : Int} (nd : (keysA sh).Nodup) (nr : ∀ p ∈ sh, (keysA p.2).Nodup) : (havingD sh b).length = occ sh b := by
  unfold havingD occ
  rw [List.length_flatMap, perm_sum ((sortI_perm (keysA sh)).map _)]
  unfold keysA
  rw [List.map_map]
  congr 1
  apply List.map_congr_left
  intro p hp
  show (rowD p.1 ((getA sh p.1).getD []) b).length = occR p.2 b
  rw [getA_of_mem nd (a := p.2) hp, Option.getD_some, rowD_length (nr p hp)]
def spLawGone (K : PySem.W.Frag) : Sp := fun vs H Q _ => ∃ (F : Hp) (v : V) (ds : List Deed) (sh : List Int), vs = [v] ∧ Same F H ∧ Dp K F v (.tuple (ds.map deedD)) ∧ ds.length ≤ 400 ∧ okAll st0 ds = true ∧ sh.length ≤ 50 ∧ (∀ d ∈ ds, shIn sh d) ∧
  ∀ r ea ta T F' H', Gr [] F H F' H' → H' r = some (.tup [.ref ea, .ref ta, .int (runAll ([], st0) ds).2.next]) → H r = none → TabsAt H' ta T → sheetsOf T = (runAll ([], st0) ds).2.sheets → (∀ x ∈ ta :: addrsOf T, H x = none) →
    Dp K F' (.ref ea) (.list ((runAll ([], st0) ds).1.map evD)) → Q (.ref r) H'
/-- what stands between two deeds -/
structure LCore (K : PySem.W.Frag) (F H : Hp) (ea ta : Addr) (z : List Ev × BSt) (F' H' : Hp) (T : AL (Addr × AL Int)) (xs : List V) : Prop where
  g : Gr [] F H F' H'
  tp : TP F' H' ta T
  se : sheetsOf T = z.2.sheets
  fr : ∀ x ∈ ta :: addrsOf T, H x = none
  ne : ea ∉ ta :: addrsOf T
  he : H ea = none
  fe : F' ea = none
  hx : H' ea = some (.lst xs)
  dx : DpAll K F' xs (z.1.map evD)
def LInv (K : PySem.W.Frag) (F H : Hp) (v : V) (ea ta : Addr) (ds : List Deed) (i : Nat) (σ : L2.St) (H' : Hp) : Prop := ∃ F' T xs o4 o5 o6, LCore K F H ea ta (runAll ([], st0) (ds.take i)) F' H' T xs ∧
  σ = [some v, some (V.ref ta), some (V.ref ea), some (V.int (runAll ([], st0) (ds.take i)).2.next), o4, o5, o6]
end Lw
namespace Lw
open PySem PySem.Spec PyProof.Rows L2 DL Bo Fr
theorem tab_of {T : AL (Addr × AL Int)} {sh : AL (AL Int)} (se : sheetsOf T = sh) {t : Int} (h : (getA sh t).isSome = true) : ∃ d row, getA T t = some (d, row) ∧ getA sh t = some row := by
  subst se
  rw [getA_rows] at h ⊢
  cases q : getA T t with
  | none => rw [q] at h; cases h
  | some x => exact ⟨x.1, x.2, rfl, rfl⟩
theorem pair_lay : ∀ {l : List PyData}, (∀ x ∈ l, ∃ a b : Int, x = .tuple [.int a, .int b]) → PyData.canLayAll0 l = true ∧ PyData.depthAll l ≤ 1
  | [], _ => ⟨by simp [PyData.canLayAll0], by simp [PyData.depthAll]⟩
  | x :: l, h => by
    obtain ⟨h1, h2⟩ := pair_lay (l := l) fun y hy => h y (List.mem_cons_of_mem _ hy)
    obtain ⟨a, b, rfl⟩ := h x List.mem_cons_self
    refine ⟨?_, ?_⟩
    · unfold PyData.canLayAll0
      rw [h1]
      simp [PyData.canLay0, PyData.canLayAll0]
    · unfold PyData.depthAll
      have : (PyData.tuple [.int a, .int b]).depth ≤ 1 := by simp [PyData.depth, PyData.depthAll]
      omega
theorem pairs_shaped {l : List PyData} (h : ∀ x ∈ l, ∃ a b : Int, x = .tuple [.int a, .int b]) : SeqAt.shaped (.list l) = true := by
  obtain ⟨h1, h2⟩ := pair_lay h
  unfold SeqAt.shaped
  have h3 : (PyData.list l).depth ≤ 2 := by unfold PyData.depth; omega
  have h4 : (PyData.list l).canLay0 = true := by unfold PyData.canLay0; exact h1
  rw [h4, decide_eq_true (by omega)] <;> rfl
theorem having_pairs (sh : AL (AL Int)) (b : Int) : ∀ x ∈ havingD sh b, ∃ a b : Int, x = .tuple [.int a, .int b] := by
  intro x hx
  obtain ⟨t, _, hx⟩ := List.mem_flatMap.mp hx
  obtain ⟨s, _, rfl⟩ := List.mem_map.mp hx
  exact ⟨t, s, rfl⟩
theorem having_nil {sh : AL (AL Int)} {b : Int} (nd : (keysA sh).Nodup) (nr : ∀ p ∈ sh, (keysA p.2).Nodup) : (havingD sh b).isEmpty = decide (occ sh b = 0) := by
  rw [← having_len nd nr]
  cases havingD sh b <;> simp
theorem cnt_occ {n : Nat} {st : BSt} (h : BOk n st) (b : Int) : cnt st b = (occ st.sheets b : Int) := by
  unfold Bo.cnt
  rw [h.sh b]
  by_cases e : occ st.sheets b = 0
  · rw [if_pos e, e]; rfl
  · rw [if_neg e]; rfl
theorem sheets_keys {T : AL (Addr × AL Int)} (h : (keysA T).Nodup) : (keysA (sheetsOf T)).Nodup := by rw [keys_sheetsOf]; exact h
theorem sheets_rows {T : AL (Addr × AL Int)} (h : ∀ t ∈ T, (keysA t.2.2).Nodup) : ∀ p ∈ sheetsOf T, (keysA p.2).Nodup := fun p hp => by
  obtain ⟨t, ht, rfl⟩ := List.mem_map.mp hp
  exact h t ht
end Lw
namespace Lw
open PySem PySem.Spec PyProof.Rows L2 DL Bo Fr
theorem there_in {st : BSt} {t : Int} (h : thereD st (.int t) = true) : t ∈ ([1, 2, 3, 4, 5, 6] : List Int) := by
  have h1 : isFrom (.int t) 1 6 = true := (Bool.and_eq_true_iff.mp h).1
  have h2 : (decide (1 ≤ t) && decide (t ≤ 6)) = true := h1
  rw [Bool.and_eq_true_iff, decide_eq_true_iff, decide_eq_true_iff] at h2
  simp
  omega
theorem keys_in {st : BSt} (h : ∀ k ∈ keysA st.sheets, k ∈ ([1, 2, 3, 4, 5, 6] : List Int)) {d : Deed} (ok : okD st d = true) : ∀ k ∈ keysA (doneE st d).2.sheets, k ∈ ([1, 2, 3, 4, 5, 6] : List Int) := by
  cases d with
  | load t s => exact h
  | store t s =>
    have ht := there_in (Bool.and_eq_true_iff.mp ok).1
    show ∀ k ∈ keysA (storeE st t s).2.sheets, _
    unfold storeE
    cases q : bodyOf st t s with
    | none => exact keys_putA_sub h ht
    | some b =>
      dsimp only
      by_cases e : 1 < Bo.cnt st b
      · rw [if_pos e]; exact keys_putA_sub h ht
      · rw [if_neg e]; exact h
  | fork t c =>
    obtain ⟨_, h2⟩ := Bool.and_eq_true_iff.mp ok
    have h3 : comeD st (.int c) = true := by simpa [deedD] using h2
    have h4 : (decide (1 ≤ c) && decide (c ≤ 6)) = true := (Bool.and_eq_true_iff.mp h3).1
    rw [Bool.and_eq_true_iff, decide_eq_true_iff, decide_eq_true_iff] at h4
    exact keys_putA_sub h (by simp; omega)
  | fin t =>
    intro k hk
    obtain ⟨p, hp, rfl⟩ := List.mem_map.mp hk
    exact h _ (List.mem_map_of_mem (f := fun p : Int × AL Int => p.1) (List.mem_filter.mp hp).1)
theorem run_keys : ∀ {ds : List Deed} {st : BSt} {es : List Ev}, (∀ k ∈ keysA st.sheets, k ∈ ([1, 2, 3, 4, 5, 6] : List Int)) → okAll st ds = true → ∀ k ∈ keysA (runAll (es, st) ds).2.sheets, k ∈ ([1, 2, 3, 4, 5, 6] : List Int)
  | [], st, es, h, _ => h
  | d :: ds, st, es, h, ok => run_keys (ds := ds) (es := es ++ (doneE st d).1) (keys_in h (Bool.and_eq_true_iff.mp ok).1) (Bool.and_eq_true_iff.mp ok).2
theorem okAll_take : ∀ {ds : List Deed} {st : BSt} {i : Nat}, okAll st ds = true → okAll st (ds.take i) = true
  | [], _, i, h => by simp [okAll]
  | d :: ds, st, 0, _ => rfl
  | d :: ds, st, i + 1, h => by
    show (okD st d && okAll (doneE st d).2 (ds.take i)) = true
    rw [(Bool.and_eq_true_iff.mp h).1, okAll_take (Bool.and_eq_true_iff.mp h).2] <;> rfl
end Lw

/-! the law's own misses: lists of [body, mark] -/
namespace Lw
open PySem PySem.Spec PyProof.Rows L2 DL Bo Fr
/-- a comprehension over a list of data whose items and values are data -/
theorem lc_data {K : PySem.W.Frag} {F H : Hp} {va : Addr} {xs : List V} {ds : List PyData} {keep : PyData → Bool} {f : PyData → PyData} {g : TG} {tt : TT} {te : TE} {vs : List Nat} {σ : L2.St} {Q : VK}
    (sm : Same F H) (hva : SqL K H va xs) (hds : DpAll K F xs ds) (hl : ds.length ≤ 1000000)
    (hs : ∀ (x : V) (d : PyData) (F' H' : Hp) (A : Hp → Prop) (B : V → Hp → Prop), d ∈ ds → Dp K F' x d → Gr [] F H F' H' →
      (keep d = false → ∀ F'' H'', Gr [] F' H' F'' H'' → A H'') → (keep d = true → ∀ y F'' H'', Gr [] F' H' F'' H'' → Dp K F'' y (f d) → B y H'') →
      g x (wipe σ vs) H' fun σ2 H2 => wipe σ2 vs = wipe σ vs ∧ tt σ2 H2 fun b H3 => if b = true then te σ2 H3 B else A H3)
    (k : ∀ D ys F' H', Gr [] F H F' H' → H D = none → F' D = none → H' D = some (.lst ys) → DpAll K F' ys ((ds.filter keep).map f) → Q (.ref D) H') :
    ∃ a, V.ref va = .ref a ∧ (∃ xs, SqL K H a xs) ∧ ∀ D, H D = none → ∃ W : Nat → Nat → Hp → Prop, (∃ m, W 0 m (upd H D (.lst []))) ∧ ∀ i m H, W i m H →
      ((Itl K a).stop i H ∧ Q (.ref D) H) ∨ ((Itl K a).go i H ∧ ∃ Nx : Hp → Prop, (∀ H', Nx H' → ∃ m', m' < m ∧ W (i + 1) m' H') ∧ ∀ x H', (Itl K a).yld i H x H' → g x (wipe σ vs) H' fun σ2 H2 => wipe σ2 vs = wipe σ vs ∧ tt σ2 H2 fun b H3 =>
        if b = true then te σ2 H3 fun y H4 => ∃ acc, H4 D = some (.lst acc) ∧ acc.length < sizeLine ∧ Nx (upd H4 D (.lst (acc ++ [y]))) else Nx H3) := by
  refine ⟨va, rfl, ⟨xs, hva⟩, fun D hD => ?_⟩
  have fD := sub_free sm hD
  have hll := dp_len hds
  refine lc_it (walk_list (K := K) (a := va) (xs := xs)) (fun i H' => ∃ F' ys, Gr [] F H F' H' ∧ F' D = none ∧ H' D = some (.lst ys) ∧ DpAll K F' ys (((ds.take i).filter keep).map f) ∧ ys.length ≤ i) ⟨F, [], Gr.newOwn sm hD, fD, upd_same, .nil, Nat.le_refl _⟩ ?_ ?_ ?_
  · rintro i H' _ ⟨F', ys, g', _⟩
    exact sql_gr g' (by simp) hva
  · rintro i x H' H'' hi ⟨F', ys, g', fD', hDD, hys, hyl⟩ ⟨rfl, hx⟩
    obtain ⟨d, hd, hxd⟩ := dp_getV hds hx
    have hfil : ((ds.take (i + 1)).filter keep).map f = if keep d = true then ((ds.take i).filter keep).map f ++ [f d] else ((ds.take i).filter keep).map f := by
      rw [take_succ_get hd, filter_snoc]
      by_cases e : keep d = true
      · rw [if_pos e, if_pos e, List.map_append]; rfl
      · rw [if_neg e, if_neg e]
    refine hs x d F' H'' _ _ (List.mem_of_getElem? hd) (hxd.to g'.fs) g' (fun e F9 H9 g9 => ?_) (fun e y F9 H9 g9 hy => ?_)
    · rw [hfil, if_neg (by rw [e]; simp)]
      exact ⟨F9, ys, g'.trans g9, g9.own D fD' (by rw [hDD]; exact fun z => nomatch z), g9.at0 hDD, hys.to g9.fs, by omega⟩
    · rw [hfil, if_pos e]
      have hD9 := g9.at0 hDD
      have fD9 : F9 D = none := g9.own D fD' (by rw [hDD]; exact fun z => nomatch z)
      exact ⟨ys, hD9, size1000000 (by omega), F9, ys ++ [y], (g'.trans g9).poke hD fD9, fD9, upd_same, dp_app (hys.to g9.fs) (.cons hy .nil), by simp; omega⟩
  · rintro H' ⟨F', ys, g', fD', hDD, hys, hyl⟩
    rw [hll, List.take_length] at hys
    exact k D ys F' H' g' hD fD' hDD hys
theorem lc_dataT {K : PySem.W.Frag} {F H : Hp} {va : Addr} {xs : List V} {ds : List PyData} {keep : PyData → Bool} {f : PyData → PyData} {tl : TE} {g : TG} {tt : TT} {te : TE} {vs : List Nat} {σ : L2.St} {Q : VK}
    (hj : ∀ R : VK, R (.ref va) H → tl σ H R) (sm : Same F H) (hva : SqL K H va xs) (hds : DpAll K F xs ds) (hl : ds.length ≤ 1000000)
    (hs : ∀ (x : V) (d : PyData) (F' H' : Hp) (A : Hp → Prop) (B : V → Hp → Prop), d ∈ ds → Dp K F' x d → Gr [] F H F' H' →
      (keep d = false → ∀ F'' H'', Gr [] F' H' F'' H'' → A H'') → (keep d = true → ∀ y F'' H'', Gr [] F' H' F'' H'' → Dp K F'' y (f d) → B y H'') →
      g x (wipe σ vs) H' fun σ2 H2 => wipe σ2 vs = wipe σ vs ∧ tt σ2 H2 fun b H3 => if b = true then te σ2 H3 B else A H3)
    (k : ∀ D ys F' H', Gr [] F H F' H' → H D = none → F' D = none → H' D = some (.lst ys) → DpAll K F' ys ((ds.filter keep).map f) → Q (.ref D) H') :
    tLc (iSeq K tl) g tt te vs σ H Q := S.lcS (S.iSeqL (hj _ (lc_data sm hva hds hl hs k)))
abbrev LR := List (Int × Bool)
def ownD (p : Int × Bool) : PyData := .list [.int p.1, .bool p.2]
def rowsD (row : LR) : List PyData := row.map ownD
def inside (row : LR) : List Int := row.map (·.1)
theorem own_of {row : LR} {d : PyData} (h : d ∈ rowsD row) : ∃ p ∈ row, d = ownD p := by
  obtain ⟨p, hp, rfl⟩ := List.mem_map.mp h
  exact ⟨p, hp, rfl⟩
def ownB : PyData → Int
  | .list (.int b :: _) => b
  | _ => 0
def ownM : PyData → Bool
  | .list (_ :: .bool m :: _) => m
  | _ => false
theorem rowsD_map {α : Type} (row : LR) (f : PyData → α) : (rowsD row).map f = row.map fun p => f (ownD p) := by unfold rowsD; rw [List.map_map]; rfl
theorem rowsD_filter (row : LR) (keep : PyData → Bool) : (rowsD row).filter keep = rowsD (row.filter fun p => keep (ownD p)) := by
  unfold rowsD; rw [List.filter_map]; rfl
/-- what is put out, by each rule -/
def lk (looked : AL Int) (b : Int) : Int := (getA looked b).getD 0
def firstUn (row : LR) : Option Int := ((row.filter fun p => !p.2).map (·.1)).head?
def OutR (row : LR) (looked : AL Int) (frames : Int) (R : Rule) (gone : Nat) (x : Int) : Prop := match R with
  | .first => (inside row).head? = some x
  | .longest => x ∈ inside row ∧ ∀ b ∈ inside row, lk looked x ≤ lk looked b
  | .clock => (match firstUn row with | some y => x = y | none => (inside row).head? = some x)
  | .told cs => x = ((sortI (inside row))[(((cs[gone]?).getD 0) % frames).toNat]?).getD 0
def spOut (K : PySem.W.Frag) : Sp := fun vs H Q _ => ∃ (F : Hp) (v u : V) (lka : Addr) (row : LR) (looked : AL Int) (n : Int) (R : Rule) (gone : Nat), vs = [v, .ref lka, .int n, u, .int (gone : Int)] ∧ Same F H ∧ Dp K F v (.list (rowsD row)) ∧ H lka = some (.dK (kM V.int looked)) ∧
  1 ≤ n ∧ n ≤ 16 ∧ (row.length : Int) = n ∧ (∀ b ∈ inside row, (getA looked b).isSome = true) ∧ Dp K F u (ruleD R) ∧ ∀ x F' H', OutR row looked n R gone x → Gr [] F H F' H' → Q (.int x) H'
def atOf (row : LR) (x : Int) : Nat := (inside row).findIdx (· == x)
def turnedR (row : LR) (x : Int) : LR := if (row.filter (·.2)).length = row.length then row.map fun p => (p.1, false) else row.drop (atOf row x) ++ (row.take (atOf row x)).map fun p => (p.1, false)
def spTurned (K : PySem.W.Frag) : Sp := fun vs H Q _ => ∃ (F : Hp) (v : V) (row : LR) (x : Int), vs = [v, .int x] ∧ Same F H ∧ Dp K F v (.list (rowsD row)) ∧ row.length ≤ 100 ∧ x ∈ inside row ∧ ∀ w F' H', Gr [] F H F' H' → Dp K F' w (.list (rowsD (turnedR row x))) → Q w H'
end Lw
namespace Lw
open PySem PySem.Spec PyProof.Rows L2 DL Bo Fr
/-- [own[0] for own in row] -/
theorem lc_bodies {K : PySem.W.Frag} {F H : Hp} {v : V} {row : LR} {i j : Nat} {vs : List Nat} {σ : L2.St} {Q : VK} (sm : Same F H) (hv : Dp K F v (.list (rowsD row))) (hl : row.length ≤ 1000)
    (hj : σ[j]? = some (some v)) (hi : ∀ x : V, ((wipe σ vs).set i (some x))[i]? = some (some x)) (hw : ∀ x : V, wipe ((wipe σ vs).set i (some x)) vs = wipe σ vs)
    (k : ∀ D F' H', Gr [] F H F' H' → H D = none → F' D = none → H' D = some (.lst ((inside row).map V.int)) → Q (.ref D) H') :
    tLc (iSeq K (tVar j)) (gName i) tYes (tOp (rIx K) (tVar i) (tC (.int 0))) vs σ H Q := by
  obtain ⟨va, xs, rfl, hva, hds⟩ := dp_list hv
  refine S.lcS (S.iSeqL (S.var hj ?_))
  refine lc_data (K := K) (keep := fun _ => true) (f := fun d => .int (ownB d)) sm (same_lst sm hva) hds (by unfold rowsD; rw [List.length_map]; omega) ?_ ?_
  · intro x d F' H' A B hd hx g _ kT
    obtain ⟨p, _, rfl⟩ := own_of hd
    refine S.name ⟨hw x, S.yes (S.iteT rfl (S.op (S.var (hi x) (S.c ?_))))⟩
    exact S.ixL (K := K) (ds := [.int p.1, .bool p.2]) (d := .int p.1) hx g.sub S.atI_0 fun y hy => kT rfl y F' H' (Gr.refl g.sub) hy
  · intro D ys F' H' g hD fD hDD hys
    refine k D F' H' g hD fD ?_
    have e : ((rowsD row).filter fun _ => true).map (fun d => PyData.int (ownB d)) = (inside row).map PyData.int := by
      rw [List.filter_eq_self.mpr (fun _ _ => rfl), rowsD_map]
      unfold inside
      rw [List.map_map]; rfl
    rw [e] at hys
    rw [hDD, dp_ints_inv hys]
/-- [own for own in row if ..] -/
theorem lc_keep {K : PySem.W.Frag} {F H : Hp} {v : V} {row : LR} {c : Int × Bool → Bool} {i j : Nat} {tt : TT} {vs : List Nat} {σ : L2.St} {Q : VK} (sm : Same F H) (hv : Dp K F v (.list (rowsD row))) (hl : row.length ≤ 1000)
    (hj : σ[j]? = some (some v)) (hi : ∀ x : V, ((wipe σ vs).set i (some x))[i]? = some (some x)) (hw : ∀ x : V, wipe ((wipe σ vs).set i (some x)) vs = wipe σ vs)
    (ht : ∀ (x : V) (p : Int × Bool) (F' H' : Hp) (QT : Bool → Hp → Prop), Dp K F' x (ownD p) → Same F' H' → QT (c p) H' → tt ((wipe σ vs).set i (some x)) H' QT)
    (k : ∀ D F' H', Gr [] F H F' H' → H D = none → Dp K F' (.ref D) (.list (rowsD (row.filter c))) → Q (.ref D) H') :
    tLc (iSeq K (tVar j)) (gName i) tt (tVar i) vs σ H Q := by
  obtain ⟨va, xs, rfl, hva, hds⟩ := dp_list hv
  refine S.lcS (S.iSeqL (S.var hj ?_))
  refine lc_data (K := K) (keep := fun d => c (ownB d, ownM d)) (f := id) sm (same_lst sm hva) hds (by unfold rowsD; rw [List.length_map]; omega) ?_ ?_
  · intro x d F' H' A B hd hx g kF kT
    obtain ⟨p, _, rfl⟩ := own_of hd
    refine S.name ⟨hw x, ht x p F' H' _ hx g.sub ?_⟩
    have e : c (ownB (ownD p), ownM (ownD p)) = c p := rfl
    rw [e] at kF kT
    refine S.ite (fun e => ?_) (fun e => ?_)
    · exact S.var (hi x) (kT e x F' H' (Gr.refl g.sub) hx)
    · exact kF e F' H' (Gr.refl g.sub)
  · intro D ys F' H' g hD fD hDD hys
    have e : ((rowsD row).filter fun d => c (ownB d, ownM d)).map id = rowsD (row.filter c) := by
      rw [List.map_id, rowsD_filter]; rfl
    rw [e] at hys
    exact k D _ H' (g.frz hD fD hDD) hD (.lst (.inl (.inl upd_same)) (hys.to fun b o e => by rw [upd_ne (ne_of_none e fD)]; exact e))
/-- [[own[0], ..] for own in ..] -/
theorem lc_new {K : PySem.W.Frag} {F H : Hp} {v : V} {row : LR} {c : Int × Bool → Bool} {i : Nat} {tl : TE} {te : TE} {vs : List Nat} {σ : L2.St} {Q : VK} (sm : Same F H) (hv : Dp K F v (.list (rowsD row))) (hl : row.length ≤ 1000)
    (hj : ∀ R : VK, R v H → tl σ H R) (hw : ∀ x : V, wipe ((wipe σ vs).set i (some x)) vs = wipe σ vs)
    (ht : ∀ (x : V) (p : Int × Bool) (F' H' : Hp) (R : VK), Dp K F' x (ownD p) → Same F' H' → (∀ q F'' H'', Gr [] F' H' F'' H'' → Dp K F'' (.ref q) (.list [.int p.1, .bool (c p)]) → R (.ref q) H'') → te ((wipe σ vs).set i (some x)) H' R)
    (k : ∀ D ys F' H', Gr [] F H F' H' → H D = none → F' D = none → H' D = some (.lst ys) → DpAll K F' ys (rowsD (row.map fun p => (p.1, c p))) → Q (.ref D) H') :
    tLc (iSeq K tl) (gName i) tYes te vs σ H Q := by
  obtain ⟨va, xs, rfl, hva, hds⟩ := dp_list hv
  refine S.lcS (S.iSeqL (hj _ ?_))
  refine lc_data (K := K) (keep := fun _ => true) (f := fun d => .list [.int (ownB d), .bool (c (ownB d, ownM d))]) sm (same_lst sm hva) hds (by unfold rowsD; rw [List.length_map]; omega) ?_ ?_
  · intro x d F' H' A B hd hx g kF kT
    obtain ⟨p, _, rfl⟩ := own_of hd
    refine S.name ⟨hw x, S.yes (S.iteT rfl (ht x p F' H' _ hx g.sub fun q F'' H'' g' hq => kT rfl _ F'' H'' g' hq))⟩
  · intro D ys F' H' g hD fD hDD hys
    have e : ((rowsD row).filter fun _ => true).map (fun d => PyData.list [.int (ownB d), .bool (c (ownB d, ownM d))]) = rowsD (row.map fun p => (p.1, c p)) := by
      rw [List.filter_eq_self.mpr (fun _ _ => rfl), rowsD_map]
      unfold rowsD
      rw [List.map_map]; rfl
    rw [e] at hys
    exact k D ys F' H' g hD fD hDD hys
def Rule.isFirst : Rule → Bool
  | .first => true | _ => false
theorem eqv_first (R : Rule) : PyData.eqv (ruleD R) (.str "first") = Rule.isFirst R := by
  cases R with
  | told cs => simp [ruleD, PyData.eqv, Rule.isFirst]
  | _ => simp only [ruleD, PyData.eqv, Rule.isFirst] <;> decide +kernel
theorem shaped_first : SeqAt.shaped (.str "first") = true := shaped_str (by decide +kernel)
end Lw
namespace Lw
open PySem PySem.Spec PyProof.Rows L2 DL Bo Fr
def pk (H : Hp) : V → Int × Int
  | .ref t => match H t with
    | some (.tup [.int a, .int b]) => (a, b)
    | _ => (0, 0)
  | _ => (0, 0)
theorem pk_of {H : Hp} {t : Addr} {a b : Int} (h : H t = some (.tup [.int a, .int b])) : pk H (.ref t) = (a, b) := by unfold pk; dsimp only; rw [h]
theorem inside_len (row : LR) : (inside row).length = row.length := by unfold inside; rw [List.length_map]
theorem head_some {α : Type} {l : List α} (h : l ≠ []) : ∃ a r, l = a :: r ∧ l.head? = some a := by
  cases l with
  | nil => exact absurd rfl h
  | cons a r => exact ⟨a, r, rfl, rfl⟩
end Lw
namespace Lw
open PySem PySem.Spec PyProof.Rows L2 DL Bo Fr
theorem rows_lay : ∀ row : LR, PyData.canLayAll0 (rowsD row) = true ∧ PyData.depthAll (rowsD row) ≤ 1
  | [] => ⟨by simp [rowsD, PyData.canLayAll0], by simp [rowsD, PyData.depthAll]⟩
  | p :: row => by
    obtain ⟨h1, h2⟩ := rows_lay row
    have e : rowsD (p :: row) = ownD p :: rowsD row := rfl
    rw [e]
    refine ⟨?_, ?_⟩
    · unfold PyData.canLayAll0
      rw [h1]
      simp [ownD, PyData.canLay0, PyData.canLayAll0]
    · unfold PyData.depthAll
      have : (ownD p).depth ≤ 1 := by simp [ownD, PyData.depth, PyData.depthAll]
      omega
theorem rows_shaped (row : LR) : SeqAt.shaped (.list (rowsD row)) = true := by
  obtain ⟨h1, h2⟩ := rows_lay row
  unfold SeqAt.shaped
  have h3 : (PyData.list (rowsD row)).depth ≤ 2 := by unfold PyData.depth; omega
  have h4 : (PyData.list (rowsD row)).canLay0 = true := by unfold PyData.canLay0; exact h1
  rw [h4, decide_eq_true (by omega)] <;> rfl
end Lw
namespace Lw
open PySem PySem.Spec PyProof.Rows L2 DL Bo Fr
/-- [[own[0], ..] for own in ..], the list made on the way -/
theorem lc_new2 {K : PySem.W.Frag} {F H : Hp} {row : LR} {c : Int × Bool → Bool} {i : Nat} {tl : TE} {te : TE} {vs : List Nat} {σ : L2.St} {Q : VK} (hl : row.length ≤ 1000)
    (hj : ∀ R : VK, (∀ w F2 H2, Gr [] F H F2 H2 → Dp K F2 w (.list (rowsD row)) → R w H2) → tl σ H R) (hw : ∀ x : V, wipe ((wipe σ vs).set i (some x)) vs = wipe σ vs)
    (ht : ∀ (x : V) (p : Int × Bool) (F' H' : Hp) (R : VK), Dp K F' x (ownD p) → Same F' H' → (∀ q F'' H'', Gr [] F' H' F'' H'' → Dp K F'' (.ref q) (.list [.int p.1, .bool (c p)]) → R (.ref q) H'') → te ((wipe σ vs).set i (some x)) H' R)
    (k : ∀ D ys F' H', Gr [] F H F' H' → H D = none → F' D = none → H' D = some (.lst ys) → DpAll K F' ys (rowsD (row.map fun p => (p.1, c p))) → Q (.ref D) H') :
    tLc (iSeq K tl) (gName i) tYes te vs σ H Q := by
  refine S.lcS (S.iSeqL (hj _ fun w F2 H2 g2 hw2 => ?_))
  obtain ⟨va, xs, rfl, hva, hds⟩ := dp_list hw2
  refine lc_data (K := K) (F := F2) (keep := fun _ => true) (f := fun d => .list [.int (ownB d), .bool (c (ownB d, ownM d))]) g2.sub (same_lst g2.sub hva) hds (by unfold rowsD; rw [List.length_map]; omega) ?_ ?_
  · intro x d F' H' A B hd hx g kF kT
    obtain ⟨p, _, rfl⟩ := own_of hd
    refine S.name ⟨hw x, S.yes (S.iteT rfl (ht x p F' H' _ hx g.sub fun q F'' H'' g' hq => kT rfl _ F'' H'' g' hq))⟩
  · intro D ys F' H' g hD fD hDD hys
    have e : ((rowsD row).filter fun _ => true).map (fun d => PyData.list [.int (ownB d), .bool (c (ownB d, ownM d))]) = rowsD (row.map fun p => (p.1, c p)) := by
      rw [List.filter_eq_self.mpr (fun _ _ => rfl), rowsD_map]
      unfold rowsD
      rw [List.map_map]; rfl
    rw [e] at hys
    exact k D ys F' H' (g2.trans g) (g2.free hD) fD hDD hys
/-- l[a:], l[:b] of a list of data -/
theorem slLF {K : PySem.W.Frag} {F H : Hp} {v : V} {ds : List PyData} {e : Nat} {Q : VK} (h : Dp K F v (.list ds)) (s : Same F H) (q : ∀ p ys F' H', Gr [] F H F' H' → H p = none → F' p = none → H' p = some (.lst ys) → DpAll K F' ys (ds.drop e) → Q (.ref p) H') : rSlU K v (some (e : Int)) none H Q := by
  obtain ⟨a, xs, rfl, h1, h2⟩ := dp_list h
  refine .inl ⟨a, xs, rfl, same_lst s h1, fun p hp => ?_⟩
  have e1 : cutV xs (some (e : Int)) none = xs.drop e := by
    unfold cutV
    rw [HT.sIx_nat, HT.sIx_none]
    by_cases h5 : e ≤ xs.length
    · rw [Nat.min_eq_left h5, List.take_of_length_le (by rw [List.length_drop]; omega)]
    · rw [Nat.min_eq_right (by omega), List.drop_of_length_le (Nat.le_refl _), List.drop_of_length_le (by omega)] <;> simp
  rw [e1]
  exact q p _ F _ (Gr.newOwn s hp) hp (sub_free s hp) upd_same (dp_drop e h2)
theorem slLT {K : PySem.W.Frag} {F H : Hp} {v : V} {ds : List PyData} {e : Nat} {Q : VK} (h : Dp K F v (.list ds)) (s : Same F H) (q : ∀ p ys F' H', Gr [] F H F' H' → H p = none → F' p = none → H' p = some (.lst ys) → DpAll K F' ys (ds.take e) → Q (.ref p) H') : rSlU K v none (some (e : Int)) H Q := by
  obtain ⟨a, xs, rfl, h1, h2⟩ := dp_list h
  refine .inl ⟨a, xs, rfl, same_lst s h1, fun p hp => ?_⟩
  have e1 : cutV xs none (some (e : Int)) = xs.take e := by
    unfold cutV
    rw [HT.sIx_nat, HT.sIx_none, List.drop_zero, Nat.sub_zero]
    by_cases h5 : e ≤ xs.length
    · rw [Nat.min_eq_left h5]
    · rw [Nat.min_eq_right (by omega), List.take_of_length_le (Nat.le_refl _), List.take_of_length_le (by omega)]
  rw [e1]
  exact q p _ F _ (Gr.newOwn s hp) hp (sub_free s hp) upd_same (dp_take e h2)
theorem dp_same_upd {K : PySem.W.Frag} {F : Hp} {q : Addr} {o : HO} {xs : List V} {ds : List PyData} (fq : F q = none) (h : DpAll K F xs ds) : DpAll K (upd F q o) xs ds := h.to fun b u e => by rw [upd_ne (ne_of_none e fq)]; exact e
theorem index_at : ∀ {l : List Int} {x : Int}, x ∈ l → l[l.findIdx (· == x)]? = some x ∧ ∀ (m : Nat) (z : Int), m < l.findIdx (· == x) → l[m]? = some z → z ≠ x
  | [], _, h => nomatch h
  | a :: l, x, h => by
    by_cases e : a = x
    · subst e
      rw [List.findIdx_cons]
      simp
    · have h' : x ∈ l := (List.mem_cons.mp h).resolve_left fun z => e z.symm
      obtain ⟨h1, h2⟩ := index_at h'
      have e2 : (a == x) = false := beq_eq_false_iff_ne.mpr e
      rw [List.findIdx_cons, e2]
      refine ⟨by simpa using h1, fun m z hm hz => ?_⟩
      cases m with
      | zero => simp at hz; subst hz; exact e
      | succ m => exact h2 m z (by simpa using hm) (by simpa using hz)
end Lw

/-! plain: the law's rows and the program's frames walk side by side -/
namespace Lw
open PySem PySem.Spec PyProof.Rows L2 DL Bo Fr
structure LS where
  row : LR
  looked : AL Int
  missed : Int
  gone : Nat
def others (row : LR) (b : Int) : LR := row.filter fun p => !decide (p.1 = b)
def seen (row : LR) (b : Int) : LR := row.map fun p => (p.1, p.2 || decide (p.1 = b))
structure Rel (n : Int) (R : Rule) (i : Nat) (s : LS) (fs : FSt) : Prop where
  n1 : 1 ≤ n
  fm : fs.missed = s.missed
  fl : fs.left = s.gone
  fp : fs.places = n
  fr : fs.rule = R
  nd : (inside s.row).Nodup
  len : (s.row.length : Int) ≤ n
  lks : ∀ b ∈ inside s.row, ∃ t, getA s.looked b = some t ∧ t < i
  ll : s.looked.length ≤ i
  rows : R.isLongest = false → fs.row = inside s.row
  lru : R.isLongest = true → fs.row.Perm (inside s.row) ∧ fs.row.Pairwise (fun a b => lk s.looked a < lk s.looked b)
  mkd : R.isClock = true → ∀ p ∈ s.row, p.2 = (getA fs.marked p.1).isSome
  mks : R.isClock = true → ∀ k, (getA fs.marked k).isSome = true → k ∈ inside s.row
theorem inside_others (row : LR) (b : Int) : inside (others row b) = (inside row).filter fun x => !decide (x = b) := by
  unfold inside others
  rw [List.filter_map]; rfl
theorem erase_filter {l : List Int} (nd : l.Nodup) (b : Int) : l.erase b = l.filter fun x => !decide (x = b) := by
  rw [nd.erase_eq_filter]
  apply List.filter_congr
  intro x _
  by_cases e : x = b
  · subst e; simp
  · simp [e]
theorem inside_seen (row : LR) (b : Int) : inside (seen row b) = inside row := by
  unfold inside seen; rw [List.map_map]; rfl
theorem inside_app (a b : LR) : inside (a ++ b) = inside a ++ inside b := by unfold inside; rw [List.map_append]
theorem inside_mem {row : LR} {p : Int × Bool} (h : p ∈ row) : p.1 ∈ inside row := List.mem_map_of_mem (f := fun p : Int × Bool => p.1) h
theorem Rel.perm {n : Int} {R : Rule} {i : Nat} {s : LS} {fs : FSt} (h : Rel n R i s fs) : fs.row.Perm (inside s.row) := by
  by_cases e : R.isLongest = true
  · exact (h.lru e).1
  · rw [h.rows (by simpa using e)]
theorem Rel.rlen {n : Int} {R : Rule} {i : Nat} {s : LS} {fs : FSt} (h : Rel n R i s fs) : fs.row.length = s.row.length := by rw [h.perm.length_eq, inside_len]
theorem Rel.isS {n : Int} {R : Rule} {i : Nat} {s : LS} {fs : FSt} (h : Rel n R i s fs) : ∀ b ∈ inside s.row, (getA s.looked b).isSome = true := fun b hb => by
  obtain ⟨t, ht, _⟩ := h.lks b hb
  rw [ht]; rfl
theorem Rel.zero {n : Int} (h1 : 1 ≤ n) (R : Rule) : Rel n R 0 ⟨[], [], 0, 0⟩ (fst0 n R) :=
  ⟨h1, rfl, rfl, rfl, rfl, List.nodup_nil, by show (0 : Int) ≤ n; omega, (fun _ h => nomatch h), Nat.le_refl _, fun _ => rfl, fun _ => ⟨.refl _, .nil⟩, (fun _ _ h => nomatch h), fun _ k h => by cases h⟩
/-- a body is gone -/
theorem Rel.gone {n : Int} {R : Rule} {i : Nat} {s : LS} {fs : FSt} (h : Rel n R i s fs) (b : Int) : Rel n R (i + 1) { s with row := others s.row b } (leaveF fs b) := by
  have hi := inside_others s.row b
  have hsub : ∀ x ∈ inside (others s.row b), x ∈ inside s.row := fun x hx => by rw [hi] at hx; exact (List.mem_filter.mp hx).1
  refine ⟨h.n1, h.fm, h.fl, h.fp, h.fr, ?_, ?_, ?_, Nat.le_succ_of_le h.ll, ?_, ?_, ?_, ?_⟩
  · rw [hi]; exact h.nd.filter _
  · have := List.length_filter_le (fun p : Int × Bool => !decide (p.1 = b)) s.row
    have := h.len
    show ((others s.row b).length : Int) ≤ n
    unfold others
    omega
  · intro x hx
    obtain ⟨t, ht, hti⟩ := h.lks x (hsub x hx)
    exact ⟨t, ht, by omega⟩
  · intro e
    show fs.row.erase b = inside (others s.row b)
    rw [hi, h.rows e, erase_filter h.nd]
  · intro e
    obtain ⟨p1, p2⟩ := h.lru e
    refine ⟨?_, p2.sublist List.erase_sublist⟩
    show (fs.row.erase b).Perm (inside (others s.row b))
    rw [hi, ← erase_filter h.nd]
    exact p1.erase b
  · intro e p hp
    obtain ⟨hp1, hp2⟩ := List.mem_filter.mp hp
    have hne : ¬ p.1 = b := by simpa using hp2
    show p.2 = (getA (dropA fs.marked b) p.1).isSome
    rw [getA_dropA, if_neg hne]
    exact h.mkd e p hp1
  · intro e k hk
    have hk' : (getA (dropA fs.marked b) k).isSome = true := hk
    rw [getA_dropA] at hk'
    by_cases e2 : k = b
    · rw [if_pos e2] at hk'; cases hk'
    · rw [if_neg e2] at hk'
      show k ∈ inside (others s.row b)
      rw [hi]
      exact List.mem_filter.mpr ⟨h.mks e k hk', by simp [e2]⟩
theorem lk_put (looked : AL Int) (b t a : Int) : lk (putA looked b t) a = if a = b then t else lk looked a := by
  unfold lk
  rw [getA_putA]
  by_cases e : a = b <;> simp [e]
theorem lk_lt {n : Int} {R : Rule} {i : Nat} {s : LS} {fs : FSt} (h : Rel n R i s fs) {a : Int} (ha : a ∈ inside s.row) : lk s.looked a < i := by
  obtain ⟨t, ht, hti⟩ := h.lks a ha
  unfold lk
  rw [ht]; exact hti
/-- a body that is there is looked at -/
theorem Rel.look {n : Int} {R : Rule} {i : Nat} {s : LS} {fs : FSt} (h : Rel n R i s fs) {b : Int} (hb : b ∈ inside s.row) : Rel n R (i + 1) { s with row := seen s.row b, looked := putA s.looked b i } (lookF fs b) := by
  have hi := inside_seen s.row b
  have hbf : b ∈ fs.row := h.perm.symm.subset hb
  have hlks : ∀ x ∈ inside (seen s.row b), ∃ t, getA (putA s.looked b (i : Int)) x = some t ∧ t < ((i + 1 : Nat) : Int) := fun x hx => by
    rw [hi] at hx
    rw [getA_putA]
    by_cases e : x = b
    · rw [if_pos e]; exact ⟨i, rfl, by omega⟩
    · rw [if_neg e]
      obtain ⟨t, ht, hti⟩ := h.lks x hx
      exact ⟨t, ht, by omega⟩
  have hll : (putA s.looked b (i : Int)).length ≤ i + 1 := by
    have := putA_len s.looked b (i : Int)
    have := h.ll
    omega
  have hlen : ((seen s.row b).length : Int) ≤ n := by unfold seen; rw [List.length_map]; exact h.len
  have hfr := h.fr
  cases R with
  | longest =>
    have e1 : lookF fs b = { fs with row := fs.row.erase b ++ [b] } := by simp [lookF, hfr, Rule.isClock, Rule.isLongest]
    rw [e1]
    obtain ⟨p1, p2⟩ := h.lru rfl
    have hnd : fs.row.Nodup := p1.symm.nodup_iff.mp h.nd
    refine ⟨h.n1, h.fm, h.fl, h.fp, h.fr, by rw [hi]; exact h.nd, hlen, hlks, hll, (fun e => nomatch e), fun _ => ⟨?_, ?_⟩, (fun e => nomatch e), (fun e => nomatch e)⟩
    · show (fs.row.erase b ++ [b]).Perm (inside (seen s.row b))
      rw [hi]
      exact (List.perm_append_comm.trans (List.perm_cons_erase hbf).symm).trans p1
    · show (fs.row.erase b ++ [b]).Pairwise (fun x y => lk (putA s.looked b i) x < lk (putA s.looked b i) y)
      rw [List.pairwise_append]
      refine ⟨?_, List.pairwise_singleton _ _, ?_⟩
      · refine (p2.sublist List.erase_sublist).imp_of_mem ?_
        intro x y hx hy hxy
        have hx' := hnd.mem_erase_iff.mp hx
        have hy' := hnd.mem_erase_iff.mp hy
        rw [lk_put, lk_put, if_neg hx'.1, if_neg hy'.1]
        exact hxy
      · intro x hx y hy
        rw [List.mem_singleton.mp hy]
        have hx' := hnd.mem_erase_iff.mp hx
        rw [lk_put, lk_put, if_neg hx'.1, if_pos rfl]
        exact lk_lt h (p1.subset hx'.2)
  | clock =>
    have e1 : lookF fs b = { fs with marked := putA fs.marked b () } := by simp [lookF, hfr, Rule.isClock, Rule.isLongest]
    rw [e1]
    refine ⟨h.n1, h.fm, h.fl, h.fp, h.fr, by rw [hi]; exact h.nd, hlen, hlks, hll, fun e => by rw [hi]; exact h.rows e, (fun e => nomatch e), fun e p hp => ?_, fun e k hk => ?_⟩
    · obtain ⟨q, hq, rfl⟩ := List.mem_map.mp hp
      show (q.2 || decide (q.1 = b)) = (getA (putA fs.marked b ()) q.1).isSome
      rw [getA_putA, h.mkd e q hq]
      by_cases e2 : q.1 = b <;> simp [e2]
    · have hk' : (getA (putA fs.marked b ()) k).isSome = true := hk
      rw [isSome_putA] at hk'
      rw [hi]
      rcases hk' with rfl | hk'
      · exact hb
      · exact h.mks e k hk'
  | first =>
    have e1 : lookF fs b = fs := by simp [lookF, hfr, Rule.isClock, Rule.isLongest]
    rw [e1]
    exact ⟨h.n1, h.fm, h.fl, h.fp, h.fr, by rw [hi]; exact h.nd, hlen, hlks, hll, fun e => by rw [hi]; exact h.rows e, (fun e => nomatch e), (fun e => nomatch e), (fun e => nomatch e)⟩
  | told cs =>
    have e1 : lookF fs b = fs := by simp [lookF, hfr, Rule.isClock, Rule.isLongest]
    rw [e1]
    exact ⟨h.n1, h.fm, h.fl, h.fp, h.fr, by rw [hi]; exact h.nd, hlen, hlks, hll, fun e => by rw [hi]; exact h.rows e, (fun e => nomatch e), (fun e => nomatch e), (fun e => nomatch e)⟩
end Lw
namespace Lw
open PySem PySem.Spec PyProof.Rows L2 DL Bo Fr
theorem Rel.add {n : Int} {R : Rule} {i : Nat} {s : LS} {fs : FSt} (h : Rel n R i s fs) {b : Int} (hb : b ∉ inside s.row) (hl : (s.row.length : Int) < n) :
    Rel n R (i + 1) ⟨s.row ++ [(b, false)], putA s.looked b i, s.missed + 1, s.gone⟩ { fs with row := fs.row ++ [b], missed := fs.missed + 1 } := by
  have hi : inside (s.row ++ [(b, false)]) = inside s.row ++ [b] := by rw [inside_app]; rfl
  refine ⟨h.n1, by show fs.missed + 1 = s.missed + 1; rw [h.fm], h.fl, h.fp, h.fr, by rw [hi]; exact nodup_snoc h.nd hb, ?_, fun x hx => ?_, ?_, fun e => ?_, fun e => ⟨?_, ?_⟩, fun e p hp => ?_, fun e k hk => ?_⟩
  · show ((s.row ++ [(b, false)]).length : Int) ≤ n
    rw [List.length_append]
    show ((s.row.length + 1 : Nat) : Int) ≤ n
    omega
  · rw [hi] at hx
    show ∃ t, getA (putA s.looked b (i : Int)) x = some t ∧ t < ((i + 1 : Nat) : Int)
    rw [getA_putA]
    by_cases e : x = b
    · rw [if_pos e]; exact ⟨i, rfl, by omega⟩
    · rw [if_neg e]
      have hx' : x ∈ inside s.row := (List.mem_append.mp hx).resolve_right fun z => e (List.mem_singleton.mp z)
      obtain ⟨t, ht, hti⟩ := h.lks x hx'
      exact ⟨t, ht, by omega⟩
  · have := putA_len s.looked b (i : Int)
    have := h.ll
    show (putA s.looked b (i : Int)).length ≤ i + 1
    omega
  · show fs.row ++ [b] = inside (s.row ++ [(b, false)])
    rw [hi, h.rows e]
  · show (fs.row ++ [b]).Perm (inside (s.row ++ [(b, false)]))
    rw [hi]
    exact List.Perm.append_right _ (h.lru e).1
  · show (fs.row ++ [b]).Pairwise (fun x y => lk (putA s.looked b i) x < lk (putA s.looked b i) y)
    obtain ⟨p1, p2⟩ := h.lru e
    rw [List.pairwise_append]
    have hne : ∀ x ∈ fs.row, ¬ x = b := fun x hx z => hb (by rw [← z]; exact p1.subset hx)
    refine ⟨p2.imp_of_mem ?_, List.pairwise_singleton _ _, ?_⟩
    · intro x y hx hy hxy
      rw [lk_put, lk_put, if_neg (hne x hx), if_neg (hne y hy)]
      exact hxy
    · intro x hx y hy
      rw [List.mem_singleton.mp hy, lk_put, lk_put, if_neg (hne x hx), if_pos rfl]
      exact lk_lt h (p1.subset hx)
  · rcases List.mem_append.mp hp with hp | hp
    · exact h.mkd e p hp
    · rw [List.mem_singleton.mp hp]
      show false = (getA fs.marked b).isSome
      cases z : (getA fs.marked b).isSome with
      | false => rfl
      | true => exact absurd (h.mks e b z) hb
  · rw [hi]
    exact List.mem_append_left _ (h.mks e k hk)
def unm (row : LR) : LR := row.map fun p => (p.1, false)
theorem inside_unm (row : LR) : inside (unm row) = inside row := by unfold inside unm; rw [List.map_map]; rfl
/-- the clock turned over marked heads -/
theorem turn_marked : ∀ (A B C : LR) (mx : AL Unit) (m : Nat), (inside (A ++ B ++ C)).Nodup → (∀ p ∈ A ++ B, p.2 = (getA mx p.1).isSome) → (∀ p ∈ A, p.2 = true) → (∀ p ∈ C, (getA mx p.1).isSome = false) → (∀ k, (getA mx k).isSome = true → k ∈ inside (A ++ B)) → mx.length ≤ m →
    ∃ mx' m', turnC m (inside (A ++ B ++ C)) mx = turnC m' (inside (B ++ C ++ unm A)) mx' ∧ (∀ p ∈ B, p.2 = (getA mx' p.1).isSome) ∧ (∀ p ∈ C ++ unm A, (getA mx' p.1).isSome = false) ∧ (∀ k, (getA mx' k).isSome = true → k ∈ inside B) ∧ mx'.length ≤ m'
  | [], B, C, mx, m, nd, h1, _, h3, h4, hm => ⟨mx, m, by simp [unm], fun p hp => h1 p (by simpa using hp), fun p hp => h3 p (by simpa [unm] using hp), fun k hk => by simpa using h4 k hk, hm⟩
  | a :: A, B, C, mx, m, nd, h1, h2, h3, h4, hm => by
    have ha : (getA mx a.1).isSome = true := by rw [← h1 a (by simp)]; exact h2 a (by simp)
    have hlt := getA_some_len ha
    obtain ⟨m0, rfl⟩ : ∃ m0, m = m0 + 1 := ⟨m - 1, by omega⟩
    have hin : inside (a :: A ++ B ++ C) = a.1 :: inside (A ++ B ++ C) := rfl
    rw [hin] at nd
    obtain ⟨n1, n2⟩ := List.nodup_cons.mp nd
    have hstep : turnC (m0 + 1) (inside (a :: A ++ B ++ C)) mx = turnC m0 (inside (A ++ B ++ (C ++ [(a.1, false)]))) (dropA mx a.1) := by
      rw [hin]
      conv => lhs; unfold turnC
      rw [if_pos ha]
      congr 1
      unfold inside
      simp
    have hne : ∀ p ∈ A ++ B ++ C, ¬ p.1 = a.1 := fun p hp z => n1 (by rw [← z]; exact inside_mem hp)
    obtain ⟨mx', m', e1, e2, e3, e4, e5⟩ := turn_marked A B (C ++ [(a.1, false)]) (dropA mx a.1) m0 (by
        have : inside (A ++ B ++ (C ++ [(a.1, false)])) = inside (A ++ B ++ C) ++ [a.1] := by unfold inside; simp
        rw [this]
        exact nodup_snoc n2 n1)
      (fun p hp => by
        rw [getA_dropA, if_neg (hne p (by simp at hp ⊢; rcases hp with h | h <;> simp [h]))]
        exact h1 p (by simp at hp ⊢; rcases hp with h | h <;> simp [h]))
      (fun p hp => h2 p (List.mem_cons_of_mem _ hp))
      (fun p hp => by
        rw [getA_dropA]
        by_cases z : p.1 = a.1
        · rw [if_pos z]; rfl
        · rw [if_neg z]
          rcases List.mem_append.mp hp with hp | hp
          · exact h3 p hp
          · rw [List.mem_singleton.mp hp] at z; exact absurd rfl z)
      (fun k hk => by
        rw [getA_dropA] at hk
        by_cases z : k = a.1
        · rw [if_pos z] at hk; cases hk
        · rw [if_neg z] at hk
          have := h4 k hk
          have hin2 : inside (a :: A ++ B) = a.1 :: inside (A ++ B) := rfl
          rw [hin2] at this
          exact (List.mem_cons.mp this).resolve_left z)
      (by omega)
    refine ⟨mx', m', ?_, e2, fun p hp => e3 p ?_, e4, e5⟩
    · rw [hstep, e1]
      congr 1
      unfold inside unm
      simp
    · simp [unm] at hp ⊢
      rcases hp with h | h | h
      · exact .inl h
      · exact .inr (.inl h)
      · exact .inr (.inr h)
theorem turn_stop {m : Nat} {b : Int} {row : List Int} {mk : AL Unit} (h : (getA mk b).isSome = false) : turnC m (b :: row) mk = (b :: row, mk) := by
  cases m with
  | zero => rfl
  | succ m =>
    unfold turnC
    rw [if_neg (by rw [h]; simp)]
theorem first_split {row : LR} {y : Int} (hf : firstUn row = some y) : ∃ A B m, row = A ++ (y, m) :: B ∧ (∀ p ∈ A, p.2 = true) ∧ m = false := by
  induction row with
  | nil => cases hf
  | cons p row ih =>
    obtain ⟨b, m⟩ := p
    cases m with
    | false =>
      have : some b = some y := hf
      cases this
      exact ⟨[], row, false, rfl, (fun _ h => nomatch h), rfl⟩
    | true =>
      have hf' : firstUn row = some y := hf
      obtain ⟨A, B, m, e1, e2, e3⟩ := ih hf'
      refine ⟨(b, true) :: A, B, m, by rw [e1]; rfl, fun p hp => ?_, e3⟩
      rcases List.mem_cons.mp hp with rfl | hp
      · rfl
      · exact e2 p hp
/-- the clock: its hand stands where the law's row begins, the marks agree -/
theorem clock_turn {row : LR} {mk : AL Unit} {x : Int} (hne : row ≠ []) (nd : (inside row).Nodup) (h1 : ∀ p ∈ row, p.2 = (getA mk p.1).isSome) (h4 : ∀ k, (getA mk k).isSome = true → k ∈ inside row)
    (hx : match firstUn row with | some y => x = y | none => (inside row).head? = some x) :
    ∃ rest mk', turnC mk.length (inside row) mk = (inside (turnedR row x), mk') ∧ inside (turnedR row x) = x :: rest ∧ (∀ p ∈ turnedR row x, p.2 = (getA mk' p.1).isSome) ∧ (getA mk' x).isSome = false ∧ (∀ k, (getA mk' k).isSome = true → k ∈ inside row) := by
  cases hf : firstUn row with
  | none =>
    rw [hf] at hx
    have hall : ∀ p ∈ row, p.2 = true := fun p hp => by
      unfold firstUn at hf
      have hnil : row.filter (fun p => !p.2) = [] := by
        cases q : row.filter (fun p => !p.2) with
        | nil => rfl
        | cons a r => rw [q] at hf; cases hf
      have := List.filter_eq_nil_iff.mp hnil p hp
      simpa using this
    have htr : turnedR row x = unm row := by
      unfold turnedR
      rw [if_pos]
      · rfl
      · rw [List.filter_eq_self.mpr hall]
    obtain ⟨mk', m', e1, _, e3, e4, _⟩ := turn_marked row [] [] mk mk.length (by simpa using nd) (fun p hp => h1 p (by simpa using hp)) hall (fun _ h => nomatch h) (fun k hk => by simpa using h4 k hk) (Nat.le_refl _)
    have hno : ∀ k, (getA mk' k).isSome = false := fun k => by
      cases z : (getA mk' k).isSome with
      | false => rfl
      | true => have := e4 k z; cases this
    obtain ⟨a, r, rfl⟩ : ∃ a r, row = a :: r := by
      cases row with
      | nil => exact absurd rfl hne
      | cons a r => exact ⟨a, r, rfl⟩
    have hxa : a.1 = x := by
      have : some a.1 = some x := hx
      exact Option.some.inj this
    refine ⟨inside r, mk', ?_, ?_, fun p hp => ?_, hno x, fun k hk => by rw [hno k] at hk; cases hk⟩
    · simp only [List.append_nil, List.nil_append] at e1
      rw [e1, htr]
      have e9 : inside (unm (a :: r)) = a.1 :: inside r := by rw [inside_unm]; rfl
      rw [e9]
      exact turn_stop (hno _)
    · rw [htr, inside_unm, ← hxa]; rfl
    · rw [htr] at hp
      obtain ⟨q, hq, rfl⟩ := List.mem_map.mp hp
      rw [hno]
  | some y =>
    rw [hf] at hx
    have hxy : x = y := hx
    subst hxy
    obtain ⟨A, B, m, rfl, hA, hm⟩ : ∃ A B m, row = A ++ (x, m) :: B ∧ (∀ p ∈ A, p.2 = true) ∧ m = false := first_split hf
    subst hm
    have hnx : x ∉ inside A := fun z => by
      rw [inside_app] at nd
      have := (List.nodup_append.mp nd).2.2 x z x (by show x ∈ x :: inside B; simp)
      exact this rfl
    have hat : atOf (A ++ (x, false) :: B) x = A.length := by
      unfold atOf
      rw [inside_app]
      show (inside A ++ x :: inside B).findIdx (· == x) = _
      rw [List.findIdx_append]
      have hn : (inside A).findIdx (· == x) = (inside A).length := List.findIdx_eq_length.mpr fun y hy => beq_eq_false_iff_ne.mpr fun z => hnx (by rw [← z]; exact hy)
      rw [hn, if_neg (Nat.lt_irrefl _), List.findIdx_cons]
      simp [inside_len]
    have hnf : ¬ ((A ++ (x, false) :: B).filter (·.2)).length = (A ++ (x, false) :: B).length := fun z => by
      have := List.length_filter_eq_length_iff.mp z (x, false) (by simp)
      cases this
    have htr : turnedR (A ++ (x, false) :: B) x = ((x, false) :: B) ++ unm A := by
      unfold turnedR
      rw [if_neg hnf, hat]
      simp [unm]
    obtain ⟨mk', m', e1, e2, e3, e4, _⟩ := turn_marked A ((x, false) :: B) [] mk mk.length (by simpa using nd) (fun p hp => h1 p hp) hA (fun _ h => nomatch h) h4 (Nat.le_refl _)
    have hxm : (getA mk' x).isSome = false := (e2 (x, false) (by simp)).symm
    refine ⟨inside (B ++ unm A), mk', ?_, ?_, fun p hp => ?_, hxm, fun k hk => ?_⟩
    · simp only [List.append_nil] at e1
      rw [e1, htr]
      show turnC m' (x :: inside (B ++ unm A)) mk' = (x :: inside (B ++ unm A), mk')
      exact turn_stop hxm
    · rw [htr]; rfl
    · rw [htr] at hp
      rcases List.mem_append.mp hp with hp | hp
      · exact e2 p hp
      · rw [e3 p (by simpa using hp)]
        obtain ⟨q, _, rfl⟩ := List.mem_map.mp hp
        rfl
    · have := e4 k hk
      rw [inside_app]
      exact List.mem_append_right _ this
end Lw
namespace Lw
open PySem PySem.Spec PyProof.Rows L2 DL Bo Fr
theorem sortI_perm_eq {l m : List Int} (h : l.Perm m) : sortI l = sortI m := sortI_uniq ((sortI_perm l).trans h) (sortI_sorted l)
theorem outR_mem {n : Int} {R : Rule} {i : Nat} {s : LS} {fs : FSt} (h : Rel n R i s fs) {looked : AL Int} (hfull : (s.row.length : Int) = n) {x : Int} (hx : OutR s.row looked n R s.gone x) : x ∈ inside s.row := by
  have n1 := h.n1
  have head : (inside s.row).head? = some x → x ∈ inside s.row := fun z => List.mem_of_mem_head? (by rw [z]; rfl)
  cases R with
  | first => exact head hx
  | longest => exact hx.1
  | clock =>
    have hx' : (match firstUn s.row with | some y => x = y | none => (inside s.row).head? = some x) := hx
    cases q : firstUn s.row with
    | none => rw [q] at hx'; exact head hx'
    | some y =>
      rw [q] at hx'
      have hxy : x = y := hx'
      subst hxy
      obtain ⟨A, B, m, e, _, _⟩ := first_split q
      rw [e, inside_app]
      exact List.mem_append_right _ (by show x ∈ x :: inside B; simp)
  | told cs =>
    have hx' : x = ((sortI (inside s.row))[(((cs[s.gone]?).getD 0) % n).toNat]?).getD 0 := hx
    have hm1 := Int.emod_nonneg ((cs[s.gone]?).getD 0) (show n ≠ 0 by omega)
    have hm2 := Int.emod_lt_of_pos ((cs[s.gone]?).getD 0) (show 0 < n by omega)
    have hl2 : (sortI (inside s.row)).length = s.row.length := by rw [(sortI_perm _).length_eq, inside_len]
    have hj : (((cs[s.gone]?).getD 0) % n).toNat < (sortI (inside s.row)).length := by omega
    rw [hx', List.getElem?_eq_getElem hj]
    exact (sortI_perm _).subset (List.getElem_mem hj)
theorem erase_head {x : Int} {r : List Int} (nd : (x :: r).Nodup) : ((x :: r).filter fun y => !decide (y = x)) = r := by
  rw [← erase_filter nd]; simp
theorem len_of_inside {row row' : LR} (h : (inside row').length + 1 = (inside row).length) : row'.length + 1 = row.length := by rw [inside_len, inside_len] at h; exact h
/-- one is put out of a full row -/
theorem Rel.out {n : Int} {R : Rule} {i : Nat} {s : LS} {fs : FSt} (h : Rel n R i s fs) {looked : AL Int} (hlk : ∀ a ∈ inside s.row, lk looked a = lk s.looked a) (hfull : (s.row.length : Int) = n) {x : Int} (hx : OutR s.row looked n R s.gone x) :
    Rel n R i { s with row := others (if R.isClock then turnedR s.row x else s.row) x, gone := s.gone + 1 } (putOutF fs) ∧ (others (if R.isClock then turnedR s.row x else s.row) x).length + 1 = s.row.length ∧ ∀ b, b ∉ inside s.row → b ∉ inside (others (if R.isClock then turnedR s.row x else s.row) x) := by
  have n1 := h.n1
  have hxm := outR_mem h hfull hx
  have hfl : (fs.row.length : Int) = fs.places := by rw [h.rlen, h.fp]; exact hfull
  obtain ⟨_, _, _, q4, q5, q6, q7⟩ := putOut_facts (st := fs) (by rw [h.fp]; exact n1) hfl
  have base : ∀ (row' : LR), (inside row').Perm (inside s.row) → inside (others row' x) = (inside row').filter (fun y => !decide (y = x)) ∧ (others row' x).length + 1 = s.row.length ∧ (∀ b, b ∉ inside s.row → b ∉ inside (others row' x)) ∧ (inside (others row' x)).Nodup ∧ (∀ y ∈ inside (others row' x), y ∈ inside s.row) := fun row' hp => by
    have nd' := hp.symm.nodup_iff.mp h.nd
    have e := inside_others row' x
    have hsub : ∀ y ∈ inside (others row' x), y ∈ inside s.row := fun y hy => by rw [e] at hy; exact hp.subset (List.mem_filter.mp hy).1
    refine ⟨e, ?_, fun b hb z => hb (hsub b z), by rw [e]; exact nd'.filter _, hsub⟩
    apply len_of_inside
    rw [e, ← erase_filter nd', List.length_erase_of_mem (hp.symm.subset hxm), hp.length_eq]
    have := List.length_pos_of_mem hxm
    omega
  have lks' : ∀ (row' : LR), (∀ y ∈ inside row', y ∈ inside s.row) → ∀ b ∈ inside row', ∃ t, getA s.looked b = some t ∧ t < (i : Int) := fun row' hs b hb => h.lks b (hs b hb)
  have hfr := h.fr
  cases R with
  | first =>
    obtain ⟨b1, b2, b3, b4, b5⟩ := base s.row (.refl _)
    refine ⟨⟨n1, by rw [q6]; exact h.fm, by rw [q7, h.fl], by rw [q4]; exact h.fp, by rw [q5]; exact h.fr, b4, ?_, lks' _ b5, h.ll, fun _ => ?_, (fun e => nomatch e), (fun e => nomatch e), (fun e => nomatch e)⟩, b2, b3⟩
    · show ((others s.row x).length : Int) ≤ n
      omega
    · show (putOutF fs).row = inside (others s.row x)
      have e1 : (putOutF fs).row = fs.row.drop 1 := by simp [putOutF, hfr, Rule.isClock, Rule.isStr]
      have hh : (inside s.row).head? = some x := hx
      rw [e1, h.rows rfl, b1]
      cases q : inside s.row with
      | nil => rw [q] at hh; cases hh
      | cons a r =>
        rw [q] at hh
        obtain rfl : a = x := Option.some.inj hh
        have nd := h.nd
        rw [q] at nd
        rw [erase_head nd]; rfl
  | longest =>
    obtain ⟨b1, b2, b3, b4, b5⟩ := base s.row (.refl _)
    obtain ⟨p1, p2⟩ := h.lru rfl
    have e1 : (putOutF fs).row = fs.row.drop 1 := by simp [putOutF, hfr, Rule.isClock, Rule.isStr]
    have hnd : fs.row.Nodup := p1.symm.nodup_iff.mp h.nd
    obtain ⟨y, r, hyr⟩ : ∃ y r, fs.row = y :: r := by
      cases q : fs.row with
      | nil => rw [q] at p1; have := p1.symm.subset hxm; cases this
      | cons y r => exact ⟨y, r, rfl⟩
    have hyx : y = x := by
      have hy : y ∈ inside s.row := p1.subset (by rw [hyr]; simp)
      have h1 := hx.2 y hy
      rw [hlk x hxm, hlk y hy] at h1
      have hxf := p1.symm.subset hxm
      rw [hyr] at hxf p2
      rcases List.mem_cons.mp hxf with e | hxr
      · exact e.symm
      · have := (List.pairwise_cons.mp p2).1 x hxr
        omega
    subst hyx
    refine ⟨⟨n1, by rw [q6]; exact h.fm, by rw [q7, h.fl], by rw [q4]; exact h.fp, by rw [q5]; exact h.fr, b4, ?_, lks' _ b5, h.ll, (fun e => nomatch e), fun _ => ⟨?_, ?_⟩, (fun e => nomatch e), (fun e => nomatch e)⟩, b2, b3⟩
    · show ((others s.row y).length : Int) ≤ n
      omega
    · show ((putOutF fs).row).Perm (inside (others s.row y))
      rw [e1, b1, ← erase_filter h.nd, hyr]
      have := p1.erase y
      rw [hyr] at this
      simpa using this
    · show ((putOutF fs).row).Pairwise _
      rw [e1]
      exact p2.sublist (List.drop_sublist _ _)
  | told cs =>
    obtain ⟨b1, b2, b3, b4, b5⟩ := base s.row (.refl _)
    have e1 : (putOutF fs).row = fs.row.erase (chosenF fs) := by simp [putOutF, hfr, Rule.isClock, Rule.isStr]
    have e2 : chosenF fs = x := by
      have hx' : x = ((sortI (inside s.row))[(((cs[s.gone]?).getD 0) % n).toNat]?).getD 0 := hx
      unfold chosenF choiceF
      rw [hfr, h.rows rfl, h.fp, h.fl, hx']
    refine ⟨⟨n1, by rw [q6]; exact h.fm, by rw [q7, h.fl], by rw [q4]; exact h.fp, by rw [q5]; exact h.fr, b4, ?_, lks' _ b5, h.ll, fun _ => ?_, (fun e => nomatch e), (fun e => nomatch e), (fun e => nomatch e)⟩, b2, b3⟩
    · show ((others s.row x).length : Int) ≤ n
      omega
    · show (putOutF fs).row = inside (others s.row x)
      rw [e1, e2, h.rows rfl, b1, erase_filter h.nd]
  | clock =>
    have hne : s.row ≠ [] := fun z => by rw [z] at hxm; cases hxm
    obtain ⟨rest, mk', c1, c2, c3, c4, c5⟩ := clock_turn (mk := fs.marked) hne h.nd (h.mkd rfl) (h.mks rfl) hx
    have hperm : (inside (turnedR s.row x)).Perm (inside s.row) := by
      have := turnC_perm fs.marked.length (inside s.row) fs.marked
      rw [c1] at this
      exact this
    obtain ⟨b1, b2, b3, b4, b5⟩ := base (turnedR s.row x) hperm
    have e1 : (putOutF fs).row = (inside (turnedR s.row x)).drop 1 ∧ (putOutF fs).marked = mk' := by
      have e0 : turnC fs.marked.length fs.row fs.marked = (inside (turnedR s.row x), mk') := by rw [h.rows rfl]; exact c1
      constructor
      · simp [putOutF, hfr, Rule.isClock, Rule.isStr, e0]
      · simp [putOutF, hfr, Rule.isClock, Rule.isStr, e0]
    have nd' := hperm.symm.nodup_iff.mp h.nd
    refine ⟨⟨n1, by rw [q6]; exact h.fm, by rw [q7, h.fl], by rw [q4]; exact h.fp, by rw [q5]; exact h.fr, b4, ?_, lks' _ b5, h.ll, fun _ => ?_, (fun e => nomatch e), fun _ p hp => ?_, fun _ k hk => ?_⟩, b2, b3⟩
    · show ((others (turnedR s.row x) x).length : Int) ≤ n
      have b2' : (others (turnedR s.row x) x).length + 1 = s.row.length := b2
      omega
    · show (putOutF fs).row = inside (others (turnedR s.row x) x)
      rw [e1.1, b1, c2]
      rw [c2] at nd'
      rw [erase_head nd']; rfl
    · have hp' : p ∈ others (turnedR s.row x) x := hp
      rw [e1.2]
      exact c3 p (List.mem_filter.mp hp').1
    · have hk' : (getA (putOutF fs).marked k).isSome = true := hk
      rw [e1.2] at hk'
      show k ∈ inside (others (turnedR s.row x) x)
      rw [b1]
      refine List.mem_filter.mpr ⟨hperm.symm.subset (c5 k hk'), ?_⟩
      have : k ≠ x := fun z => by rw [z, c4] at hk'; cases hk'
      simp [this]
end Lw
namespace S
open PySem PySem.Spec PyProof.Rows L2 DL
theorem iEnumL {K : PySem.W.Frag} {ta : TA} {σ : L2.St} {H : Hp} {R : It → Hp → Prop} (q : ta σ H fun vs H1 => ∃ a xs, vs = [.ref a] ∧ SqL K H1 a xs ∧ R (Ite K a) H1) : L2.iEnum K ta σ H R := q
end S
namespace Lw
open PySem PySem.Spec PyProof.Rows L2 DL Bo Fr
theorem lc_keepR {K : PySem.W.Frag} {F H : Hp} {v : V} {row : LR} {c : Int × Bool → Bool} {i j : Nat} {tt : TT} {vs : List Nat} {σ : L2.St} {Q : VK} (sm : Same F H) (hv : Dp K F v (.list (rowsD row))) (hl : row.length ≤ 1000)
    (hj : σ[j]? = some (some v)) (hi : ∀ x : V, ((wipe σ vs).set i (some x))[i]? = some (some x)) (hw : ∀ x : V, wipe ((wipe σ vs).set i (some x)) vs = wipe σ vs)
    (ht : ∀ (x : V) (p : Int × Bool) (F' H' : Hp) (QT : Bool → Hp → Prop), Dp K F' x (ownD p) → Same F' H' → QT (c p) H' → tt ((wipe σ vs).set i (some x)) H' QT)
    (k : ∀ D ys F' H', Gr [] F H F' H' → H D = none → F' D = some (.lst ys) → DpAll K F' ys (rowsD (row.filter c)) → Q (.ref D) H') :
    tLc (iSeq K (tVar j)) (gName i) tt (tVar i) vs σ H Q := by
  obtain ⟨va, xs, rfl, hva, hds⟩ := dp_list hv
  refine S.lcS (S.iSeqL (S.var hj ?_))
  refine lc_data (K := K) (keep := fun d => c (ownB d, ownM d)) (f := id) sm (same_lst sm hva) hds (by unfold rowsD; rw [List.length_map]; omega) ?_ ?_
  · intro x d F' H' A B hd hx g kF kT
    obtain ⟨p, _, rfl⟩ := own_of hd
    refine S.name ⟨hw x, ht x p F' H' _ hx g.sub ?_⟩
    have e : c (ownB (ownD p), ownM (ownD p)) = c p := rfl
    rw [e] at kF kT
    refine S.ite (fun e => ?_) (fun e => ?_)
    · exact S.var (hi x) (kT e x F' H' (Gr.refl g.sub) hx)
    · exact kF e F' H' (Gr.refl g.sub)
  · intro D ys F' H' g hD fD hDD hys
    have e : ((rowsD row).filter fun d => c (ownB d, ownM d)).map id = rowsD (row.filter c) := by
      rw [List.map_id, rowsD_filter]; rfl
    rw [e] at hys
    exact k D ys _ H' (g.frz hD fD hDD) hD upd_same (dp_same_upd fD hys)
def spLawMisses (K : PySem.W.Frag) : Sp := fun vs H Q _ => ∃ (F : Hp) (v u : V) (es : List Ev) (n : Int) (R : Rule), vs = [v, .int n, u] ∧ Same F H ∧ Dp K F v (.list (es.map evD)) ∧ 1 ≤ n ∧ n ≤ 16 ∧ Dp K F u (ruleD R) ∧ es.length ≤ 200000 ∧
  ∀ w F' H', Gr [] F H F' H' → Dp K F' w (.tuple [.int (runF (fst0 n R) es).missed, .tuple ((sortI (runF (fst0 n R) es).row).map .int)]) → Q w H'
structure MCore (K : PySem.W.Frag) (F H : Hp) (lka : Addr) (n : Int) (R : Rule) (i : Nat) (s : LS) (fs : FSt) (F' H' : Hp) (ra : Addr) (rxs : List V) : Prop where
  g : Gr [] F H F' H'
  fr : F' ra = some (.lst rxs)
  dx : DpAll K F' rxs (rowsD s.row)
  fk : F' lka = none
  hk : H' lka = some (.dK (kM V.int s.looked))
  rel : Rel n R i s fs
theorem MCore.dp {K : PySem.W.Frag} {F H : Hp} {lka : Addr} {n : Int} {R : Rule} {i : Nat} {s : LS} {fs : FSt} {F' H' : Hp} {ra : Addr} {rxs : List V} (c : MCore K F H lka n R i s fs F' H' ra rxs) : Dp K F' (.ref ra) (.list (rowsD s.row)) := .lst (.inl (.inl c.fr)) c.dx
def MInv (K : PySem.W.Frag) (F H : Hp) (v u : V) (lka : Addr) (n : Int) (R : Rule) (es : List Ev) (i : Nat) (σ : L2.St) (H' : Hp) : Prop := ∃ F' s ra rxs o7 o8 o9 o10 o11 o12, MCore K F H lka n R i s (runF (fst0 n R) (es.take i)) F' H' ra rxs ∧
  σ = [some v, some (V.int n), some u, some (V.ref ra), some (V.ref lka), some (V.int s.missed), some (V.int (s.gone : Int)), o7, o8, o9, o10, o11, o12]
end Lw
namespace Lw
open PySem PySem.Spec PyProof.Rows L2 DL Bo Fr
/-- ahead of the new body's coming into the row -/
def MMid (K : PySem.W.Frag) (F H : Hp) (v u : V) (lka : Addr) (n : Int) (R : Rule) (s : LS) (fs : FSt) (b : Int) (w : Str) (yv : V) (i : Nat) (σ : L2.St) (H' : Hp) : Prop := ∃ F8 row2 ra2 rxs2 gone2 fs2 o11 o12, Gr [] F H F8 H' ∧ F8 ra2 = some (.lst rxs2) ∧ DpAll K F8 rxs2 (rowsD row2) ∧ F8 lka = none ∧
  H' lka = some (.dK (kM V.int (putA s.looked b i))) ∧ Rel n R i { s with row := row2, gone := gone2 } fs2 ∧ comeF fs (.look b) = { fs2 with row := fs2.row ++ [b], missed := fs2.missed + 1 } ∧ b ∉ inside row2 ∧ (row2.length : Int) < n ∧
  σ = [some v, some (V.int n), some u, some (V.ref ra2), some (V.ref lka), some (V.int (s.missed + 1)), some (V.int (gone2 : Int)), some (V.int (i : Nat)), some yv, some (V.str w), some (V.int b), o11, o12]
/-- ahead of the filter of the one put out -/
def MOut (K : PySem.W.Frag) (F H : Hp) (v u : V) (lka : Addr) (n : Int) (R : Rule) (s : LS) (b x : Int) (w : Str) (yv : V) (i : Nat) (σ : L2.St) (H' : Hp) : Prop := ∃ F9 rw o12, Gr [] F H F9 H' ∧ Dp K F9 rw (.list (rowsD (if R.isClock then turnedR s.row x else s.row))) ∧ F9 lka = none ∧
  H' lka = some (.dK (kM V.int (putA s.looked b i))) ∧
  σ = [some v, some (V.int n), some u, some rw, some (V.ref lka), some (V.int (s.missed + 1)), some (V.int (s.gone : Int)), some (V.int (i : Nat)), some yv, some (V.str w), some (V.int b), some (V.int x), o12]
theorem come_new {n : Int} {R : Rule} {i : Nat} {s : LS} {fs : FSt} (h : Rel n R i s fs) {b : Int} (hb : b ∉ inside s.row) :
    comeF fs (.look b) = { (if (s.row.length : Int) = n then putOutF fs else fs) with row := (if (s.row.length : Int) = n then putOutF fs else fs).row ++ [b], missed := (if (s.row.length : Int) = n then putOutF fs else fs).missed + 1 } := by
  show (if b ∈ fs.row then lookF fs b else _) = _
  rw [if_neg fun z => hb (h.perm.subset z)]
  have e : ((fs.row.length : Int) = fs.places) = ((s.row.length : Int) = n) := by rw [h.rlen, h.fp]
  simp only [e]
theorem come_seen {n : Int} {R : Rule} {i : Nat} {s : LS} {fs : FSt} (h : Rel n R i s fs) {b : Int} (hb : b ∈ inside s.row) : comeF fs (.look b) = lookF fs b := by
  show (if b ∈ fs.row then lookF fs b else _) = _
  rw [if_pos (h.perm.symm.subset hb)]
theorem turned_len (row : LR) (x : Int) : (turnedR row x).length = row.length := by
  unfold turnedR
  by_cases e : (row.filter (·.2)).length = row.length
  · rw [if_pos e, List.length_map]
  · rw [if_neg e, List.length_append, List.length_map, List.length_drop, List.length_take]; omega
end Lw
namespace Lw
open PySem PySem.Spec PyProof.Rows L2 DL Bo Fr
def spRules (K : PySem.W.Frag) : Sp := fun vs H Q _ => ∃ (F : Hp) (q : Addr) (m : Nat), vs = [.ref q] ∧ Same F H ∧ F q = none ∧ DkAt H q m ∧ m ≤ 10000 ∧
  ∀ cs v F' H', Gr [q] F H F' H' → DkAt H' q (m + 40) → cs.length ≤ 30 → (∀ c ∈ cs, 0 ≤ c ∧ c ≤ 15) → Dp K F' v (.list ([Rule.first, .longest, .clock, .told cs].map ruleD)) → Q v H'
end Lw
namespace DL
open PySem PySem.Spec PyProof.Rows L2
structure KCal (P : Program) (w : World) (K : PySem.W.Frag) (mg : Str → Option Value) (base : Heap) (CX : CXT) (k : Nat) (x : Str) (ps ks : List Str) (g : List Value → List Value → List Value) (gV : List V → List V → List V) (sp : Sp) : Prop where
  ex : ∃ (f : Addr) (fd : FuncData), FnOk P w K mg base CX k f fd ps sp ∧ mg x = some (.ref f) ∧ PySem.W.keepIn K (.ref f) = true ∧ KBinds K fd ps ks g gV
theorem pe_kcal0 {X : Cx} {k : Nat} {x : Str} {ps ks : List Str} {g : List Value → List Value → List Value} {gV : List V → List V → List V} {sp : Sp} {CX : CXT} {E : XK} {kws : List Keyword} {tk : TA} {p pos : Pos} (c : KCal X.prog X.w X.K X.mg X.base CX k x ps ks g gV sp) (hr : Room k X.A) (hx : Passes CX X E)
    (hkw : PK X kws tk) (hg : Gl X x := by rfl) (hall : (backToKw pos (keywordEach kws X.env)).all (·.1.isSome) = true := by rfl) (hks : (backToKw pos (keywordEach kws X.env)).filterMap (·.1) = ks := by rfl)
    (hdb : (x == ("__debug__" : Str)) = false := by decide)
    (hpl : ((backTo pos (starEach [] X.env)).any (·.1) || (backToKw pos (keywordEach kws X.env)).any (·.1.isNone)) = false := by rfl) :
    PE X (.Call (.Name x p) [] kws pos) (tCallK sp gV E tNil tk) := by
  obtain ⟨f, fd, F, m, kp, b⟩ := c.ex
  refine ⟨fun pins s σ H Q I h => ?_⟩
  refine wpAny_Call_Name_kw (ld_glob I hg m ?_ hdb)
  refine PySem.W.callWith_KW0 (h₀ := X.base) I.ok.mod.kin kp hall (thn (hkw.run pos pins s σ H _ I h) fun ws s2 ⟨zs, H2, I2, rz, q2⟩ => ⟨I2.kIn, ?_⟩) hpl
  rw [hks]
  exact run_fnk F hr b hx I2 .nil rz q2
/-- three keywords, from the last to the first -/
def rev3 {α : Type} : List α → List α → List α
  | [], [a, b, c] => [c, b, a]
  | _, _ => []
theorem rev3_rel {vs : List V} {us : List Value} {zs : List V} {ws : List Value} (h : Vals vs us) (h2 : Vals zs ws) : Vals (rev3 vs zs) (rev3 us ws) := by
  cases h with
  | cons _ _ => exact .nil
  | nil =>
    cases h2 with
    | nil => exact .nil
    | cons r1 t =>
      cases t with
      | nil => exact .nil
      | cons r2 t =>
        cases t with
        | nil => exact .nil
        | cons r3 t =>
          cases t with
          | nil => exact .cons r3 (.cons r2 (.cons r1 .nil))
          | cons _ _ => exact .nil
end DL
namespace Lw
open PySem PySem.Spec PyProof.Rows L2 DL Bo Fr
def spLawK03 (K : PySem.W.Frag) : Sp := fun vs H Q _ => ∃ (a : Addr) (ns : List Int), vs = [.ref a] ∧ SqL K H a (ns.map V.int) ∧ ns.length ≤ 63 ∧ ∀ H', Q (.bl true) H'
theorem sql_same {K : PySem.W.Frag} {F H F' H' : Hp} (g : Gr [] F H F' H') {a : Addr} {xs : List V} (h : SqL K H a xs) : SqL K H' a xs := sql_gr g (by simp) h
theorem same_0 {P : Program} {w : World} {K : PySem.W.Frag} {mg : Str → Option Value} {base : Heap} {x : Str} {ps : List Str} {f : Addr} {fd : FuncData} (hm : mg x = some (.ref f)) (hk : PySem.W.keepIn K (.ref f) = true) (hb : Binds K fd ps []) : Cal P w K mg base CX0 0 x ps (spSame K 0) :=
  ⟨f, fd, ⟨fun vs H Q E h => by obtain ⟨F, v, u, d, _, _, _, _, h0, _⟩ := h; omega, fun A outer s H args us vs Q E _ _ _ _ h => by obtain ⟨F, v, u, d, _, _, _, _, h0, _⟩ := h; omega⟩, hm, hk, hb⟩
end Lw
namespace S
open PySem PySem.Spec PyProof.Rows L2 DL
theorem callK {sp : Sp} {gV : List V → List V → List V} {E : XK} {tr tk : TA} {σ : L2.St} {H : Hp} {Q : VK} (q : tr σ H fun vs H1 => tk σ H1 fun zs H2 => sp (gV vs zs) H2 Q E) : tCallK sp gV E tr tk σ H Q := q
end S
namespace Lw
open PySem PySem.Spec PyProof.Rows L2 DL Bo Fr
/-- what both tell -/
def toldD (n : Int) (R : Rule) (es : List Ev) : PyData := .tuple [.int (runF (fst0 n R) es).missed, .tuple ((sortI (runF (fst0 n R) es).row).map .int)]
theorem told_len {n : Int} (h1 : 1 ≤ n) (h2 : n ≤ 16) (R : Rule) (es : List Ev) : (sortI (runF (fst0 n R) es).row).length ≤ 16 := by
  have h := runF_ok h1 h2 R es es.length (Nat.le_refl _)
  rw [List.take_length] at h
  have a := h.rl
  have b := h.p2
  rw [(sortI_perm _).length_eq]
  omega
theorem told_depth (n : Int) (R : Rule) (es : List Ev) : (toldD n R es).depth < 3 := by
  simp [toldD, PyData.depth, PyData.depthAll, PySem.W.ke_depthAll]
theorem told_wid {n : Int} (h1 : 1 ≤ n) (h2 : n ≤ 16) (R : Rule) (es : List Ev) : wid (toldD n R es) = true := by
  have := told_len h1 h2 R es
  simp [toldD, wid, widAll, wid_ints]
  omega
theorem rules_ok {cs : List Int} (h1 : cs.length ≤ 30) (h2 : ∀ c ∈ cs, 0 ≤ c ∧ c ≤ 15) {d : PyData} (hd : d ∈ [Rule.first, .longest, .clock, .told cs].map ruleD) : ∃ R, d = ruleD R ∧ ruleOk R := by
  simp only [List.map_cons, List.map_nil, List.mem_cons, List.not_mem_nil, or_false] at hd
  rcases hd with rfl | rfl | rfl | rfl
  · exact ⟨_, rfl, trivial⟩
  · exact ⟨_, rfl, trivial⟩
  · exact ⟨_, rfl, trivial⟩
  · exact ⟨_, rfl, by omega, h2⟩
theorem ev_len {ds : List Deed} (ok : okAll st0 ds = true) (hl : ds.length ≤ 100) : (runAll ([], st0) ds).1.length ≤ 200000 := by
  have h := (run_ok ok ds.length (Nat.le_refl _)).2
  rw [List.take_length] at h
  have : ds.length * (ds.length + 2) ≤ 100 * 102 := Nat.mul_le_mul hl (by omega)
  omega
theorem lim3 (L : Int) : 1 ≤ (if (if L < 3 then L else 3) > 1 then (if L < 3 then L else 3) else (1 : Int)) ∧ (if (if L < 3 then L else 3) > 1 then (if L < 3 then L else 3) else (1 : Int)) ≤ 3 := by
  by_cases h1 : L < 3
  · rw [if_pos h1]
    by_cases h2 : L > 1
    · rw [if_pos h2]; omega
    · rw [if_neg h2]; omega
  · rw [if_neg h1, if_pos (by decide)]; omega
end Lw

/-! rules that the layer lacks: sorted(d.items()) of a dict of ints by ints; a comprehension while any number of things are locked -/
namespace DL
open PySem PySem.Spec PyProof.Rows L2
/-- sorted of an items view, keys and values ints: a new list of new pairs, sorted -/
def rSortedIV : List V → Hp → VK → Prop := fun xs H Q => ∃ (v d : Addr) (sh : List (Int × Int)), xs = [.ref v] ∧ H v = some (.ext fun h => h.IsItemsView v d) ∧ H d = some (.dK (sh.map fun p => ((Sum.inl p.1 : Key), V.int p.2))) ∧
    ∀ (H' : Hp) (p : Addr) (ys : List V) (k : V → Int × Int), Same H H' → H p = none → H' p = some (.lst ys) → (∀ y ∈ ys, ∃ t, y = V.ref t ∧ H t = none ∧ t ≠ p ∧ H' t = some (.tup [.int (k y).1, .int (k y).2])) →
      SrtO.Srtd (ltP k) ys → (ys.map k).Perm sh → ys.Nodup → Q (.ref p) H'
def tIView (te : TE) : TE := fun σ H Q => te σ H fun x H1 => ∃ (d : Addr) (kvs : List (Key × V)), x = .ref d ∧ H1 d = some (.dK kvs) ∧ ∀ v, H1 v = none → Q (.ref v) (upd H1 v (.ext fun h => h.IsItemsView v d))
def tSortedItems (te : TE) : TE := tCB rSortedIV (tCons (tIView te) tNil)
theorem pair_of {X : Cx} {pins : List (Addr × Obj)} {σ : L2.St} {H : Hp} {s : Shared} {t : Addr} {i j : Int} (I : Inv X pins σ H s) (h : H t = some (.tup [.int i, .int j])) : Srt.IsPair s.heap (.ref t) i j := by
  obtain ⟨_, its2, r2, o, ho, hc, n, hd⟩ := I.hok _ _ h
  obtain ⟨u1, u2, rfl, ri, rj⟩ := vals2 r2
  obtain ⟨t1, rfl⟩ := ri
  obtain ⟨t2, rfl⟩ := rj
  exact ⟨t, o, t1, t2, n, rfl, ho, hc, hd⟩
theorem paired_ix' {kvs : List (Key × V)} {vs : List (Key × Value)} (h : KV kvs vs) : ∀ {j : Nat} {k : Key} {x : Value}, vs[j]? = some (k, x) → ∃ q, kvs[j]? = some q ∧ q.1 = k ∧ RelV q.2 x := by
  induction h with
  | nil => intro j k x e; cases e
  | cons r t ih =>
    intro j k x e
    cases j with
    | zero =>
      cases e
      exact ⟨_, rfl, r.1, r.2⟩
    | succ j => exact ih e
def unV : V → Value
  | .ref a => .ref a
  | _ => .none
theorem pe_sortedItems {X : Cx} {e : Expr} {te : TE} {p apos cpos pos : Pos} (hc : X.calm = true) (he : PE X e te) (hg : Gl X "sorted") (hm : X.mg "sorted" = none) (hbase : attributeBase e "items" X.env (eval e X.env) = eval e X.env := by rfl) (hline : (apos.endLine == cpos.line) = true := by rfl)
    (hs : starEach [.Call (.Attribute e "items" apos) [] [] cpos] X.env = (false, eval (.Call (.Attribute e "items" apos) [] [] cpos) X.env) :: starEach [] X.env := by rfl) (hpl : (backTo pos (starEach [] X.env)).any (·.1) = false := by rfl) :
    PE X (.Call (.Name "sorted" p) [.Call (.Attribute e "items" apos) [] [] cpos] [] pos) (tSortedItems te) := by
  have hview : PE X (.Call (.Attribute e "items" apos) [] [] cpos) (tIView te) := by
    refine ⟨fun pins s σ H Q I h => ?_⟩
    refine wpAny_Call_method (T := "dict") (id := "dict.items") hbase rfl hline F.plainAttrs_dict F.slot_dict_items F.type_dict_items (thn (he.run pins s σ H _ I h) fun u s1 ⟨x, H1, I1, rx, d, kvs, ex, hd, q⟩ => ?_)
    subst ex
    obtain rfl : u = Value.ref d := rx
    obtain ⟨hz, hs0, vs, kv, hdo⟩ := I1.hok d _ hd
    refine ⟨hdo.typeIs, hdo.mapOf.noDict, ?_⟩
    have hview : (s1.heap.push { cls := .type "dict_items", data := .fields #[.ref d] }).IsItemsView s1.heap.objs.size d := ⟨_, Heap.get?_push_size _ rfl, rfl, rfl⟩
    have I2 : Inv X pins σ (upd H1 s1.heap.objs.size (.ext fun h => h.IsItemsView s1.heap.objs.size d)) { s1 with heap := s1.heap.push { cls := .type "dict_items", data := .fields #[.ref d] } } :=
      I1.laid (t' := s1.toks) (fun b ob q => Heap.get?_push_of_some _ q) (Nat.le_refl _) ⟨hview, ⟨_, Heap.get?_push_size _ rfl⟩, fun h1 h2 a k => by
        obtain ⟨o, ho, r⟩ := a
        exact ⟨o, k o ho, r⟩⟩
    show wpAny _ _ (callWith cpos (.builtin "dict.items") [.ref d] [] []) _ X.xe s1
    exact method_meetsIn F.slot_dict_items F.entry_dict_items rfl (PySem.evalArgs_none ⟨rfl, hdo.typeIs, F.args_dict_items_1 _, _, meets_dict_items (mixKind X.prog X.w) d hs0, ⟨vs, hdo⟩, .ref s1.heap.objs.size, _, I2, rfl, q _ (I1.hok.fresh (Nat.le_refl _))⟩)
  have hcall : CallR X (.builtin "sorted") rSortedIV := by
    intro pins s σ H xs us Q I r q
    obtain ⟨a, d, sh, ex, hv, hd, q⟩ := q
    subst ex
    obtain ⟨u, eu, rx⟩ := vals1 r
    subst eu
    cases rx
    obtain ⟨hview, _, _⟩ := (show ObjOk X.prog X.w H s.heap a (.ext fun h => h.IsItemsView a d) from I.hok a _ hv)
    obtain ⟨hz, lo, vs, rel, dd⟩ := I.hok d _ hd
    obtain ⟨ep, hat⟩ := dd.dictAt
    have lk : (sh.map fun p => ((Sum.inl p.1 : Key), V.int p.2)).length = vs.length := Paired.length rel
    refine Calls.call_function_entry PyProof.Rows.kind_sorted PyProof.Rows.plain_sorted PyProof.Rows.entry_sorted (PyProof.Rows.args_sorted1 _) ?_
    unfold Builtin.«sorted»
    refine wpAny_bind (m := checkCount "sorted" 1 1 _) (wpAny_pure ?_)
    refine wpAny_bind (PySem.W.kdx_collect (A := X.A.in1) (knd := mixKind X.prog X.w) (kvs := vs) (ep := ep) (I.ok.hd hc) hview hat (by omega) fun h' tk as hk hl hG => ?_)
    have hll : (as.map Value.ref).length ≤ sizeLine := by rw [List.length_map]; omega
    refine wpAny_bind (wpAny_newList ?_ hll)
    have hoL : (h'.push (seqObj "list" (as.map Value.ref).toArray 0)).get? h'.objs.size = some (seqObj "list" (as.map Value.ref).toArray 0) := Heap.get?_push_size _ rfl
    have lA : as.length = sh.length := by rw [hl, ← lk, List.length_map]
    have nd : as.Nodup := List.Pairwise.imp (fun {a b} (h : a < b) => Nat.ne_of_lt h) hG.rise
    have new : ∀ t ∈ as, H t = none := fun t ht => I.hok.fresh (Nat.le_of_lt (hG.above t ht))
    -- the pairs, at the heap and as they are tracked
    have atA : ∀ (j : Nat) (t : Addr), as[j]? = some t → ∃ q key x, sh[j]? = some q ∧ h'.get? t = some { cls := .type "tuple", data := .seq #[key, x] } ∧ RelV (.int q.1) key ∧ RelV (.int q.2) x := fun j t hj => by
      obtain ⟨key, k, x, e1, e2, e3⟩ := hG.pairs j t hj
      obtain ⟨qv, g1, g2, g3⟩ := paired_ix' rel e1
      rw [List.getElem?_map] at g1
      cases z : sh[j]? with
      | none => rw [z] at g1; cases g1
      | some q =>
        rw [z] at g1
        cases g1
        refine ⟨q, key, x, rfl, e3, ?_, g3⟩
        have g2' : (Sum.inl q.1 : Key) = k := g2
        exact relV_key (k := Sum.inl q.1) (by rw [g2']; exact e2)
    let kz : Value → Int × Int := fun u => match u with
      | .ref t => (sh[as.findIdx (· == t)]?).getD (0, 0)
      | _ => (0, 0)
    have kz_at : ∀ (j : Nat) (t : Addr) (q : Int × Int), as[j]? = some t → sh[j]? = some q → kz (.ref t) = q := fun j t q hj hq => by
      show (sh[as.findIdx (· == t)]?).getD (0, 0) = q
      have hjl : j < as.length := (List.getElem?_eq_some_iff.mp hj).1
      have e : as.findIdx (· == t) = j := by
        have hm : t ∈ as := List.mem_of_getElem? hj
        have hlt : as.findIdx (· == t) < as.length := List.findIdx_lt_length_of_exists ⟨t, hm, by simp⟩
        have he : as[as.findIdx (· == t)] = t := by
          have := List.findIdx_getElem (w := hlt) (p := (· == t))
          simpa using this
        exact (List.getElem?_inj hlt nd).mp (by rw [hj, List.getElem?_eq_getElem hlt, he])
      rw [e, hq]
      rfl
    have prs : ∀ v ∈ as.map Value.ref, Srt.IsPair h' v (kz v).1 (kz v).2 := fun v hv => by
      obtain ⟨t, ht, rfl⟩ := List.mem_map.mp hv
      obtain ⟨j, hj⟩ := List.mem_iff_getElem?.mp ht
      obtain ⟨q, key, x, e1, e2, ⟨t1, e3⟩, ⟨t2, e4⟩⟩ := atA j t hj
      rw [kz_at j t q hj e1]
      subst e3 e4
      exact ⟨t, _, t1, t2, 0, rfl, e2, rfl, rfl⟩
    show wpAny _ _ _ _ _ { s with heap := h'.push (seqObj "list" (as.map Value.ref).toArray 0), toks := tk }
    refine wpAny_bind (wpAny_holding (wpAny_call_entry PyProof.Rows.slot_list_sort ⟨_, hoL, rfl⟩ PyProof.Rows.entry_list_sort
      (SrtO.list_sort_ord (s := { s with heap := h'.push (seqObj "list" (as.map Value.ref).toArray 0), toks := tk }) (SrtO.swo_lex kz) hoL hll
        (fun h2 => SrtO.pairs_sortableO (by omega) (fun v hv => (prs v hv).keeps fun b o e _ => Heap.get?_push_of_some _ e) fun o e c => by
          rw [hoL] at e
          cases e
          exact absurd (Value.type.inj c) (by decide)) fun out h1 h2 => ⟨_, rfl, ?_⟩) (PyProof.Rows.args_list_sort _)))
    obtain ⟨e', he'⟩ := PyProof.Rows.sortedHeap_at (vs := as.map Value.ref) (out := out.toArray) hoL
    have om : ∀ u ∈ out, ∃ t ∈ as, u = Value.ref t := fun u hu => by
      obtain ⟨t, ht, e⟩ := List.mem_map.mp (h2.perm.mem_iff.mp hu)
      exact ⟨t, ht, e.symm⟩
    have vo : Vals (out.map backV) out := vals_back fun u hu => by
      obtain ⟨t, _, e⟩ := om u hu
      exact ⟨t, e⟩
    have ol : out.length = sh.length := by rw [h2.len, List.length_map, lA]
    -- what is tracked: the tuples, then the list
    let T : List (Addr × HO) := as.map fun t => (t, HO.tup [.int (kz (.ref t)).1, .int (kz (.ref t)).2])
    let H1 : Hp := fun b => if b ∈ as then some (HO.tup [.int (kz (.ref b)).1, .int (kz (.ref b)).2]) else H b
    let H2 : Hp := upd H1 h'.objs.size (.lst (out.map backV))
    have hsz : ∀ t ∈ as, t < h'.objs.size := fun t ht => hG.there ht
    have keepAll : ∀ b o, s.heap.get? b = some o → (PyProof.Rows.sortedHeap (h'.push (seqObj "list" (as.map Value.ref).toArray 0)) h'.objs.size (as.map Value.ref) out.toArray).get? b = some o := fun b o e => by
      have hb : b < h'.objs.size := Heap.lt_size (hk b o e)
      rw [PyProof.Rows.sortedHeap_old (Nat.ne_of_lt hb) (by rw [Heap.size_push]; exact Nat.lt_succ_of_lt hb)]
      exact Heap.get?_push_of_some _ (hk b o e)
    have keepT : ∀ b o, h'.get? b = some o → (PyProof.Rows.sortedHeap (h'.push (seqObj "list" (as.map Value.ref).toArray 0)) h'.objs.size (as.map Value.ref) out.toArray).get? b = some o := fun b o e => by
      have hb : b < h'.objs.size := Heap.lt_size e
      rw [PyProof.Rows.sortedHeap_old (Nat.ne_of_lt hb) (by rw [Heap.size_push]; exact Nat.lt_succ_of_lt hb)]
      exact Heap.get?_push_of_some _ e
    have low : ∀ b o, s.heap.get? b = some o → b ∉ as ∧ b ≠ h'.objs.size := fun b o e => ⟨fun z => absurd (Heap.lt_size e) (Nat.not_lt.mpr (Nat.le_of_lt (hG.above b z))), Nat.ne_of_lt (Heap.lt_size (hk b o e))⟩
    have nL : H h'.objs.size = none := (I.hok.kept hk).fresh (Nat.le_refl _)
    have off : ∀ b, b ∉ as → b ≠ h'.objs.size → H2 b = H b := fun b z1 z2 => by
      show upd H1 _ _ b = _
      rw [upd_ne z2]
      exact if_neg z1
    have inA : ∀ b, b ∈ as → H2 b = some (.tup [.int (kz (.ref b)).1, .int (kz (.ref b)).2]) := fun b z => by
      show upd H1 _ _ b = _
      rw [upd_ne (Nat.ne_of_lt (hsz b z))]
      exact if_pos z
    have kp : ∀ b u, H b = some u → H2 b = some u := fun b u e => by
      rw [off b (fun z => by rw [new b z] at e; cases e) (fun z => by rw [z, nL] at e; cases e)]
      exact e
    have J : Inv X pins σ H2 { s with heap := PyProof.Rows.sortedHeap (h'.push (seqObj "list" (as.map Value.ref).toArray 0)) h'.objs.size (as.map Value.ref) out.toArray, toks := tk } := by
      refine I.call' (ch := []) rfl ⟨fun b o q _ _ _ => keepAll b o q, fun b o q _ _ _ => ⟨o.slots, keepAll b o q⟩, fun b o q n _ => ?_, fun b o q _ => ⟨o, keepAll b o q⟩, fun b xs q => kp b _ q, fun b o u q => kp b _ q, fun b ps q => ⟨#[], by rw [kp b _ q]; simp⟩⟩ (fun b u q => ?_) I.bare fun b z => by simp at z
      · obtain ⟨z1, z2⟩ := low b o q
        rw [off b z1 z2]
        exact n
      · by_cases hb : b ∈ as
        · rw [inA b hb] at q
          cases q
          obtain ⟨j, hj⟩ := List.mem_iff_getElem?.mp hb
          obtain ⟨q, key, x, e1, e2, e3, e4⟩ := atA j b hj
          rw [kz_at j b q hj e1]
          exact ⟨by show 2 ≤ sizeLine; decide, [key, x], .cons e3 (.cons e4 .nil), ⟨_, keepT _ _ e2, rfl, _, rfl⟩⟩
        · by_cases hb2 : b = h'.objs.size
          · rw [hb2] at q ⊢
            rw [show H2 h'.objs.size = _ from upd_same] at q
            cases q
            exact ⟨by rw [List.length_map, ol, ← lA, hl]; omega, out, e', vo, he'⟩
          · rw [off b hb hb2] at q
            exact (I.hok b u q).stay (fun d v _ y => keepAll d v y) (fun d y => kp d _ y) fun d xs y => kp d _ y
    have kb : ∀ u ∈ out, kz u = kz (unV (backV u)) := fun u hu => by
      obtain ⟨t, _, e⟩ := om u hu
      rw [e] <;> rfl
    refine wpAny_pure ⟨_, rfl, .ref h'.objs.size, H2, J, rfl, q H2 _ (out.map backV) (fun y => kz (unV y)) kp nL upd_same (fun y hy => ?_) ?_ ?_ ?_⟩
    · obtain ⟨u, hu, rfl⟩ := List.mem_map.mp hy
      obtain ⟨t, ht, rfl⟩ := om u hu
      exact ⟨t, rfl, new t ht, Nat.ne_of_lt (hsz t ht), inA t ht⟩
    · refine SrtO.srtd_map (f := backV) (lt := ltP fun y => kz (unV y)) ?_
      refine List.Pairwise.imp_of_mem (fun {u v} hu hv z => ?_) h1
      show SrtO.lexB (kz (unV (backV v))) (kz (unV (backV u))) = false
      rw [← kb u hu, ← kb v hv]
      exact z
    · rw [List.map_map]
      have e1 : out.map ((fun y => kz (unV y)) ∘ backV) = out.map kz := List.map_congr_left fun u hu => (kb u hu).symm
      rw [e1]
      refine (h2.perm.map kz).trans ?_
      rw [List.map_map]
      have e2 : as.map (kz ∘ Value.ref) = sh := by
        apply List.ext_getElem?
        intro j
        rw [List.getElem?_map]
        cases z : as[j]? with
        | none =>
          have : sh[j]? = none := List.getElem?_eq_none (by rw [← lA]; exact List.getElem?_eq_none_iff.mp z)
          rw [this]
          rfl
        | some t =>
          obtain ⟨q, _, _, e1, _⟩ := atA j t z
          rw [e1]
          show some (kz (.ref t)) = some q
          rw [kz_at j t q z e1]
      rw [e2]
    · have nd2 : out.Nodup := h2.perm.nodup_iff.mpr (List.pairwise_map.mpr (nd.imp fun h e => h (Value.ref.inj e)))
      refine List.pairwise_map.mpr (nd2.imp_of_mem fun {u v} hu hv z e => z ?_)
      obtain ⟨t, _, rfl⟩ := om u hu
      obtain ⟨t', _, rfl⟩ := om v hv
      rw [V.ref.inj e]
  exact pe_callB (p := p) hcall hg hm PyProof.Rows.boot_sorted (pa_cons hview pa_nil hs) (he := hs) (hpl := hpl)
/-- its end, the dict known -/
theorem sorted_items {d : Addr} {sh : List (Int × Int)} {H : Hp} {Q : VK} (hd : H d = some (.dK (sh.map fun p => ((Sum.inl p.1 : Key), V.int p.2))))
    (q : ∀ (H' : Hp) (p : Addr) (ys : List V) (k : V → Int × Int), Same H H' → H p = none → H' p = some (.lst ys) → (∀ y ∈ ys, ∃ t, y = V.ref t ∧ H t = none ∧ t ≠ p ∧ H' t = some (.tup [.int (k y).1, .int (k y).2])) →
      SrtO.Srtd (ltP k) ys → (ys.map k).Perm sh → ys.Nodup → Q (.ref p) H') :
    ∃ (d' : Addr) (kvs : List (Key × V)), V.ref d = .ref d' ∧ H d' = some (.dK kvs) ∧ ∀ v, H v = none → rSortedIV [.ref v] (upd H v (.ext fun h => h.IsItemsView v d')) Q := by
  refine ⟨d, _, rfl, hd, fun v hv => ⟨v, d, sh, rfl, upd_same, ?_, fun H' p ys k sm hp hl hy h1 h2 h3 => ?_⟩⟩
  · rw [upd_ne (ne_of_none hd hv)]; exact hd
  · have nn : ∀ b, upd H v (.ext fun h => h.IsItemsView v d) b = none → H b = none ∧ b ≠ v := fun b e => by
      have h : b ≠ v := fun z => by rw [z, upd_same] at e; cases e
      rw [upd_ne h] at e
      exact ⟨e, h⟩
    refine q H' p ys k (fun b o e => sm b o ?_) (nn p hp).1 hl (fun y hm => ?_) h1 h2 h3
    · rw [upd_ne (ne_of_none e hv)]
      exact e
    · obtain ⟨t, e1, e2, e3, e4⟩ := hy y hm
      exact ⟨t, e1, (nn t e2).1, e3, e4⟩
/-- sorted(d), d's keys ints, any number of them -/
def rSortedKeys : List V → Hp → VK → Prop := fun xs H Q => ∃ (d : Addr) (m : List (Key × V)) (ns : List Int), xs = [.ref d] ∧ H d = some (.dK m) ∧ m.map (·.1) = ns.map Sum.inl ∧
  ∀ (ys : List Int) (p : Addr), ys.Perm ns → ys.Pairwise (· ≤ ·) → H p = none → Q (.ref p) (upd H p (.lst (ys.map V.int)))
theorem call_sortedKeys {X : Cx} (calm : X.calm = true) : CallR X (.builtin "sorted") rSortedKeys := by
  intro pins st σ H xs us Q J r ⟨d, m, ns, ex, hd, hm, q⟩
  subst ex
  obtain ⟨u, eu, rx⟩ := vals1 r
  subst eu
  cases rx
  obtain ⟨big, lo, vs, rel, dd⟩ := J.hok d _ hd
  obtain ⟨ep, hat⟩ := dd.dictAt
  have hv : vs.map (·.1) = ns.map Sum.inl := rel.keys.symm.trans hm
  have hl : vs.length = ns.length := by simpa using congrArg List.length hv
  have hm2 : m.length = ns.length := by simpa using congrArg List.length hm
  refine Calls.call_function_entry PyProof.Rows.kind_sorted PyProof.Rows.plain_sorted PyProof.Rows.entry_sorted (PyProof.Rows.args_sorted1 _) ?_
  unfold Builtin.«sorted»
  refine wpAny_bind (m := checkCount "sorted" 1 1 _) (wpAny_pure ?_)
  refine wpAny_bind (PySem.W.kdu_collect (A := X.A.in1) (PySem.W.kdl_dict (knd := mixKind X.prog X.w) (kvs := vs) (ep := ep) lo) (J.ok.hd calm) hat (by omega) fun h2 tk acc kp hacc => ?_)
  have al : acc.toList.length = ns.length := by rw [Array.length_toList, hacc.1, hl]
  have areI : IntsAre acc.toList ns := ints_each al fun j v e => by
    obtain ⟨k, x, e1, e2⟩ := hacc.2 j v (by rw [← Array.getElem?_toList]; exact e)
    have e3 : (ns.map (Sum.inl : Int → Key))[j]? = some k := by rw [← hv, List.getElem?_map, e1]; rfl
    rw [List.getElem?_map] at e3
    cases e4 : ns[j]? with
    | none => rw [e4] at e3; cases e3
    | some y =>
      rw [e4] at e3
      obtain rfl : Sum.inl y = k := Option.some.inj e3
      rcases keyIs_shape (show keyIs (Sum.inl y) v = true from e2) with ⟨i, t, ek, ev⟩ | ⟨z, t, ek, ev⟩
      · cases ek
        exact ⟨y, t, rfl, ev⟩
      · cases ek
  have J1 : Inv X pins σ H { st with heap := h2, toks := tk } := J.kept kp
  have hll : acc.toList.length ≤ sizeLine := by rw [al]; omega
  refine wpAny_bind (wpAny_newList ?_ hll)
  have new : (h2.push (seqObj "list" acc.toList.toArray 0)).get? h2.objs.size = some (seqObj "list" acc.toList.toArray 0) := Heap.get?_push_size _ rfl
  show wpAny _ _ _ _ _ { st with heap := h2.push (seqObj "list" acc.toList.toArray 0), toks := tk }
  refine wpAny_bind (wpAny_holding (wpAny_call_entry PyProof.Rows.slot_list_sort ⟨_, new, rfl⟩ PyProof.Rows.entry_list_sort
    (SrtO.list_sort_ord (s := { st with heap := h2.push (seqObj "list" acc.toList.toArray 0), toks := tk }) SrtO.swo_int new hll (fun two => SrtO.ints_sortable areI two) fun out o1 o2 => ⟨_, rfl, ?_⟩) (PyProof.Rows.args_list_sort _)))
  obtain ⟨k1, k2, k3⟩ := SrtO.ints_out areI o1 o2
  obtain ⟨e', he'⟩ := PyProof.Rows.sortedHeap_at (vs := acc.toList) (out := out.toArray) new
  have hlen : ((out.map SrtO.iv).map V.int).length ≤ sizeLine := by rw [List.length_map, k2.length_eq]; omega
  refine wpAny_pure ⟨_, rfl, .ref h2.objs.size, upd H h2.objs.size (.lst ((out.map SrtO.iv).map V.int)), J1.laid (t' := tk) (fun b u e => ?_) (Nat.le_refl _)
    (show ObjOk X.prog X.w _ _ _ (.lst ((out.map SrtO.iv).map V.int)) from ⟨hlen, out, e', vals_of_ints k1, he'⟩), rfl, q _ _ k2 k3 (J1.hok.fresh (Nat.le_refl _))⟩
  have hb : b < h2.objs.size := Heap.lt_size e
  rw [PyProof.Rows.sortedHeap_old (Nat.ne_of_lt hb) (by rw [Heap.size_push]; exact Nat.lt_succ_of_lt hb)]
  exact Heap.get?_push_of_some _ e
/-! ### any number of locks -/
def lockL : List Addr → TE → TE
  | [], t => t
  | d :: r, t => fun σ H Q => ∃ u, H d = some u ∧ Mut (some u) ∧ ∀ od, lockL r t σ (upd H d (.frz od u)) fun v H' => H' d = some (.frz od u) ∧ Q v (upd H' d u)
def tLockL (t : TE) : TE := fun σ H Q => ∃ ds, lockL ds t σ H Q
theorem pe_lockL1 {X : Cx} {e : Expr} {t : TE} (h : PE X e t) : ∀ ds, PE X e (lockL ds t)
  | [] => h
  | d :: r => ⟨fun pins s σ H Q I ⟨u, hu, mu, q⟩ => (pe_lock (pe_lockL1 h r)).run pins s σ H Q I ⟨d, u, hu, mu, q⟩⟩
theorem pe_lockL {X : Cx} {e : Expr} {t : TE} (h : PE X e t) : PE X e (tLockL t) := ⟨fun pins s σ H Q I ⟨ds, q⟩ => (pe_lockL1 h ds).run pins s σ H Q I q⟩
def lockS : List Addr → TS → TS
  | [], t => t
  | d :: r, t => fun D σ H => ∃ u, H d = some u ∧ Mut (some u) ∧ ∀ od, lockS r t ⟨fun σ' H' => H' d = some (.frz od u) ∧ D.nx σ' (upd H' d u), fun v H' => H' d = some (.frz od u) ∧ D.rt v (upd H' d u), fun σ' H' => H' d = some (.frz od u) ∧ D.bk σ' (upd H' d u), fun σ' H' => H' d = some (.frz od u) ∧ D.ct σ' (upd H' d u)⟩ σ (upd H d (.frz od u))
def tLockS (t : TS) : TS := fun D σ H => ∃ ds, lockS ds t D σ H
theorem ps_lockS1 {X : Cx} {e : Stmt} {t : TS} (h : PS X e t) : ∀ ds, PS X e (lockS ds t)
  | [] => h
  | d :: r => ⟨fun pins s σ H D I ⟨u, hu, mu, q⟩ => (ps_lock (ps_lockS1 h r)).run pins s σ H D I ⟨d, u, hu, mu, q⟩⟩
theorem ps_lockS {X : Cx} {e : Stmt} {t : TS} (h : PS X e t) : PS X e (tLockS t) := ⟨fun pins s σ H D I ⟨ds, q⟩ => (ps_lockS1 h ds).run pins s σ H D I q⟩
/-- the things of L locked -/
structure Locked (L : List (Addr × HO)) (H H1 : Hp) : Prop where
  at_ : ∀ p ∈ L, ∃ od, H1 p.1 = some (.frz od p.2)
  off : ∀ b, b ∉ L.map (·.1) → H1 b = H b
/-- .. and free again -/
def unl (L : List (Addr × HO)) (H : Hp) : Hp := fun b => match L.find? (fun p => decide (p.1 = b)) with
  | some p => some p.2
  | none => H b
def endsL (L : List (Addr × HO)) (H1 : Hp) (D : Ends) : Ends :=
  ⟨fun σ' H' => (∀ p ∈ L, H' p.1 = H1 p.1) ∧ D.nx σ' (unl L H'), fun v H' => (∀ p ∈ L, H' p.1 = H1 p.1) ∧ D.rt v (unl L H'), fun σ' H' => (∀ p ∈ L, H' p.1 = H1 p.1) ∧ D.bk σ' (unl L H'), fun σ' H' => (∀ p ∈ L, H' p.1 = H1 p.1) ∧ D.ct σ' (unl L H')⟩
theorem unl_off {L : List (Addr × HO)} {H : Hp} {b : Addr} (h : b ∉ L.map (·.1)) : unl L H b = H b := by
  unfold unl
  have e : L.find? (fun p => decide (p.1 = b)) = none := List.find?_eq_none.mpr fun p hp z => h (by
    have z' : p.1 = b := of_decide_eq_true z
    rw [← z']
    exact List.mem_map_of_mem hp)
  rw [e]
theorem unl_in {L : List (Addr × HO)} {H : Hp} {p : Addr × HO} (nd : (L.map (·.1)).Nodup) (h : p ∈ L) : unl L H p.1 = some p.2 := by
  unfold unl
  induction L with
  | nil => cases h
  | cons q L ih =>
    rw [List.find?_cons]
    by_cases e : q.1 = p.1
    · rw [decide_eq_true e]
      rcases List.mem_cons.mp h with z | z
      · rw [z]
      · exact absurd (show q.1 ∈ L.map (·.1) by rw [e]; exact List.mem_map_of_mem z) (List.nodup_cons.mp nd).1
    · rw [decide_eq_false e]
      rcases List.mem_cons.mp h with z | z
      · exact absurd (by rw [z]) e
      · exact ih (List.nodup_cons.mp nd).2 z
theorem lockS_of {t : TS} {σ : L2.St} : ∀ (L : List (Addr × HO)) (D : Ends) (H : Hp), (L.map (·.1)).Nodup → (∀ p ∈ L, H p.1 = some p.2 ∧ Mut (some p.2)) → (∀ H1, Locked L H H1 → t (endsL L H1 D) σ H1) → lockS (L.map (·.1)) t D σ H
  | [], D, H, _, _, h => by
    have z := h H ⟨fun p hp => (by cases hp), fun b _ => rfl⟩
    have e : endsL [] H D = D := by
      unfold endsL
      cases D
      congr 1 <;> funext a b <;> exact propext ⟨fun x => x.2, fun x => ⟨fun _ hp => (by cases hp), x⟩⟩
    rw [e] at z
    exact z
  | (d, u) :: L, D, H, nd, hm, h => by
    have nd' := List.nodup_cons.mp nd
    obtain ⟨hd, mu⟩ := hm (d, u) List.mem_cons_self
    refine ⟨u, hd, mu, fun od => lockS_of L _ _ nd'.2 (fun p hp => ?_) fun H1 lk => ?_⟩
    · have ne : p.1 ≠ d := fun z => nd'.1 (z ▸ List.mem_map_of_mem (f := (·.1)) hp)
      rw [upd_ne ne]
      exact hm p (List.mem_cons_of_mem _ hp)
    · have hd1 : H1 d = some (.frz od u) := by rw [lk.off d nd'.1, upd_same]
      have z := h H1 ⟨fun p hp => ?_, fun b hb => ?_⟩
      · have key : ∀ (H' : Hp) (R : Hp → Prop), ((∀ p ∈ (d, u) :: L, H' p.1 = H1 p.1) ∧ R (unl ((d, u) :: L) H')) = ((∀ p ∈ L, H' p.1 = H1 p.1) ∧ (unl L H' d = some (.frz od u) ∧ R (upd (unl L H') d u))) := fun H' R => by
          have eu : upd (unl L H') d u = unl ((d, u) :: L) H' := by
            funext b
            by_cases hb : b = d
            · rw [hb, upd_same]
              exact (unl_in (p := (d, u)) nd List.mem_cons_self).symm
            · rw [upd_ne hb]
              unfold unl
              rw [List.find?_cons, decide_eq_false (fun z => hb z.symm)]
          rw [eu, unl_off nd'.1]
          refine propext ⟨fun x => ⟨fun p hp => x.1 p (List.mem_cons_of_mem _ hp), by rw [x.1 (d, u) List.mem_cons_self, hd1], x.2⟩, fun x => ⟨fun p hp => ?_, x.2.2⟩⟩
          rcases List.mem_cons.mp hp with e | e
          · rw [e, x.2.1, hd1]
          · exact x.1 p e
        have e : endsL ((d, u) :: L) H1 D = endsL L H1 ⟨fun σ' H' => H' d = some (.frz od u) ∧ D.nx σ' (upd H' d u), fun v H' => H' d = some (.frz od u) ∧ D.rt v (upd H' d u), fun σ' H' => H' d = some (.frz od u) ∧ D.bk σ' (upd H' d u), fun σ' H' => H' d = some (.frz od u) ∧ D.ct σ' (upd H' d u)⟩ := by
          unfold endsL
          congr 1 <;> funext a b <;> exact key b _
        rw [e] at z
        exact z
      · rcases List.mem_cons.mp hp with e | e
        · rw [e]; exact ⟨od, hd1⟩
        · exact lk.at_ p e
      · have hb' : b ∉ L.map (·.1) := fun q => hb (List.mem_cons_of_mem _ q)
        have hbd : b ≠ d := fun q => hb (q ▸ List.mem_cons_self)
        rw [lk.off b hb', upd_ne hbd]
/-- a comprehension's loop, whatever its body is -/
theorem lc_any {J : It} {n : Nat} {G : Hp → Prop} {Y : Nat → Hp → V → Hp → Prop} (w : Walk J n G Y) {body : V → Hp → (Hp → Prop) → Prop} {H0 : Hp} {Qd : Hp → Prop} (Pv : Nat → Hp → Prop) (h0 : Pv 0 H0) (hG : ∀ i H, i ≤ n → Pv i H → G H)
    (hs : ∀ i x H H', i < n → Pv i H → Y i H x H' → body x H' (Pv (i + 1))) (hd : ∀ H, Pv n H → Qd H) :
    ∃ W : Nat → Nat → Hp → Prop, (∃ m, W 0 m H0) ∧ ∀ i m H, W i m H → (J.stop i H ∧ Qd H) ∨ (J.go i H ∧ ∃ Nx : Hp → Prop, (∀ H', Nx H' → ∃ m', m' < m ∧ W (i + 1) m' H') ∧ ∀ x H', J.yld i H x H' → body x H' Nx) := by
  refine ⟨fun i m H => m = n - i ∧ i ≤ n ∧ Pv i H, ⟨n, by simp, Nat.zero_le _, h0⟩, ?_⟩
  rintro i m H ⟨rfl, hi, p⟩
  have q := hG i H hi p
  by_cases hlt : i < n
  · exact .inr ⟨w.goes i H hlt q, Pv (i + 1), fun H' p' => ⟨n - (i + 1), by omega, rfl, hlt, p'⟩, fun x H' y => hs i x H H' hlt p (w.yields i H x H' hlt q y)⟩
  · have e : i = n := by omega
    subst e
    exact .inl ⟨w.stops H q, hd H p⟩
end DL
namespace S
open PySem PySem.Spec PyProof.Rows L2 DL
theorem sitems {σ : L2.St} {H : Hp} {Q : VK} {te : TE} (q : te σ H fun x H1 => ∃ (d : Addr) (kvs : List (Key × V)), x = .ref d ∧ H1 d = some (.dK kvs) ∧ ∀ v, H1 v = none → rSortedIV [.ref v] (upd H1 v (.ext fun h => h.IsItemsView v d)) Q) : tSortedItems te σ H Q := q
end S

/-! InvalidDeeds: an own error over an own error over ValueError, whose __init__ calls super().__init__ with a text and keeps one field -/
namespace Dx
open PySem PySem.W PySem.Calls PyProof.Rows PySem.HandSPX
def iA (p1 p2 : Pos) : Arguments :=
  { posonlyargs := [], vararg := none, kwonlyargs := [], kw_defaults := [], kwarg := none, defaults := []
    args := [⟨"self", none, p1⟩, ⟨"index", none, p2⟩] }
def iSt1 (q0 q1 q2 q3 q4 q5 : Pos) : Stmt := .Expr (.Call (.Attribute (.Call (.Name "super" q0) [] [] q1) "__init__" q2) [.Constant (.str "not deeds on sheets") 0 q3] [] q4) q5
def iSt2 (q6 q7 q8 q9 : Pos) : Stmt := .Assign [.Attribute (.Name "self" q6) "index" q7] (.Name "index" q8) q9
def iB (q0 q1 q2 q3 q4 q5 q6 q7 q8 q9 : Pos) : List Stmt := [iSt1 q0 q1 q2 q3 q4 q5, iSt2 q6 q7 q8 q9]
def iS : Scope :=
  { kind := .function, isGenerator := false, isCoroutine := false, more := []
    names := [(PySem.Str.ofString "self", .local), (PySem.Str.ofString "index", .local), (PySem.Str.ofString "__class__", .free), (PySem.Str.ofString "super", .globalImplicit)] }
/-- super().__init__(..) is read as the call of a method (so where the lines are told) -/
def Plain (q0 q1 q2 q3 q4 : Pos) : Prop := ∀ env : Env, ∃ pl : Sem Bool, eval (.Call (.Attribute (.Call (.Name "super" q0) [] [] q1) "__init__" q2) [.Constant (.str "not deeds on sheets") 0 q3] [] q4) env = (do
    let ov ← attributeBase (.Call (.Name "super" q0) [] [] q1) "__init__" env (eval (.Call (.Name "super" q0) [] [] q1) env)
    standAt q2.atName
    let (f, first) ← holding [ov] (getMethod ov "__init__" pl)
    callWith q4 f first (backTo q4 (starEach [.Constant (.str "not deeds on sheets") 0 q3] env)) [])
/-- what the written part says of InvalidDeeds, at C, and of its __init__, at fI -/
structure Ded (P : Program) (K : Frag) (mg : Str → Option Value) (C fI : Addr) : Prop where
  gC : mg "InvalidDeeds" = some (.ref C)
  sup : mg "super" = none
  cls : ∃ nm q N bs bm sn sub ab col dd k0 k1 k2 k3 k5, K.lookup C = some (excClassObj nm q C N bs bm true sn sub ab col dd k0 k1 k2 k3 k5 "ValueError.__new__") ∧ refsVE bm = true
  al : ks_superIn K C C "__init__" = some (some (.builtin "ValueError.__init__"))
  sa : findIn K (.ref C) "__setattr__" = some (some (.builtin "object.__setattr__"))
  ga : findIn K (.ref C) "__getattribute__" = some (some (.builtin "BaseException.__getattribute__"))
  gg : findIn K (.ref C) "__getattr__" = some none
  noN : findIn K (.ref C) "index" = some none
  iC : findIn K (.ref C) "__init__" = some (some (.ref fI))
  tC : typeIn K (.ref fI) = some (.type "function")
  kC : keepIn K (.ref C) = true
  exC : subIn K (.ref C) (.type "BaseException") = some true
  veC : subIn K (.ref C) (.type "ValueError") = some true
  slf : mroIn K C (.ref C) = some true
  tyC : typeIn K (.ref C) = some (.type "type")
  hdC : hasDictIn K C = true
  te : exmOne K (.ref C) (.ref C) = some true
  tp : nsIn K cStatics "thirdparty.any" = some none
  top : (P.main.scope.names.lookup ("super" : Str)).isSome = false
  fn : ∃ (oc ccl cl : Value) (od cdd cld : Option Addr) (osl ccs csl : Array (Option Value)) (doc pm : Value) (an : Option Addr) (cda cc : Addr) (ct : Value) (vs : Array Value) (file : Str) (tf : Tok) (p1 p2 q0 q1 q2 q3 q4 q5 q6 q7 q8 q9 : Pos),
    K.lookup fI = some ⟨oc, od, .func (ksFn "__init__" "InvalidDeeds.__init__" (iA p1 p2) (iB q0 q1 q2 q3 q4 q5 q6 q7 q8 q9) iS .none .none doc pm an (.ref cda) ct cc), osl⟩ ∧ codeIn K (.ref cda) "InvalidDeeds.__init__" = true ∧
    K.lookup cda = some ⟨ccl, cdd, .fields vs, ccs⟩ ∧ vs[2]? = some (.str file tf) ∧ ((P.main.file : Str) == file) = true ∧ K.lookup cc = some ⟨cl, cld, .cell (some (.ref C)), csl⟩ ∧ Plain q0 q1 q2 q3 q4
theorem line1 (v : Value) : [v].length ≤ sizeLine := by
  rw [sizeLine_eq]
  exact (by decide : 1 ≤ 16777216)
/-- what __init__ leaves of a fresh error at x -/
structure Left (h h' : Heap) (x C dx : Addr) (v : Value) : Prop where
  keep : ∀ b o, b ≠ x → h.get? b = some o → h'.get? b = some o
  obj : ∃ t1, h'.get? x = some { cls := .ref C, dict := some dx, data := .fields #[.ref t1, .none, .none, .none, .bool false, .none] }
  dbig : h.objs.size ≤ dx
  dne : dx ≠ x
  ns : h'.Ns1 dx (fun y => if y = "index" then some v else none)
/-- a made error -/
structure Born (h h' : Heap) (e C d : Addr) (v : Value) : Prop where
  keep : ∀ b o, h.get? b = some o → h'.get? b = some o
  new : h.objs.size ≤ e
  obj : ∃ oe vs, h'.get? e = some oe ∧ oe.cls = .ref C ∧ oe.dict = some d ∧ oe.data = .fields vs ∧ vs[1]? = some .none
  dbig : h.objs.size ≤ d
  dne : d ≠ e
  ns : h'.Ns1 d (fun y => if y = "index" then some v else none)
section
variable {prog : Program} {w : World} {A : Around} {E : Value → Shared → Prop} {R : Result → Shared → Prop} {s : Shared} {K : Frag} {mg : Str → Option Value} {C fI : Addr} {base : Heap}
/-- the wrapper ValueError.__init__ of e, called -/
theorem mw_call {h : Heap} {g : Array GenState} {d : Drawn} {t : Nat} {os : OsState} {nm q : Str} {N : Addr} {bs bm : List Value} {hdct : Bool} {sn : List Str} {sub : List Value} {ab : Bool} {col : Option Bool} {dd : Option Addr} {k0 k1 k2 k3 k5 : Option Value}
    {u e t0 : Addr} {rest : List Value} {Q : Value → Shared → Prop}
    (hC : h.get? C = some (excClassObj nm q C N bs bm hdct sn sub ab col dd k0 k1 k2 k3 k5 "ValueError.__new__")) (he : h.get? e = some (excO C t0)) (hu : h.get? u = some (kxs_mw "ValueError.__init__" e)) (hz : rest.length ≤ sizeLine)
    (hq : ∀ h' t1, (∀ b o, b ≠ e → h.get? b = some o → h'.get? b = some o) → h'.get? e = some (excO C t1) → Q .none ⟨h', g, d, t, os⟩) :
    wpAny (model prog w) A (call (.ref u) rest) Q E ⟨h, g, d, t, os⟩ := by
  refine wpAny_call (codeAny_of_tree ?_)
  show wpAny _ A.in1 (callAny (.ref u) ⟨rest, []⟩) _ _ _
  simp only [callAny]
  refine wpAny_bind (wpAny_load hu ?_)
  have m1 : (Value.type "method-wrapper" == Value.type "method" || Value.type "method-wrapper" == Value.type "builtin_function_or_method" || Value.type "method-wrapper" == Value.type "method-wrapper") = true := by decide
  simp only [kxs_mw, m1, if_true]
  refine KFB.if_so (by decide) ?_
  refine wpAny_bind (check_bound_init PySem.F.excBase_ValueError.toExcCallFacts hC he rfl ?_)
  refine wpAny_bind (wpAny_pure (wpAny_pure ⟨plainId_quiet PySem.F.excBase_ValueError.init.plain _, codeAny_builtin PySem.F.excBase_ValueError.initEntry ?_⟩))
  exact exc_init_tree (cls := .ref C) (t0 := t0) (dv := none) (c2 := .none) (c3 := .none) (b4 := .bool false) he hz fun h' k e' _ => hq h' _ k e'
theorem ldS {env : Env} {m : Str → Option Value} {x : Str} {pos : Pos} {v : Value} {Q : Value → Shared → Prop} {M : Model} (hn : s.heap.Ns env.locals m) (hv : m x = some v) (h : Q v s)
    (hk : env.scope.kind = .function := by rfl) (hl : env.kindOf x = some .local := by rfl) (hd : (x == ("__debug__" : Str)) = false := by decide) : wpAny M A (eval (.Name x pos) env) Q E s := wpAny_Name (wpAny_loadName_local hk hl hn hv h) hd
theorem init_runs (T : Ded prog K mg C fI) (Md : L2.Mod K mg base) (kb : ∀ b o, base.get? b = some o → s.heap.get? b = some o) {x t0 : Addr} {v : Value} (hlim : s.heap.NoLimit) (hx : s.heap.get? x = some (excO C t0)) (hnx : K.lookup x = none) (hroom : A.depth < recursionLimit)
    (hq : ∀ h' tk dx, Left s.heap h' x C dx v → R (.ok (.ret .none)) { s with heap := h', toks := tk }) :
    codeAny (model prog w) A (.call (.ref fI) ⟨[.ref x, v], []⟩) R s := by
  obtain ⟨oc, ccl, cl, od, cdd, cld, osl, ccs, csl, doc, pm, an, cda, cc, ct, vs, file, tf, p1, p2, q0, q1, q2, q3, q4, q5, q6, q7, q8, q9, ho, hcd, hcode, hvs, hfile, hcell, hpl⟩ := T.fn
  obtain ⟨nm, q, N, bs, bm, sn, sub, ab, col, dd, k0, k1, k2, k3, k5, hC, hbm⟩ := T.cls
  have hcl : clsIn K C = some { name := nm, bases := bs, mro := .ref C :: bm, ns := N, qualname := q, hasDict := true, slotNames := sn, subclasses := sub, abstract := ab, collection := col, hasDel := false } := by unfold clsIn; rw [hC] <;> rfl
  have al := T.al
  unfold ks_superIn at al
  rw [hcl] at al
  obtain ⟨mb, hb1, hb2⟩ := Md.blt
  obtain ⟨hp, g, d, tk, os⟩ := s
  have X : K.In hp := Md.kin.keeps kb
  have hxC : x ≠ C := fun z => by
    have a := X _ _ hC
    rw [← z, hx] at a
    cases a
  refine ks_codeAny_call_defAt (fd := ksFn "__init__" "InvalidDeeds.__init__" (iA p1 p2) (iB q0 q1 q2 q3 q4 q5 q6 q7 q8 q9) iS .none .none doc pm an (.ref cda) ct cc) (body := iB q0 q1 q2 q3 q4 q5 q6 q7 q8 q9) (binds := [("self", .ref x), ("index", v)])
    hroom (X _ _ ho) rfl hlim (codeRec_of X hcd) rfl (BindsTo.of_eq (by first | rfl | with_unfolding_all rfl)) (by show ∀ x ∈ iS.names, x.2 ≠ .cell; decide) (by intro y hy; simp only [List.mem_cons, List.not_mem_nil, or_false] at hy; rcases hy with rfl | rfl <;> rfl) (fun h₁ hns k₁ => ?_) rfl rfl rfl
  have x₁ := k₁ _ _ hx
  have X₁ : K.In h₁ := X.keeps k₁
  have kb₁ : ∀ b o, base.get? b = some o → h₁.get? b = some o := fun b o e => k₁ b o (kb b o e)
  have hL : hp.objs.size < h₁.objs.size := by
    obtain ⟨oL, _, _, e, _⟩ := hns
    exact Heap.lt_size e
  obtain ⟨pl, he⟩ := hpl (callEnv (ksFn "__init__" "InvalidDeeds.__init__" (iA p1 p2) (iB q0 q1 q2 q3 q4 q5 q6 q7 q8 q9) iS .none .none doc pm an (.ref cda) ct cc) hp.objs.size fI)
  refine ks_wpAt_execs_cons (ks_wpAt_Expr_any (ks_wpAt_MethodCall ?_ he))
  refine ks_wpAt_super_base rfl rfl rfl rfl (X₁ _ _ ho) rfl rfl rfl (X₁ _ _ hcode) rfl hvs hfile T.top ?_
  refine ks_loadName_global rfl rfl (loadGlobal_builtin (Md.glob.keeps kb₁) T.sup (hb1.keeps kb₁) ((hb2 _ (by decide)).trans (by first | rfl | decide +kernel | kernel_rfl : bootBuiltins "super" = some (.type "super"))) ⟨rfl, ?_⟩)
  refine wpAny_loadName_free rfl rfl rfl ⟨_, X₁ _ _ hcell, rfl⟩ ?_
  refine wpAny_loadName_local rfl rfl hns rfl ?_
  refine ks_wpAny_isType_cls (X₁ _ _ hC) rfl ⟨rfl, ?_⟩
  refine ks_wpAny_call_super (X₁ _ _ hC) rfl x₁ rfl (fun c e => nomatch e) (looks_mroIn X₁ T.slf) (fun h₂ so₂ k₂ => ?_)
  have x₂ := k₂ _ _ x₁
  have X₂ : K.In h₂ := X₁.keeps k₂
  have I₂ : PySem.W.InstAt h₂ x (excO C t0) C none := ⟨x₂, rfl, rfl, trivial⟩
  refine kxs_getMethod kxs_ValueError so₂ (looks_opaque X₂ T.tp) (l₀ := .ref C :: bm) (fun A Q E s k q => wpAny_bind ((looks_clsIn X₂ hcl) A _ E s k (wpAny_pure q))) rfl X₂ al (I₂.type.andThen (looks_subIn X₂ T.veC)) hxC (by decide) ?_
  have k₃ : ∀ b o, h₂.get? b = some o → (h₂.push (kxs_mw "ValueError.__init__" x)).get? b = some o := fun b o e => Heap.get?_push_of_some _ e
  have u₃ : (h₂.push (kxs_mw "ValueError.__init__" x)).get? h₂.objs.size = some (kxs_mw "ValueError.__init__" x) := Heap.get?_push_at rfl rfl
  have kA : ∀ b o, hp.get? b = some o → (h₂.push (kxs_mw "ValueError.__init__" x)).get? b = some o := fun b o e => k₃ b o (k₂ b o (k₁ b o e))
  have k13 : ∀ b o, h₁.get? b = some o → (h₂.push (kxs_mw "ValueError.__init__" x)).get? b = some o := fun b o e => k₃ b o (k₂ b o e)
  generalize h₂.push (kxs_mw "ValueError.__init__" x) = h₃ at *
  have X₃ : K.In h₃ := X.keeps kA
  refine kxs_callWith (i := "ValueError.__init__") (x := x) (by rfl) (evalArgs_plain (spliced_cons (Constant_str (k := 0) (pos := q3) (spliced_nil ⟨u₃, ?_⟩))))
  refine mw_call (X₃ _ _ hC) (kA _ _ hx) u₃ (line1 _) fun h₄ t1 k₄ x₄ => ?_
  have X₄ : K.In h₄ := fun a o e => k₄ a o (fun z => by rw [z, hnx] at e; cases e) (X₃ _ _ e)
  have lx : hp.objs.size ≠ x := Nat.ne_of_gt (Heap.lt_size hx)
  have hns₄ : h₄.Ns hp.objs.size (fun y => (([("self", .ref x), ("index", v)] : List (Str × Value)).reverse.lookup y)) := by
    obtain ⟨oL, es, ep, e, r⟩ := hns
    exact ⟨oL, es, ep, k₄ _ _ lx (k13 _ _ e), r⟩
  have zL : hp.objs.size < h₄.objs.size := by
    obtain ⟨oL, _, _, e, _⟩ := hns₄
    exact Heap.lt_size e
  show _root_.PySem.wpAt _ _ _ (execs [iSt2 q6 q7 q8 q9] _) _ _ _
  refine wpAt_of_wpAny (wpAny_execs_cons (plainObj_wpAny_Assign_Attribute ?_))
  refine ldS (v := v) hns₄ rfl (ldS (v := .ref x) hns₄ rfl ?_)
  refine set_plain X₄ (ox := excO C t1) (od := none) ⟨x₄, rfl, rfl, trivial⟩ T.sa ?_
  refine exc_osa X₄ x₄ hcl (show refsVE (.ref C :: bm) = true from hbm) rfl T.noN (fun h₅ tk₅ dx k₅ dn dne x₅ n₅ => ?_)
  show wpAny _ _ (execs _ _) _ _ _
  exact wpAny_execs_nil (hq h₅ tk₅ dx ⟨fun b o hb e => k₅ b o hb (k₄ b o hb (kA b o e)), ⟨t1, x₅⟩, Nat.le_of_lt (Nat.lt_of_lt_of_le zL dn), dne, n₅⟩)
theorem made_runs (T : Ded prog K mg C fI) (Md : L2.Mod K mg base) (kb : ∀ b o, base.get? b = some o → s.heap.get? b = some o) {v : Value} (hlim : s.heap.NoLimit) (hroom : A.depth + 1 < recursionLimit)
    (hq : ∀ h' tk e d, Born s.heap h' e C d v → R (.ok (.ret (.ref e))) { s with heap := h', toks := tk }) :
    codeAny (model prog w) A (.call (.ref C) ⟨[v], []⟩) R s := by
  obtain ⟨nm, q, N, bs, bm, sn, sub, ab, col, dd, k0, k1, k2, k3, k5, hC, hbm⟩ := T.cls
  obtain ⟨hp, g, dr, tk, os⟩ := s
  have X : K.In hp := Md.kin.keeps kb
  have k : ∀ b o, hp.get? b = some o → ((hp.push (kdv_tup [v])).push (excO C hp.objs.size)).get? b = some o := fun b o e => Heap.get?_push_of_some _ (Heap.get?_push_of_some _ e)
  have mine : ((hp.push (kdv_tup [v])).push (excO C hp.objs.size)).get? (hp.objs.size + 1) = some (excO C hp.objs.size) := by heap_get
  have hnx : K.lookup (hp.objs.size + 1) = none := by
    cases e : K.lookup (hp.objs.size + 1) with
    | none => rfl
    | some o => exact absurd (Nat.lt_of_succ_lt (Heap.lt_size (show hp.get? (hp.objs.size + 1) = some o from X _ _ e))) (Nat.lt_irrefl _)
  refine call_own PySem.F.excBase_ValueError (fun Y => refsVE_contains Y bm hbm) (X _ _ hC) (looks_findIn X T.iC) (fun self => bind_fn X self T.tC) (line1 v) ?_
  refine init_runs (s := ⟨(hp.push (kdv_tup [v])).push (excO C hp.objs.size), g, dr, tk, os⟩) T Md (fun b o e => k b o (kb b o e)) (hlim.keeps k) mine hnx (show A.depth + 1 < recursionLimit from hroom) fun h' tk' dx ⟨k', hx, dn, dne, hns⟩ => ?_
  obtain ⟨t1, hx⟩ := hx
  have z : hp.objs.size + 1 + 1 ≤ dx := by
    have q := dn
    rw [Heap.size_push, Heap.size_push] at q
    exact q
  exact ⟨rfl, hq h' tk' (hp.objs.size + 1) dx ⟨fun b o e => k' b o (Nat.ne_of_lt (Nat.lt_succ_of_lt (Heap.lt_size e))) (k b o e), Nat.le_succ _, ⟨_, _, hx, rfl, rfl, rfl, rfl⟩, Nat.le_trans (Nat.le_trans (Nat.le_succ _) (Nat.le_succ _)) z, dne, hns⟩⟩
end
end Dx
namespace Dx
open PySem PySem.Spec PyProof.Rows L2
theorem rel_index {v : V} {v' : Value} (r : RelV v v') (f : Str) : RelO (List.lookup f [(("index" : Str), v)]) (if f = "index" then some v' else none) := by
  by_cases hf : f = "index"
  · subst hf
    rw [if_pos rfl, show List.lookup ("index" : Str) [(("index" : Str), v)] = some v by simp [List.lookup]]
    exact r
  · have e : (f == ("index" : Str)) = false := by simpa using hf
    rw [if_neg hf, show List.lookup f [(("index" : Str), v)] = none by simp [List.lookup, e]]
    trivial
section
variable {X : Cx} {C fI : Addr}
/-- InvalidDeeds(e) -/
def tMkDed (C : Addr) (ta : TA) : L2.St → Hp → XK → Prop := fun σ H Q => ta σ H fun vs H1 => ∃ v, vs = [v] ∧ ∀ d, H1 d = none → Q (.ref C) (some d) (upd H1 d (.xd [(("index" : Str), v)]))
theorem pmk_ded {a : Expr} {ta : TA} {p pos : Pos} {k : Nat} (T : Ded X.prog X.K X.mg C fI) (hr : Room k X.A) (ha : PA X [a] ta) (hg : Gl X "InvalidDeeds" := by rfl)
    (he : starEach (a :: []) X.env = (false, eval a X.env) :: starEach [] X.env := by rfl) (hpl : (backTo pos (starEach [] X.env)).any (·.1) = false := by rfl) :
    PMk X (.Call (.Name "InvalidDeeds" p) [a] [] pos) (tMkDed C ta) := by
  intro pins s σ H Q I h
  refine wpAny_Call_Name_kw (ld_glob I hg T.gC ?_)
  refine PySem.W.callWith_K (h₀ := X.base) I.ok.mod.kin T.kC (thn (ha.run pos pins s σ H _ I h) fun us s1 hh => ?_) he hpl
  obtain ⟨vs, H1, I1, r1, v, ev, q1⟩ := hh
  subst ev
  refine ⟨I1.kIn, ?_⟩
  cases r1 with
  | cons rv rn =>
    rename_i v' us'
    cases rn
    show wpAny _ _ (call (.ref C) [v']) _ _ _
    have hlim := I1.nolimit
    have kb := I1.bk
    have Md := I1.mod
    obtain ⟨hp, g, dr, tk, os⟩ := s1
    refine wpAny_call (made_runs T Md kb hlim (by have := hr.dp; omega) fun h' tk' e d M => ?_)
    show MkP X pins σ Q (.ref e) ⟨h', g, dr, tk', os⟩
    obtain ⟨oe, fv, hoe, hc, hd, hdat, h1⟩ := M.obj
    obtain ⟨G', g1, g2⟩ := restrict h' fun b => decide (b ≠ e)
    have gk : ∀ b, b ≠ e → G'.get? b = h'.get? b := fun b hb => g1 b (decide_eq_true hb)
    have ge : G'.get? e = none := g2 e (by simp)
    have old : ∀ b o, hp.get? b = some o → G'.get? b = some o := fun b o q => (gk b (Nat.ne_of_lt (Nat.lt_of_lt_of_le (Heap.lt_size q) M.new))).trans (M.keep b o q)
    have hns := M.ns
    have ob : ObjOk X.prog X.w (upd H1 d (.xd [(("index" : Str), v)])) G' d (.xd [(("index" : Str), v)]) := ⟨_, hns.at (fun o q => (gk d M.dne).trans q), fun f => rel_index rv f⟩
    have J : Inv X pins σ (upd H1 d (.xd [(("index" : Str), v)])) ⟨G', g, dr, tk', os⟩ := I1.laid (t' := tk') old M.dbig ob
    refine ⟨e, oe, fv, ⟨G', g, dr, tk', os⟩, _, .ref C, some d, rfl, J, fun b o q => ?_, ge, hoe, ⟨hc, hd⟩, hdat, h1, ?_, rfl, I1.bare, raises_own T.exC T.tyC, q1 d (I1.hok.fresh M.dbig)⟩
    · by_cases hb : b = e
      · have q' : G'.get? b = some o := q
        rw [hb, ge] at q'; cases q'
      · exact (gk b hb).symm.trans q
    · rw [upd_ne (Ne.symm M.dne)]
      exact I1.hok.fresh M.new
/-- raise InvalidDeeds(e) -/
def tRaiseD (C : Addr) (W : WX) (ta : TA) : TS := fun _ σ H => tMkDed C ta σ H fun cls d H' => W cls d σ H'
theorem ps_raiseD {a : Expr} {ta : TA} {W : WX} {p pos pos2 : Pos} {k : Nat} (hc : X.calm = true) (T : Ded X.prog X.K X.mg C fI) (hr : Room k X.A) (tk : Takes X W) (ha : PA X [a] ta) (hg : Gl X "InvalidDeeds" := by rfl)
    (he : starEach (a :: []) X.env = (false, eval a X.env) :: starEach [] X.env := by rfl) (hpl : (backTo pos (starEach [] X.env)).any (·.1) = false := by rfl) :
    PS X (.Raise (some (.Call (.Name "InvalidDeeds" p) [a] [] pos)) none pos2) (tRaiseD C W ta) := ps_raise hc tk (pmk_ded T hr ha hg he hpl)
/-- e.index, e the error that the suite holds (at a; its class cls, its dict d) -/
def tIdx (C : Addr) (a : Addr) (cls : Value) (d : Option Addr) (te : TE) : TE := fun σ H Q => te σ H fun x H1 => x = .ref a ∧ cls = .ref C ∧ ∃ (dd : Addr) (v : V), d = some dd ∧ H1 dd = some (.xd [(("index" : Str), v)]) ∧ Q v H1
theorem pe_idx {a : Addr} {oe : Obj} {cls : Value} {d : Option Addr} {pn : List (Addr × Obj)} {e : Expr} {te : TE} {pos : Pos} (T : Ded X.prog X.K X.mg C fI) (hz : Zc cls d oe) (hf : ∃ vs, oe.data = .fields vs) (he : PE (X.suite a ((a, oe) :: pn)) e te)
    (hb : attributeBase e "index" X.env (eval e X.env) = eval e X.env := by rfl) :
    PE (X.suite a ((a, oe) :: pn)) (.Attribute e "index" pos) (tIdx C a cls d te) := by
  refine ⟨fun pins s σ H Q I h => ?_⟩
  refine attr_of hb (thn (he.run pins s σ H _ I h) fun u s1 hh => ?_)
  obtain ⟨x, H1, I1, rx, ex, ec, dd, v, ed, ea, q⟩ := hh
  subst ex
  obtain rfl : u = Value.ref a := rx
  subst ec
  subst ed
  obtain ⟨ha, _⟩ := I1.pin (a, oe) (List.mem_append_left _ List.mem_cons_self)
  obtain ⟨vs, hd⟩ := hf
  obtain ⟨mA, hns, hr⟩ : ObjOk X.prog X.w H1 s1.heap dd (.xd [(("index" : Str), v)]) := I1.hok dd _ ea
  obtain ⟨od, ho, hl⟩ := lookIn_ns hns
  obtain ⟨u, hu, ru⟩ := RelO.some_of (v := v) (o := mA "index") (by rw [← show List.lookup ("index" : Str) [(("index" : Str), v)] = some v by simp [List.lookup]]; exact hr "index")
  have J : PySem.W.InstAt s1.heap a oe C (some od) := ⟨ha, hz.1, by unfold PySem.W.notCls; rw [hd] <;> rfl, by rw [hz.2]; exact ho⟩
  exact PySem.HandSPX.exc_get I1.kIn J T.ga T.gg T.exC (PySem.W.findObj_own T.hdC T.noN rfl (by rw [hl, hu])) (handed_of ru) ⟨v, H1, I1.tok _, ru, q⟩
end
end Dx

/-! deeds that are refused; what the functions on sheets tell -/
namespace Dx
open PySem PySem.Spec PyProof.Rows L2 DL Bo Fr Lw
section
variable {P : Program} {w : World} {K : PySem.W.Frag} {mg : Str → Option Value} {base : Heap} {CX : CXT} {k : Nat} {f : Addr} {fd : FuncData} {ps : List Str} {x : Str} {sp sp' : Sp}
theorem fn_or (F : FnOk P w K mg base CX k f fd ps sp) (G : FnOk P w K mg base CX k f fd ps sp') : FnOk P w K mg base CX k f fd ps (fun vs H Q E => sp vs H Q E ∨ sp' vs H Q E) :=
  ⟨fun vs H Q E h => h.elim (F.len vs H Q E) (G.len vs H Q E), fun A outer s H args us vs Q E hr he hb hv h => h.elim (F.run A outer s H args us vs Q E hr he hb hv) (G.run A outer s H args us vs Q E hr he hb hv)⟩
theorem fn_toX (F : FnOk P w K mg base CX0 k f fd ps sp) : FnOk P w K mg base CX k f fd ps sp :=
  ⟨F.len, fun A outer s H args us vs Q E hr he hb hv h => PySem.codeAny_mono (F.run A outer s H args us vs Q E hr he hb hv h) fun r s' q => by
    cases r with
    | error e => exact False.elim q
    | ok fl =>
      cases fl <;> exact q⟩
end
/-- data that are no deeds; the index that is told -/
inductive Bad : PyData → Option Nat → Prop
  | no {D : PyData} : isTuple D 0 400 = false → Bad D none
  | put {ds : List Deed} {d : PyData} {rest : List PyData} : ds.length + 1 + rest.length ≤ 400 → okAll st0 ds = true → deedOk (runAll ([], st0) ds).2 d = false → Bad (.tuple (ds.map deedD ++ d :: rest)) (some ds.length)
def idxV : Option Nat → V
  | none => .non
  | some n => .int (n : Int)
def idxD : Option Nat → PyData
  | none => .none
  | some n => .int (n : Int)
theorem idx_dp {K : PySem.W.Frag} {F : Hp} (o : Option Nat) : Dp K F (idxV o) (idxD o) := by
  cases o with
  | none => exact .non
  | some n => exact .int _
/-- what is raised -/
def Raised (CI : Addr) (F H : Hp) (o : Option Nat) (E : XK) : Prop := ∀ d F' H', Gr [] F H F' H' → H' d = some (.xd [(("index" : Str), idxV o)]) → E (.ref CI) (some d) H'
def spGoneB (K : PySem.W.Frag) (CI : Addr) : Sp := fun vs H _ E => ∃ (F : Hp) (v : V) (D : PyData) (o : Option Nat), vs = [v] ∧ Same F H ∧ Dp K F v D ∧ Bad D o ∧ Raised CI F H o E
def spGoneX (K : PySem.W.Frag) (C CI : Addr) : Sp := fun vs H Q E => spGone K C vs H Q E ∨ spGoneB K CI vs H Q E
def Well (D : PyData) (ds : List Deed) : Prop := D = .tuple (ds.map deedD) ∧ ds.length ≤ 400 ∧ okAll st0 ds = true
def spIsDeeds (K : PySem.W.Frag) : Sp := fun vs H Q _ => ∃ (F : Hp) (v : V) (D : PyData) (b : Bool), vs = [v] ∧ Same F H ∧ Dp K F v D ∧ ((b = true ∧ ∃ ds, Well D ds) ∨ (b = false ∧ ∃ o, Bad D o)) ∧ ∀ F' H', Gr [] F H F' H' → Q (.bl b) H'
def spRefs (K : PySem.W.Frag) : Sp := fun vs H Q _ => ∃ (F : Hp) (v : V) (ds : List Deed), vs = [v] ∧ Same F H ∧ Dp K F v (.tuple (ds.map deedD)) ∧ ds.length ≤ 400 ∧ okAll st0 ds = true ∧
  ∀ w F' H', Gr [] F H F' H' → Dp K F' w (.tuple ((runAll ([], st0) ds).1.map evD)) → Q w H'
def prZ (p : Int × Int) : PyData := .tuple [.int p.1, .int p.2]
/-- the bodies that are there, ascending, each with the number of sheets that have it -/
def cntsL (st : BSt) : List (Int × Int) := (sortI (keysA st.shares)).map fun b => (b, cnt st b)
def spCounts (K : PySem.W.Frag) : Sp := fun vs H Q _ => ∃ (F : Hp) (v : V) (ds : List Deed), vs = [v] ∧ Same F H ∧ Dp K F v (.tuple (ds.map deedD)) ∧ ds.length ≤ 400 ∧ okAll st0 ds = true ∧
  ∀ w F' H', Gr [] F H F' H' → Dp K F' w (.tuple ((cntsL (runAll ([], st0) ds).2).map prZ)) → Q w H'
def spOwners (K : PySem.W.Frag) : Sp := fun vs H Q _ => ∃ (F : Hp) (v : V) (ds : List Deed) (b : Int), vs = [v, .int b] ∧ Same F H ∧ Dp K F v (.tuple (ds.map deedD)) ∧ ds.length ≤ 400 ∧ okAll st0 ds = true ∧ 0 ≤ b ∧
  ∀ w F' H', Gr [] F H F' H' → Dp K F' w (.tuple (havingD (runAll ([], st0) ds).2.sheets b)) → Q w H'
def spIsInt : Sp := fun vs H Q _ => ∃ b : Int, vs = [.int b, .int 0, .non] ∧ 0 ≤ b ∧ Q (.bl true) H
end Dx
namespace S
open PySem PySem.Spec PyProof.Rows L2 DL Dx
theorem raiseD {C : Addr} {W : WX} {ta : TA} {D : Ends} {σ : L2.St} {H : Hp} (q : ta σ H fun vs H1 => ∃ v, vs = [v] ∧ ∀ d, H1 d = none → W (.ref C) (some d) σ (upd H1 d (.xd [(("index" : Str), v)]))) : tRaiseD C W ta D σ H := q
end S

/-! plain: counts and owners are what the law works out -/
namespace Dx
open PySem PySem.Spec PyProof.Rows L2 DL Bo Fr Lw
theorem perm_uniq {α : Type} {r : α → α → Prop} (anti : ∀ a b, r a b → r b a → a = b) : ∀ {l l' : List α}, l.Perm l' → l.Pairwise r → l'.Pairwise r → l = l'
  | [], l', p, _, _ => (List.Perm.eq_nil p.symm).symm
  | a :: l, [], p, _, _ => absurd p.length_eq (by simp)
  | a :: l, b :: l', p, h, h' => by
    have e : a = b := by
      rcases List.mem_cons.mp (p.mem_iff.mp (List.mem_cons_self (a := a) (l := l))) with e | ha
      · exact e
      · rcases List.mem_cons.mp (p.mem_iff.mpr (List.mem_cons_self (a := b) (l := l'))) with e | hb
        · exact e.symm
        · exact anti a b ((List.pairwise_cons.mp h).1 b hb) ((List.pairwise_cons.mp h').1 a ha)
    subst e
    rw [perm_uniq anti p.cons_inv (List.pairwise_cons.mp h).2 (List.pairwise_cons.mp h').2]
/-- not behind -/
def leP (p q : Int × Int) : Prop := SrtO.lexB q p = false
theorem leP_anti (p q : Int × Int) (h : leP p q) (h' : leP q p) : p = q := by
  have a := SrtO.lexB_no.mp h
  have b := SrtO.lexB_no.mp h'
  have e1 : p.1 = q.1 := by omega
  have e2 : p.2 = q.2 := by omega
  exact Prod.ext e1 e2
theorem leP_fst {p q : Int × Int} (h : p.1 < q.1) : leP p q := SrtO.lexB_no.mpr (by omega)
theorem leP_snd {p q : Int × Int} (e : p.1 = q.1) (h : p.2 ≤ q.2) : leP p q := SrtO.lexB_no.mpr (by omega)
theorem srtd_leP {k : V → Int × Int} {ys : List V} (h : SrtO.Srtd (ltP k) ys) : (ys.map k).Pairwise leP := List.pairwise_map.mpr (h.imp fun z => z)
/-- strictly ascending -/
theorem sortI_lt {l : List Int} (nd : l.Nodup) : (sortI l).Pairwise (· < ·) := by
  have h1 := sortI_sorted l
  have h2 : (sortI l).Pairwise (· ≠ ·) := (sortI_perm l).nodup_iff.mpr nd
  exact (h1.and h2).imp fun ⟨a, b⟩ => by omega
theorem cnts_perm {n : Nat} {st : BSt} (h : BOk n st) : (cntsL st).Perm st.shares := by
  unfold cntsL
  refine ((sortI_perm _).map _).trans ?_
  unfold keysA
  rw [List.map_map]
  have e : st.shares.map ((fun b => (b, cnt st b)) ∘ fun p : Int × Int => p.1) = st.shares := by
    conv => rhs; rw [← List.map_id st.shares]
    refine List.map_congr_left fun p hp => ?_
    show (p.1, cnt st p.1) = p
    unfold Bo.cnt
    rw [getA_of_mem h.ndh (a := p.2) hp] <;> rfl
  rw [e]
theorem cnts_sorted {n : Nat} {st : BSt} (h : BOk n st) : (cntsL st).Pairwise leP := by
  unfold cntsL
  exact List.pairwise_map.mpr ((sortI_lt h.ndh).imp fun z => leP_fst z)
theorem cnts_uniq {n : Nat} {st : BSt} (h : BOk n st) {l : List (Int × Int)} (p : l.Perm st.shares) (s : l.Pairwise leP) : l = cntsL st := perm_uniq leP_anti (p.trans (cnts_perm h).symm) s (cnts_sorted h)
/-! ### owners -/
def rowP (t : Int) (row : AL Int) (b : Int) : List (Int × Int) := ((sortI (keysA row)).filter fun s => decide (getA row s = some b)).map fun s => (t, s)
def havingP (sh : AL (AL Int)) (b : Int) : List (Int × Int) := (sortI (keysA sh)).flatMap fun t => rowP t ((getA sh t).getD []) b
theorem having_P (sh : AL (AL Int)) (b : Int) : havingD sh b = (havingP sh b).map prZ := by
  unfold havingD havingP
  rw [List.map_flatMap]
  congr 1
  funext t
  unfold rowD rowP
  rw [List.map_map]
  rfl
/-- as the comprehension goes -/
def foundR (t : Int) (row : AL Int) (b : Int) : List (Int × Int) := (row.filter fun q => decide (q.2 = b)).map fun q => (t, q.1)
def foundP (sh : AL (AL Int)) (b : Int) : List (Int × Int) := sh.flatMap fun p => foundR p.1 p.2 b
theorem flat_perm {α β : Type} {f g : α → List β} : ∀ {l : List α}, (∀ a ∈ l, (f a).Perm (g a)) → (l.flatMap f).Perm (l.flatMap g)
  | [], _ => .refl _
  | a :: l, h => by
    rw [List.flatMap_cons, List.flatMap_cons]
    exact (h a List.mem_cons_self).append (flat_perm fun x hx => h x (List.mem_cons_of_mem _ hx))
theorem row_perm {t : Int} {row : AL Int} {b : Int} (nd : (keysA row).Nodup) : (foundR t row b).Perm (rowP t row b) := by
  unfold foundR rowP
  have e1 : (row.filter fun q => decide (q.2 = b)).map (fun q => (t, q.1)) = (((keysA row).filter fun s => decide (getA row s = some b)).map fun s => (t, s)) := by
    unfold keysA
    rw [List.filter_map, List.map_map]
    have e2 : row.filter ((fun s => decide (getA row s = some b)) ∘ fun p : Int × Int => p.1) = row.filter fun q => decide (q.2 = b) := by
      refine List.filter_congr fun p hp => ?_
      show decide (getA row p.1 = some b) = decide (p.2 = b)
      rw [getA_of_mem nd (a := p.2) hp]
      simp
    have e3 : row.filter ((fun s => decide (getA row s = some b)) ∘ fun x : Int × Int => x.1) = row.filter fun q => decide (q.2 = b) := e2
    exact (congrArg (List.map fun q : Int × Int => (t, q.1)) e3).symm
  rw [e1]
  exact (((sortI_perm (keysA row)).symm).filter _).map _
theorem found_perm {sh : AL (AL Int)} {b : Int} (nd : (keysA sh).Nodup) (nr : ∀ p ∈ sh, (keysA p.2).Nodup) : (foundP sh b).Perm (havingP sh b) := by
  have e : (keysA sh).flatMap (fun t => rowP t ((getA sh t).getD []) b) = sh.flatMap fun p => rowP p.1 ((getA sh p.1).getD []) b := by
    unfold keysA
    rw [List.flatMap_map]
  have h2 : (havingP sh b).Perm ((keysA sh).flatMap fun t => rowP t ((getA sh t).getD []) b) := (sortI_perm _).flatMap_right _
  refine List.Perm.trans ?_ h2.symm
  rw [e]
  refine flat_perm fun p hp => ?_
  rw [getA_of_mem nd (a := p.2) hp]
  exact row_perm (nr p hp)
theorem having_sorted {sh : AL (AL Int)} {b : Int} (nd : (keysA sh).Nodup) (nr : ∀ p ∈ sh, (keysA p.2).Nodup) : (havingP sh b).Pairwise leP := by
  unfold havingP
  refine List.pairwise_flatMap.mpr ⟨fun t ht => ?_, (sortI_lt nd).imp fun {t u} z => fun x hx y hy => ?_⟩
  · unfold rowP
    exact List.pairwise_map.mpr (((sortI_sorted _).filter _).imp fun {a c} z => leP_snd (p := (t, a)) (q := (t, c)) rfl z)
  · unfold rowP at hx hy
    obtain ⟨a, _, rfl⟩ := List.mem_map.mp hx
    obtain ⟨c, _, rfl⟩ := List.mem_map.mp hy
    exact leP_fst z
theorem having_uniq {sh : AL (AL Int)} {b : Int} (nd : (keysA sh).Nodup) (nr : ∀ p ∈ sh, (keysA p.2).Nodup) {l : List (Int × Int)} (p : l.Perm (foundP sh b)) (s : l.Pairwise leP) : l = havingP sh b := perm_uniq leP_anti (p.trans (found_perm nd nr)) s (having_sorted nd nr)
/-! ### what the law gathers -/
def dueL (st : BSt) (m : Nat) : List (Int × Int) := ((List.range m).filter fun (i : Nat) => !decide (occ st.sheets i = 0)).map fun (i : Nat) => ((i : Int), (occ st.sheets i : Int))
theorem due_snoc (st : BSt) (m : Nat) : dueL st (m + 1) = if occ st.sheets m = 0 then dueL st m else dueL st m ++ [((m : Int), (occ st.sheets m : Int))] := by
  unfold dueL
  rw [List.range_succ, List.filter_append, List.map_append]
  by_cases e : occ st.sheets m = 0
  · rw [if_pos e]
    simp [e]
  · rw [if_neg e]
    simp [e]
theorem due_all {n : Nat} {st : BSt} (h : BOk n st) {m : Nat} (hm : st.next ≤ m) : dueL st m = cntsL st := by
  refine cnts_uniq h ?_ ?_
  · have nd1 : (dueL st m).Nodup := by
      unfold dueL
      refine List.pairwise_map.mpr ((List.nodup_range.filter _).imp fun z e => z ?_)
      exact Int.ofNat.inj (congrArg Prod.fst e)
    have nd2 : st.shares.Nodup := (List.pairwise_map.mp (show (st.shares.map (·.1)).Pairwise (· ≠ ·) from h.ndh)).imp fun z e => z (by rw [e])
    refine (List.perm_ext_iff_of_nodup nd1 nd2).mpr fun p => ⟨fun hp => ?_, fun hp => ?_⟩
    · obtain ⟨i, hi, rfl⟩ := List.mem_map.mp hp
      have hi2 := (List.mem_filter.mp hi).2
      refine getA_mem ?_
      rw [h.sh i, if_neg (by simpa using hi2)]
    · have hg : getA st.shares p.1 = some p.2 := getA_of_mem h.ndh hp
      rw [h.sh p.1] at hg
      by_cases e : occ st.sheets p.1 = 0
      · rw [if_pos e] at hg; cases hg
      · rw [if_neg e] at hg
        obtain ⟨h1, h2⟩ := h.lt p.1 e
        refine List.mem_map.mpr ⟨p.1.toNat, List.mem_filter.mpr ⟨List.mem_range.mpr (by omega), ?_⟩, ?_⟩
        · have e2 : ((p.1.toNat : Nat) : Int) = p.1 := by omega
          rw [e2]
          simpa using e
        · have e2 : ((p.1.toNat : Nat) : Int) = p.1 := by omega
          rw [e2, Option.some.inj hg]
  · unfold dueL
    refine List.pairwise_map.mpr ((List.pairwise_lt_range.filter _).imp fun {a b} z => leP_fst ?_)
    show (a : Int) < b
    omega
/-- pairs that are new, as data -/
theorem pairs_frz {K : PySem.W.Frag} {F H H' : Hp} {ys : List V} {k : V → Int × Int} (sm : Same F H) (hs : Same H H') (hy : ∀ y ∈ ys, ∃ t, y = V.ref t ∧ H t = none ∧ H' t = some (.tup [.int (k y).1, .int (k y).2])) :
    ∃ F', Gr [] F H F' H' ∧ (∀ b, F b = none → (∀ y ∈ ys, y ≠ .ref b) → F' b = none) ∧ DpAll K F' ys ((ys.map k).map prZ) := by
  refine ⟨fun b => if (ys.any fun y => decide (y = .ref b)) = true then H' b else F b, ⟨fun b o e => ?_, fun b o _ e => hs b o e, fun b o e => ?_, fun b e hb => ?_, fun b hb => ?_⟩, fun b e n => ?_, ?_⟩
  · show (if _ then _ else _) = _
    by_cases c : (ys.any fun y => decide (y = .ref b)) = true
    · rw [if_pos c]
      exact hs b o (sm b o e)
    · rw [if_neg c]; exact e
  · have e' : (if (ys.any fun y => decide (y = .ref b)) = true then H' b else F b) = some o := e
    by_cases c : (ys.any fun y => decide (y = .ref b)) = true
    · rw [if_pos c] at e'; exact e'
    · rw [if_neg c] at e'; exact hs b o (sm b o e')
  · show (if _ then _ else _) = _
    rw [if_neg fun c => ?_]
    · exact e
    · obtain ⟨y, hm, hd⟩ := List.any_eq_true.mp c
      obtain ⟨t, e1, e2, _⟩ := hy y hm
      have e3 : y = .ref b := of_decide_eq_true hd
      rw [e1] at e3
      cases e3
      exact hb e2
  · cases q : H b with
    | none => exact absurd q hb
    | some o => rw [hs b o q]; exact fun z => nomatch z
  · show (if _ then _ else _) = _
    rw [if_neg fun c => ?_]
    · exact e
    · obtain ⟨y, hm, hd⟩ := List.any_eq_true.mp c
      exact n y hm (of_decide_eq_true hd)
  · have key : ∀ l : List V, (∀ y ∈ l, y ∈ ys) → DpAll K (fun b => if (ys.any fun y => decide (y = .ref b)) = true then H' b else F b) l ((l.map k).map prZ) := by
      intro l
      induction l with
      | nil => exact fun _ => .nil
      | cons y l ih =>
        intro hl
        obtain ⟨t, e1, e2, e3⟩ := hy y (hl y List.mem_cons_self)
        refine .cons ?_ (ih fun z hz => hl z (List.mem_cons_of_mem _ hz))
        subst e1
        refine .tup (.inl (.inl ?_)) (.cons (.int _) (.cons (.int _) .nil))
        show (if _ then _ else _) = _
        rw [if_pos (List.any_eq_true.mpr ⟨_, hl _ List.mem_cons_self, decide_eq_true rfl⟩)]
        exact e3
    exact key ys fun _ h => h
theorem _root_.DL.Gr.unlock {L : List (Addr × HO)} {F H H2 F' H' : Hp} (lk : Locked L H H2) (nd : (L.map (·.1)).Nodup) (hm : ∀ p ∈ L, H p.1 = some p.2 ∧ F p.1 = none) (g : Gr [] F H2 F' H') : Gr [] F H F' (unl L H') := by
  have live : ∀ b, H b ≠ none → H2 b ≠ none := fun b hb => by
    by_cases c : b ∈ L.map (·.1)
    · obtain ⟨p, hp, rfl⟩ := List.mem_map.mp c
      obtain ⟨od, e⟩ := lk.at_ p hp
      rw [e]; exact fun z => nomatch z
    · rw [lk.off b c]; exact hb
  have kp : ∀ b o, H b = some o → unl L H' b = some o := fun b o e => by
    by_cases c : b ∈ L.map (·.1)
    · obtain ⟨p, hp, rfl⟩ := List.mem_map.mp c
      rw [unl_in nd hp, ← (hm p hp).1, e]
    · rw [unl_off c]
      exact g.at0 (by rw [lk.off b c]; exact e)
  refine ⟨g.fs, fun b o _ e => kp b o e, fun b o e => ?_, fun b e hb => g.own b e (live b hb), fun b hb => ?_⟩
  · by_cases c : b ∈ L.map (·.1)
    · obtain ⟨p, hp, rfl⟩ := List.mem_map.mp c
      have n := g.own p.1 (hm p hp).2 (live p.1 (by rw [(hm p hp).1]; exact fun z => nomatch z))
      rw [n] at e; cases e
    · rw [unl_off c]
      exact g.sub b o e
  · cases q : H b with
    | none => exact absurd q hb
    | some o => rw [kp b o q]; exact fun z => nomatch z
/-- pairs of ints, each at its address -/
def PairsIn (F : Hp) : List V → List (Int × Int) → Prop
  | [], [] => True
  | x :: xs, p :: ps => (∃ t, x = .ref t ∧ F t = some (.tup [.int p.1, .int p.2])) ∧ PairsIn F xs ps
  | _, _ => False
theorem PairsIn.to {F F' : Hp} (e : Same F F') : ∀ {xs : List V} {ps : List (Int × Int)}, PairsIn F xs ps → PairsIn F' xs ps
  | [], [], h => h
  | _ :: _, _ :: _, ⟨⟨t, h1, h2⟩, h⟩ => ⟨⟨t, h1, e _ _ h2⟩, PairsIn.to e h⟩
  | [], _ :: _, h => h.elim
  | _ :: _, [], h => h.elim
theorem PairsIn.app {F : Hp} : ∀ {xs ys : List V} {ps qs : List (Int × Int)}, PairsIn F xs ps → PairsIn F ys qs → PairsIn F (xs ++ ys) (ps ++ qs)
  | [], _, [], _, _, h => h
  | _ :: _, _, _ :: _, _, ⟨h1, h2⟩, h => ⟨h1, PairsIn.app h2 h⟩
  | [], _, _ :: _, _, h, _ => h.elim
  | _ :: _, _, [], _, h, _ => h.elim
theorem PairsIn.at_ {F : Hp} : ∀ {xs : List V} {ps : List (Int × Int)}, PairsIn F xs ps → ∀ x ∈ xs, ∃ t, x = .ref t ∧ F t = some (.tup [.int (pk F x).1, .int (pk F x).2])
  | [], [], _, x, hx => by cases hx
  | y :: xs, p :: ps, ⟨⟨t, h1, h2⟩, h⟩, x, hx => by
    rcases List.mem_cons.mp hx with e | e
    · rw [e, h1]
      refine ⟨t, rfl, ?_⟩
      rw [pk_of h2]
      exact h2
    · exact PairsIn.at_ h x e
  | [], _ :: _, h, _, _ => h.elim
  | _ :: _, [], h, _, _ => h.elim
theorem PairsIn.ks {F : Hp} : ∀ {xs : List V} {ps : List (Int × Int)}, PairsIn F xs ps → xs.map (pk F) = ps
  | [], [], _ => rfl
  | y :: xs, p :: ps, ⟨⟨t, h1, h2⟩, h⟩ => by
    rw [List.map_cons, PairsIn.ks h, h1, pk_of h2]
  | [], _ :: _, h => h.elim
  | _ :: _, [], h => h.elim
theorem dp_pairs {K : PySem.W.Frag} {F : Hp} {k : V → Int × Int} : ∀ {ys : List V}, (∀ y ∈ ys, ∃ t, y = V.ref t ∧ F t = some (.tup [.int (k y).1, .int (k y).2])) → DpAll K F ys ((ys.map k).map prZ)
  | [], _ => .nil
  | y :: ys, h => by
    obtain ⟨t, e1, e2⟩ := h y List.mem_cons_self
    refine .cons ?_ (dp_pairs fun z hz => h z (List.mem_cons_of_mem _ hz))
    have e3 : Dp K F (.ref t) (prZ (k y)) := .tup (.inl (.inl e2)) (.cons (.int _) (.cons (.int _) .nil))
    rw [e1] at e3 ⊢
    exact e3
theorem foundP_snoc (sh : AL (AL Int)) (p : Int × AL Int) (b : Int) : foundP (sh ++ [p]) b = foundP sh b ++ foundR p.1 p.2 b := by
  unfold foundP
  rw [List.flatMap_append, List.flatMap_cons, List.flatMap_nil, List.append_nil]
theorem foundR_snoc (t : Int) (row : AL Int) (q : Int × Int) (b : Int) : foundR t (row ++ [q]) b = if q.2 = b then foundR t row b ++ [(t, q.1)] else foundR t row b := by
  unfold foundR
  rw [List.filter_append, List.map_append]
  by_cases e : q.2 = b
  · rw [if_pos e]; simp [e]
  · rw [if_neg e]; simp [e]
theorem sheets_take (T : AL (Addr × AL Int)) (i : Nat) : sheetsOf (T.take i) = (sheetsOf T).take i := by unfold sheetsOf; rw [List.map_take]
end Dx
namespace S
open PySem PySem.Spec PyProof.Rows L2 DL
theorem lockS {t : TS} {D : Ends} {σ : L2.St} {H : Hp} (L : List (Addr × HO)) (nd : (L.map (·.1)).Nodup) (hm : ∀ p ∈ L, H p.1 = some p.2 ∧ Mut (some p.2)) (h : ∀ H1, Locked L H H1 → t (endsL L H1 D) σ H1) : tLockS t D σ H := ⟨_, lockS_of L D H nd hm h⟩
theorem lc2 {wi : TI} {g : TG} {tt : TT} {wi1 : TI} {g1 : TG} {tt1 : TT} {te : TE} {vs vs1 : List Nat} {σ : L2.St} {H : Hp} {Q : VK} (q : wi σ H fun J H1 => ∀ D, H1 D = none → ∃ W : Nat → Nat → Hp → Prop, (∃ m, W 0 m (upd H1 D (.lst []))) ∧ ∀ i m H, W i m H →
  (J.stop i H ∧ Q (.ref D) H) ∨ (J.go i H ∧ ∃ Nx : Hp → Prop, (∀ H', Nx H' → ∃ m', m' < m ∧ W (i + 1) m' H') ∧ ∀ x H', J.yld i H x H' → g x (wipe σ vs) H' fun σ2 H2 => wipe σ2 vs = wipe σ vs ∧ tt σ2 H2 fun b H3 =>
    if b = true then wi1 σ2 H3 fun J1 H4 => ∃ W1 : Nat → Nat → Hp → Prop, (∃ m, W1 0 m H4) ∧ ∀ j k H, W1 j k H →
      (J1.stop j H ∧ Nx H) ∨ (J1.go j H ∧ ∃ Nx1 : Hp → Prop, (∀ H', Nx1 H' → ∃ k', k' < k ∧ W1 (j + 1) k' H') ∧ ∀ x H', J1.yld j H x H' → g1 x (wipe σ2 vs1) H' fun σ3 H5 => wipe σ3 vs1 = wipe σ2 vs1 ∧ tt1 σ3 H5 fun b H6 =>
        if b = true then te σ3 H6 fun y H7 => ∃ acc, H7 D = some (.lst acc) ∧ acc.length < sizeLine ∧ Nx1 (upd H7 D (.lst (acc ++ [y]))) else Nx1 H6)
    else Nx H3)) : tLc2 wi g tt wi1 g1 tt1 te vs vs1 σ H Q := q
end S

/-! k02's law: what its helpers promise, and plain facts -/
namespace Dx
open PySem PySem.Spec PyProof.Rows L2 DL Bo Fr Lw
theorem wid_all : ∀ {ds : List PyData}, (∀ d ∈ ds, wid d = true) → widAll ds = true
  | [], _ => rfl
  | d :: ds, h => by
    show (wid d && widAll ds) = true
    rw [h d List.mem_cons_self, wid_all fun x hx => h x (List.mem_cons_of_mem _ hx)]
    rfl
theorem depth_tup {ds : List PyData} (h : PyData.depthAll ds ≤ 1) : (PyData.tuple ds).depth < 3 := by
  have e : (PyData.tuple ds).depth = PyData.depthAll ds + 1 := by simp [PyData.depth]
  omega
theorem wid_tup {ds : List PyData} (h : ∀ d ∈ ds, wid d = true) (hl : ds.length ≤ 1000000) : wid (.tuple ds) = true := by
  show (decide (ds.length ≤ 1000000) && widAll ds) = true
  rw [decide_eq_true hl, wid_all h]
  rfl
theorem evs_ok (es : List Ev) (hl : es.length ≤ 1000000) : (PyData.tuple (es.map evD)).depth < 3 ∧ wid (.tuple (es.map evD)) = true := by
  refine ⟨depth_tup (evs_lay es).2, wid_tup (fun d hd => ?_) (by rw [List.length_map]; exact hl)⟩
  obtain ⟨e, _, rfl⟩ := List.mem_map.mp hd
  cases e <;> simp [evD, wid, widAll]
theorem prs_ok {l : List PyData} (h : ∀ x ∈ l, ∃ a b : Int, x = .tuple [.int a, .int b]) (hl : l.length ≤ 1000000) : (PyData.tuple l).depth < 3 ∧ wid (.tuple l) = true := by
  refine ⟨depth_tup (pair_lay h).2, wid_tup (fun d hd => ?_) hl⟩
  obtain ⟨a, b, rfl⟩ := h d hd
  simp [wid, widAll]
theorem prZ_pairs (ps : List (Int × Int)) : ∀ x ∈ ps.map prZ, ∃ a b : Int, x = .tuple [.int a, .int b] := fun x hx => by
  obtain ⟨p, _, rfl⟩ := List.mem_map.mp hx
  exact ⟨p.1, p.2, rfl⟩
theorem fin_T {ds : List Deed} {sh : List Int} {T : AL (Addr × AL Int)} (ok : okAll st0 ds = true) (hl : sh.length ≤ 50) (hsi : ∀ d ∈ ds, shIn sh d) (se : sheetsOf T = (runAll ([], st0) ds).2.sheets) :
    (keysA T).Nodup ∧ (∀ t ∈ T, (keysA t.2.2).Nodup) ∧ T.length < 64 ∧ (∀ t ∈ T, t.2.2.length < 64) := by
  have hst := (run_ok ok ds.length (Nat.le_refl _)).1
  rw [List.take_length] at hst
  have hkeys := run_keys (ds := ds) (st := st0) (es := []) (fun k hk => by rw [List.mem_singleton.mp (show k ∈ [1] from hk)]; simp) ok
  have hrows := run_rows (sh := sh) (ds := ds) (z := ([], st0)) (fun p hp k hk => by rw [List.mem_singleton.mp (show p ∈ [((1 : Int), ([] : AL Int))] from hp)] at hk; cases hk) hsi
  have hin : ∀ t ∈ T, (t.1, t.2.2) ∈ (runAll ([], st0) ds).2.sheets := fun t ht => by rw [← se]; exact List.mem_map_of_mem (f := fun t : Int × (Addr × AL Int) => (t.1, t.2.2)) ht
  have hrn : ∀ t ∈ T, (keysA t.2.2).Nodup := fun t ht => hst.ndr _ (hin t ht)
  refine ⟨by rw [← keys_sheetsOf, se]; exact hst.nds, hrn, ?_, fun t ht => ?_⟩
  · have h1 := len_of_sub hst.nds hkeys
    have h2 := congrArg List.length se
    simp only [sheetsOf, keysA, List.length_map] at h1 h2
    simp at h1
    omega
  · have h2 := len_of_sub (hrn t ht) (hrows _ (hin t ht))
    simp only [keysA, List.length_map] at h2
    omega
theorem occ_far {n : Nat} {st : BSt} (h : BOk n st) {b : Int} (hb : (n : Int) ≤ b) : occ st.sheets b = 0 := by
  by_cases e : occ st.sheets b = 0
  · exact e
  · have := (h.lt b e).2
    have := h.ln
    omega
theorem having_far {n : Nat} {st : BSt} (h : BOk n st) {b : Int} (hb : (n : Int) ≤ b) : havingD st.sheets b = [] := by
  have e := having_nil (b := b) h.nds h.ndr
  rw [decide_eq_true (occ_far h hb)] at e
  exact List.isEmpty_iff.mp e
theorem having_le {n : Nat} {st : BSt} (h : BOk n st) (b : Int) : (havingD st.sheets b).length ≤ n * (n + 1) := by
  rw [having_len h.nds h.ndr]
  unfold occ
  have key : ∀ l : AL (AL Int), (∀ p ∈ l, p.2.length ≤ n) → (l.map fun p => occR p.2 b).sum ≤ n * l.length := by
    intro l
    induction l with
    | nil => intro _; simp
    | cons p l ih =>
      intro hl
      rw [List.map_cons, List.sum_cons, List.length_cons, Nat.mul_succ]
      have h1 : occR p.2 b ≤ n := by
        unfold occR
        refine Nat.le_trans (List.count_le_length ..) ?_
        rw [List.length_map]
        exact hl p List.mem_cons_self
      have := ih fun q hq => hl q (List.mem_cons_of_mem _ hq)
      omega
  have := key st.sheets h.lr
  have h3 : n * st.sheets.length ≤ n * (n + 1) := Nat.mul_le_mul_left _ h.ls
  omega
def rev2 {α : Type} : List α → List α → List α
  | [], [a, b] => [b, a]
  | _, _ => []
theorem rev2_rel {vs : List V} {us : List Value} {zs : List V} {ws : List Value} (h : Vals vs us) (h2 : Vals zs ws) : Vals (rev2 vs zs) (rev2 us ws) := by
  cases h with
  | cons _ _ => exact .nil
  | nil =>
    cases h2 with
    | nil => exact .nil
    | cons r1 t =>
      cases t with
      | nil => exact .nil
      | cons r2 t =>
        cases t with
        | nil => exact .cons r2 (.cons r1 .nil)
        | cons _ _ => exact .nil
def spRight (K : PySem.W.Frag) : Sp := fun vs H Q _ => ∃ (F : Hp) (v : V) (ds : List Deed) (sh : List Int), vs = [v] ∧ Same F H ∧ Dp K F v (.tuple (ds.map deedD)) ∧ ds.length ≤ 100 ∧ okAll st0 ds = true ∧ sh.length ≤ 50 ∧ (∀ d ∈ ds, shIn sh d) ∧
  ∀ F' H', Gr [] F H F' H' → Q (.bl true) H'
def spRefused (K : PySem.W.Frag) : Sp := fun vs H Q _ => ∃ (F : Hp) (v : V) (D : PyData) (o : Option Nat), vs = [v] ∧ Same F H ∧ Dp K F v D ∧ Bad D o ∧ ∀ F' H', Gr [] F H F' H' → Q (idxV o) H'
def spSpoilt (K : PySem.W.Frag) : Sp := fun vs H Q _ => ∃ (F : Hp) (q : Addr) (v : V) (ds : List Deed) (m : Nat), vs = [.ref q, v] ∧ Same F H ∧ F q = none ∧ DkAt H q m ∧ m ≤ 10000 ∧ Dp K F v (.tuple (ds.map deedD)) ∧ ds.length ≤ 100 ∧ okAll st0 ds = true ∧
  (∃ t, (getA (runAll ([], st0) ds).2.sheets t).isSome = true) ∧ ∀ F' H', Gr [q] F H F' H' → Q (.bl true) H'
def spLawK02 (K : PySem.W.Frag) : Sp := fun vs H Q _ => ∃ (a : Addr) (ns : List Int), vs = [.ref a] ∧ SqL K H a (ns.map V.int) ∧ ns.length ≤ 63 ∧ ∀ H', Q (.bl true) H'
/-! ### who is there -/
structure TInv (there : List Int) (st : BSt) : Prop where
  rg : ∀ t ∈ there, 1 ≤ t ∧ t ≤ 6
  th : ∀ t, t ∈ there ↔ (getA st.sheets t).isSome = true
  m1 : (getA st.met 1).isSome = true
theorem isFrom_in {i lo hi : Int} (h : isFrom (.int i) lo hi = true) : lo ≤ i ∧ i ≤ hi := by
  have h' : (decide (lo ≤ i) && decide (i ≤ hi)) = true := h
  rw [Bool.and_eq_true_iff, decide_eq_true_iff, decide_eq_true_iff] at h'
  exact h'
theorem thereD_in {st : BSt} {t : Int} (h : thereD st (.int t) = true) : (1 ≤ t ∧ t ≤ 6) ∧ (getA st.sheets t).isSome = true := by
  have h' : (isFrom (.int t) 1 6 && (getA st.sheets t).isSome) = true := h
  obtain ⟨a, b⟩ := Bool.and_eq_true_iff.mp h'
  exact ⟨isFrom_in a, b⟩
def thereL (there : List Int) : Deed → List Int
  | .fork _ c => there ++ [c]
  | .fin t => there.filter fun x => !decide (x = t)
  | _ => there
theorem TInv.step {there : List Int} {st : BSt} (h : TInv there st) {d : Deed} (ok : okD st d = true) : TInv (thereL there d) (doneE st d).2 := by
  cases d with
  | load t s => exact h
  | store t s =>
    have hok : (thereD st (.int t) && _) = true := ok
    obtain ⟨_, ha⟩ := thereD_in (Bool.and_eq_true_iff.mp hok).1
    have hw : ∀ sh : AL Int, TInv there (withBody { st with shares := sh } t s) := fun sh => by
      refine ⟨h.rg, fun t' => ?_, h.m1⟩
      show t' ∈ there ↔ (getA (putA st.sheets t _) t').isSome = true
      rw [getA_putA]
      by_cases e : t' = t
      · rw [if_pos e, e]
        exact ⟨fun _ => rfl, fun _ => (h.th t).mpr ha⟩
      · rw [if_neg e]; exact h.th t'
    show TInv there (storeE st t s).2
    unfold storeE
    cases q : bodyOf st t s with
    | none => exact hw st.shares
    | some b =>
      dsimp only
      by_cases e : 1 < cnt st b
      · rw [if_pos e]; exact hw _
      · rw [if_neg e]; exact h
  | fork t c =>
    have hok : (thereD st (.int t) && _) = true := ok
    have h2 := (Bool.and_eq_true_iff.mp hok).2
    have h3 : comeD st (.int c) = true := by simpa using h2
    have h4 : (isFrom (.int c) 1 6 && !(getA st.met c).isSome) = true := h3
    have hc := isFrom_in (Bool.and_eq_true_iff.mp h4).1
    refine ⟨fun x hx => ?_, fun x => ?_, ?_⟩
    · rcases List.mem_append.mp hx with hx | hx
      · exact h.rg x hx
      · rw [List.mem_singleton.mp hx]; exact hc
    · show x ∈ there ++ [c] ↔ (getA (putA st.sheets c _) x).isSome = true
      rw [getA_putA, List.mem_append, List.mem_singleton, h.th x]
      by_cases e : x = c
      · rw [if_pos e]; simp [e]
      · rw [if_neg e]; simp [e]
    · show (getA (putA st.met c ()) 1).isSome = true
      rw [getA_putA]
      by_cases e : (1 : Int) = c
      · rw [if_pos e]; rfl
      · rw [if_neg e]; exact h.m1
  | fin t =>
    refine ⟨fun x hx => h.rg x (List.mem_filter.mp hx).1, fun x => ?_, h.m1⟩
    show x ∈ there.filter _ ↔ (getA (dropA st.sheets t) x).isSome = true
    rw [getA_dropA, List.mem_filter, h.th x]
    by_cases e : x = t
    · rw [if_pos e]; simp [e]
    · rw [if_neg e]; simp [e]
theorem tinv0 : TInv [1] st0 := by
  refine ⟨fun t ht => by rw [List.mem_singleton.mp ht]; decide, fun t => ?_, rfl⟩
  show t ∈ [1] ↔ (getA [((1 : Int), ([] : AL Int))] t).isSome = true
  rw [getA_cons, getA_nil, List.mem_singleton]
  by_cases e : (1 : Int) = t
  · simp [e]
  · simp [e]; omega
theorem alive_at {ds : List Deed} (ok : okAll st0 ds = true) (al : ∃ t, (getA (runAll ([], st0) ds).2.sheets t).isSome = true) (i : Nat) : ∃ t, (getA (runAll ([], st0) (ds.take i)).2.sheets t).isSome = true := by
  by_cases h : i < ds.length
  · have hd : ds[i]? = some ds[i] := by simp [h]
    have o := okAll_at (es := []) ok hd
    generalize ds[i] = d at o
    generalize (runAll ([], st0) (ds.take i)).2 = st at *
    have hok : ∀ t r, deedD d = .tuple (.str r :: .int t :: (match d with | .load _ s | .store _ s => [.int s] | .fork _ c => [.int c] | .fin _ => [])) → (getA st.sheets t).isSome = true := fun t r e => by
      have o' : deedOk st (deedD d) = true := o
      rw [e] at o'
      have o2 : (thereD st (.int t) && _) = true := o'
      exact (thereD_in (Bool.and_eq_true_iff.mp o2).1).2
    cases d with
    | load t s => exact ⟨t, hok t _ rfl⟩
    | store t s => exact ⟨t, hok t _ rfl⟩
    | fork t c => exact ⟨t, hok t _ rfl⟩
    | fin t => exact ⟨t, hok t _ rfl⟩
  · rw [List.take_of_length_le (by omega)]
    exact al
theorem deed_shaped (d : Deed) : SeqAt.shaped (deedD d) = true := by
  have e1 : PyData.strOk "load" = true := by decide +kernel
  have e2 : PyData.strOk "store" = true := by decide +kernel
  have e3 : PyData.strOk "fork" = true := by decide +kernel
  have e4 : PyData.strOk "end" = true := by decide +kernel
  cases d <;> simp [deedD, SeqAt.shaped, PyData.canLayAll0, PyData.depth, PyData.depthAll, PyData.canLay0, e1, e2, e3, e4]
theorem fin_ne (d : Deed) (x : Int) : (!PyData.eqv (deedD d) (deedD (.fin x))) = match d with | .fin t => !decide (x = t) | _ => true := by
  cases d with
  | fin t =>
    by_cases e : t = x
    · subst e
      simp [deedD, PyData.eqv, PyData.eqvAll]
    · have e2 : ¬ x = t := fun z => e z.symm
      simp [deedD, PyData.eqv, PyData.eqvAll, e, e2]
  | _ => simp [deedD, PyData.eqv, PyData.eqvAll]
theorem step_case (there : List Int) (d : Deed) : (∃ t c, d = .fork t c) ∨ (thereL there d = there.filter (fun x => !PyData.eqv (deedD d) (deedD (.fin x))) ∧ ∃ w rst, deedD d = .tuple (.str w :: rst) ∧ w ≠ "fork") := by
  have e : (fun x => !PyData.eqv (deedD d) (deedD (.fin x))) = fun x => match d with | .fin t => !decide (x = t) | _ => true := funext fun x => fin_ne d x
  rw [e]
  cases d with
  | fork t c => exact .inl ⟨t, c, rfl⟩
  | load t s => exact .inr ⟨(List.filter_eq_self.mpr fun _ _ => rfl).symm, _, _, rfl, by decide⟩
  | store t s => exact .inr ⟨(List.filter_eq_self.mpr fun _ _ => rfl).symm, _, _, rfl, by decide⟩
  | fin t => exact .inr ⟨rfl, _, _, rfl, by decide⟩
/-- deeds that can't be done, t one that is there -/
def wrongD (t : Int) : List PyData := [.tuple [.str "load", .int 7, .int 0], .tuple [.str "store", .int 0, .int 0], .tuple [.str "load", .int t, .int 64], .tuple [.str "store", .int t, .int (-1)], .tuple [.str "fork", .int t, .int 1],
  .tuple [.str "fork", .int t, .int t], .tuple [.str "end"], .tuple [.str "load", .int t], .list [.str "end", .int t], .tuple [.str "end", .bool true],
  .tuple [.str "load", .int t, .bool true], .tuple [.str "fork", .int t, .int 7], .tuple [.str "look", .int t, .int 0], .none]
def goneD (g : Int) : List PyData := [.tuple [.str "load", .int g, .int 0], .tuple [.str "end", .int g], .tuple [.str "store", .int g, .int 1]]
theorem deedOk3 (st : BSt) (w : Str) (t x : PyData) : deedOk st (.tuple [.str w, t, x]) = (thereD st t && (if w = "fork" then comeD st x else (decide (w = "load") || decide (w = "store")) && isFrom x 0 63)) := rfl
theorem deedOk2 (st : BSt) (w : Str) (t : PyData) : deedOk st (.tuple [.str w, t]) = (thereD st t && decide (w = "end")) := rfl
theorem come_met {st : BSt} {c : Int} (h : (getA st.met c).isSome = true) : comeD st (.int c) = false := by
  show (isFrom (.int c) 1 6 && !(getA st.met c).isSome) = false
  rw [h]; simp
theorem there_far {st : BSt} {t : Int} (h : ¬ (1 ≤ t ∧ t ≤ 6)) : thereD st (.int t) = false := by
  cases e : thereD st (.int t) with
  | false => rfl
  | true => exact absurd (thereD_in e).1 h
theorem wrong_bad {there : List Int} {n : Nat} {st : BSt} (h : TInv there st) (hs : BOk n st) {t : Int} (ht : t ∈ there) : ∀ d ∈ wrongD t, deedOk st d = false := by
  have hm := hs.mks t ((h.th t).mp ht)
  have c7 : comeD st (.int 7) = false := rfl
  intro d hd
  simp only [wrongD, List.mem_cons, List.not_mem_nil, or_false] at hd
  rcases hd with rfl | rfl | rfl | rfl | rfl | rfl | rfl | rfl | rfl | rfl | rfl | rfl | rfl | rfl
  · rw [deedOk3, there_far (by decide)]; rfl
  · rw [deedOk3, there_far (by decide)]; rfl
  · rw [deedOk3, show isFrom (.int 64) 0 63 = false from rfl, if_neg (by decide), Bool.and_false, Bool.and_false]
  · rw [deedOk3, show isFrom (.int (-1)) 0 63 = false from rfl, if_neg (by decide), Bool.and_false, Bool.and_false]
  · rw [deedOk3, come_met h.m1]; simp
  · rw [deedOk3, come_met hm]; simp
  · rfl
  · rw [deedOk2, decide_eq_false (by decide), Bool.and_false]
  · rfl
  · rw [deedOk2, show thereD st (.bool true) = false from rfl]; rfl
  · rw [deedOk3, show isFrom (.bool true) 0 63 = false from rfl, if_neg (by decide), Bool.and_false, Bool.and_false]
  · rw [deedOk3, c7]; simp
  · rw [deedOk3, if_neg (by decide), decide_eq_false (by decide), decide_eq_false (by decide), Bool.or_false, Bool.false_and, Bool.and_false]
  · rfl
theorem gone_bad {there : List Int} {st : BSt} (h : TInv there st) {g : Int} (hg : g ∉ there) : ∀ d ∈ goneD g, deedOk st d = false := by
  have e : thereD st (.int g) = false := by
    cases e : thereD st (.int g) with
    | false => rfl
    | true => exact absurd ((h.th g).mpr (thereD_in e).2) hg
  intro d hd
  simp only [goneD, List.mem_cons, List.not_mem_nil, or_false] at hd
  rcases hd with rfl | rfl | rfl
  · rw [deedOk3, e]; rfl
  · rw [deedOk2, e]; rfl
  · rw [deedOk3, e]; rfl
end Dx
namespace S
open PySem PySem.Spec PyProof.Rows L2 DL
theorem catT {K : PySem.W.Frag} {F H : Hp} {v w : V} {ds es : List PyData} {Q : VK} (h : Dp K F v (.tuple ds)) (h' : Dp K F w (.tuple es)) (s : Same F H) (hl : ds.length + es.length ≤ 1000000) (q : ∀ u F' H', Gr [] F H F' H' → Dp K F' u (.tuple (ds ++ es)) → Q u H') : rAddU K v w H Q := by
  have h0 := h
  have h0' := h'
  obtain ⟨a, xs, rfl, h1, h2⟩ := dp_tuple h
  obtain ⟨b, ys, rfl, h3, h4⟩ := dp_tuple h'
  have l1 := dp_len h2
  have l2 := dp_len h4
  refine .inr (.inl ⟨a, b, xs, ys, rfl, rfl, same_tup s h1, same_tup s h3, Nat.le_of_lt (Bo.size1000000 (by omega)), fun e => ?_, fun _ e => ?_, fun _ _ p hp => ?_⟩)
  · subst e
    have e2 : ds = [] := List.length_eq_zero_iff.mp (by rw [← l1]; rfl)
    subst e2
    exact q _ F H (Gr.refl s) h0'
  · subst e
    have e2 : es = [] := List.length_eq_zero_iff.mp (by rw [← l2]; rfl)
    subst e2
    exact q _ F H (Gr.refl s) (by rw [List.append_nil]; exact h0)
  · have g : Gr [] F H (upd F p (.tup (xs ++ ys))) (upd H p (.tup (xs ++ ys))) := Gr.new s hp
    exact q _ _ _ g (.tup (.inl (.inl upd_same)) (dp_app (h2.to g.fs) (h4.to g.fs)))
end S

/-! class Pages: what lies in the heap, and how it is changed -/
namespace DL
open PySem PySem.Spec PyProof.Rows L2
theorem Gr.step {W W' : List Addr} {F H F1 H1 F2 H2 : Hp} (a : Gr W F H F1 H1) (b : Gr W' F1 H1 F2 H2) (h : ∀ x ∈ W', x ∈ W ∨ H x = none) : Gr W F H F2 H2 := by
  refine ⟨a.fs.trans b.fs, fun x o n e => b.hs x o (fun z => ?_) (a.hs x o n e), b.sub, fun x f n => b.own x (a.own x f n) (a.live x n), fun x n => b.live x (a.live x n)⟩
  rcases h x z with h | h
  · exact n h
  · rw [h] at e; cases e
end DL
namespace Pg
open PySem PySem.Spec PyProof.Rows L2 DL Bo Fr Lw Dx
structure PSt where
  st : BSt
  fs : FSt
  fg : AL (AL Int)
  ds : List Deed
def pflds (p1 p2 fa pa oa : Addr) : List (Str × V) := [("bodies", .ref p1), ("present", .ref p2), ("figures", .ref fa), ("past", .ref pa), ("on_sheets", .ref oa)]
theorem lk_bodies (p1 p2 fa pa oa : Addr) : (pflds p1 p2 fa pa oa).lookup ("bodies" : Str) = some (.ref p1) := rfl
theorem lk_present (p1 p2 fa pa oa : Addr) : (pflds p1 p2 fa pa oa).lookup ("present" : Str) = some (.ref p2) := rfl
theorem lk_figures (p1 p2 fa pa oa : Addr) : (pflds p1 p2 fa pa oa).lookup ("figures" : Str) = some (.ref fa) := rfl
theorem lk_past (p1 p2 fa pa oa : Addr) : (pflds p1 p2 fa pa oa).lookup ("past" : Str) = some (.ref pa) := rfl
theorem lk_on (p1 p2 fa pa oa : Addr) : (pflds p1 p2 fa pa oa).lookup ("on_sheets" : Str) = some (.ref oa) := rfl
structure PgC (K : PySem.W.Frag) (C : Addr) : Prop where
  cl : Cls K C
  n1 : NoAttr K C "bodies"
  n2 : NoAttr K C "present"
  n3 : NoAttr K C "figures"
  n4 : NoAttr K C "past"
  n5 : NoAttr K C "on_sheets"
structure PP (K : PySem.W.Frag) (C C2 C3 : Addr) (F H : Hp) (pg : Addr) (S : PSt) (p1 p2 fa pa oa : Addr) (T : AL (Addr × AL Int)) (W1 W2 : List Addr) (ps xs : List V) : Prop where
  ob : ∃ dx, H pg = some (.ins C3 dx (pflds p1 p2 fa pa oa))
  bo : BAt C F H p1 S.st W1
  fr : FAt K C2 F H p2 S.fs W2
  tp : TP F H fa T
  fg : sheetsOf T = S.fg
  pl : H pa = some (.lst ps)
  ol : H oa = some (.lst xs)
  dx : DpAll K F xs (S.ds.map deedD)
  pn : ps.length = S.ds.length
  u3 : [pg, pa, oa].Nodup
  f3 : ∀ x ∈ [pg, pa, oa], F x = none
  d1 : ∀ x ∈ [pg, pa, oa], x ∉ fa :: addrsOf T ∧ x ∉ W1 ∧ x ∉ W2
  d2 : ∀ x ∈ fa :: addrsOf T, x ∉ W1 ∧ x ∉ W2
  d3 : ∀ x ∈ W1, x ∉ W2
def allW (pg pa oa fa : Addr) (T : AL (Addr × AL Int)) (W1 W2 : List Addr) : List Addr := [pg, pa, oa] ++ ((fa :: addrsOf T) ++ (W1 ++ W2))
def PgAt (K : PySem.W.Frag) (C C2 C3 : Addr) (F H : Hp) (pg : Addr) (S : PSt) (W : List Addr) : Prop := ∃ p1 p2 fa pa oa T W1 W2 ps xs, W = allW pg pa oa fa T W1 W2 ∧ PP K C C2 C3 F H pg S p1 p2 fa pa oa T W1 W2 ps xs
theorem mem_all {pg pa oa fa : Addr} {T : AL (Addr × AL Int)} {W1 W2 : List Addr} {x : Addr} : x ∈ allW pg pa oa fa T W1 W2 ↔ x ∈ [pg, pa, oa] ∨ x ∈ fa :: addrsOf T ∨ x ∈ W1 ∨ x ∈ W2 := by
  unfold allW
  rw [List.mem_append, List.mem_append, List.mem_append]
section
variable {K : PySem.W.Frag} {C C2 C3 : Addr} {F H : Hp} {pg : Addr} {S : PSt} {p1 p2 fa pa oa : Addr} {T : AL (Addr × AL Int)} {W1 W2 : List Addr} {ps xs : List V}
theorem PP.live (h : PP K C C2 C3 F H pg S p1 p2 fa pa oa T W1 W2 ps xs) : ∀ x ∈ allW pg pa oa fa T W1 W2, H x ≠ none := fun x hx => by
  rcases mem_all.mp hx with hx | hx | hx | hx
  · simp only [List.mem_cons, List.not_mem_nil, or_false] at hx
    rcases hx with rfl | rfl | rfl
    · obtain ⟨dx, e⟩ := h.ob
      rw [e]; exact fun z => nomatch z
    · rw [h.pl]; exact fun z => nomatch z
    · rw [h.ol]; exact fun z => nomatch z
  · exact h.tp.live x hx
  · exact h.bo.live x hx
  · exact h.fr.live x hx
theorem _root_.Fr.FAt.off {p : Addr} {st : FSt} {W : List Addr} (h : FAt K C F H p st W) : ∀ x ∈ W, F x = none := by
  obtain ⟨v, r, m, rfl, P⟩ := h
  exact P.off
theorem PP.off (h : PP K C C2 C3 F H pg S p1 p2 fa pa oa T W1 W2 ps xs) : ∀ x ∈ allW pg pa oa fa T W1 W2, F x = none := fun x hx => by
  rcases mem_all.mp hx with hx | hx | hx | hx
  · exact h.f3 x hx
  · exact h.tp.off x hx
  · exact h.bo.off x hx
  · exact h.fr.off x hx
/-- the own things stand, the parts are told anew -/
theorem PP.set (h : PP K C C2 C3 F H pg S p1 p2 fa pa oa T W1 W2 ps xs) {F' H' : Hp} {S' : PSt} {T' : AL (Addr × AL Int)} {W1' W2' : List Addr} {ps' xs' : List V} {V : List Addr} (g : Gr V F H F' H')
    (ob : ∃ dx, H' pg = some (.ins C3 dx (pflds p1 p2 fa pa oa))) (bo : BAt C F' H' p1 S'.st W1') (fr : FAt K C2 F' H' p2 S'.fs W2') (tp : TP F' H' fa T') (fg : sheetsOf T' = S'.fg) (pl : H' pa = some (.lst ps')) (ol : H' oa = some (.lst xs')) (dx : DpAll K F' xs' (S'.ds.map deedD)) (pn : ps'.length = S'.ds.length)
    (n1 : ∀ x ∈ W1', x ∈ W1 ∨ H x = none) (n2 : ∀ x ∈ W2', x ∈ W2 ∨ H x = none) (nT : ∀ x ∈ fa :: addrsOf T', x ∈ fa :: addrsOf T ∨ (H x = none ∧ x ∉ W1' ∧ x ∉ W2')) (n12 : ∀ x ∈ W1', x ∉ W2' ∨ x ∈ W1) (n21 : ∀ x ∈ W2', x ∉ W1' ∨ x ∈ W2) : PP K C C2 C3 F' H' pg S' p1 p2 fa pa oa T' W1' W2' ps' xs' := by
  have lv := h.live
  have h3 : ∀ x ∈ [pg, pa, oa], H x ≠ none := fun x hx => lv x (mem_all.mpr (.inl hx))
  have hT : ∀ x ∈ fa :: addrsOf T, H x ≠ none := h.tp.live
  have h1 : ∀ x ∈ W1, H x ≠ none := h.bo.live
  have h2 : ∀ x ∈ W2, H x ≠ none := h.fr.live
  refine ⟨ob, bo, fr, tp, fg, pl, ol, dx, pn, h.u3, fun x hx => g.own x (h.f3 x hx) (h3 x hx), fun x hx => ⟨fun z => ?_, fun z => ?_, fun z => ?_⟩, fun x hx => ⟨fun z => ?_, fun z => ?_⟩, fun x hx z => ?_⟩
  · rcases nT x z with q | q
    · exact (h.d1 x hx).1 q
    · exact h3 x hx q.1
  · rcases n1 x z with q | q
    · exact (h.d1 x hx).2.1 q
    · exact h3 x hx q
  · rcases n2 x z with q | q
    · exact (h.d1 x hx).2.2 q
    · exact h3 x hx q
  · rcases nT x hx with q | q
    · rcases n1 x z with y | y
      · exact (h.d2 x q).1 y
      · exact hT x q y
    · exact q.2.1 z
  · rcases nT x hx with q | q
    · rcases n2 x z with y | y
      · exact (h.d2 x q).2 y
      · exact hT x q y
    · exact q.2.2 z
  · rcases n12 x hx with q | q
    · exact q z
    · rcases n21 x z with y | y
      · exact y hx
      · exact h.d3 x q y
theorem PP.keep3 (h : PP K C C2 C3 F H pg S p1 p2 fa pa oa T W1 W2 ps xs) {F' H' : Hp} {V : List Addr} (g : Gr V F H F' H') (n : ∀ x ∈ [pg, pa, oa], x ∉ V) : (∃ dx, H' pg = some (.ins C3 dx (pflds p1 p2 fa pa oa))) ∧ H' pa = some (.lst ps) ∧ H' oa = some (.lst xs) := by
  obtain ⟨dx, e⟩ := h.ob
  exact ⟨⟨dx, g.at (n pg (by simp)) e⟩, g.at (n pa (by simp)) h.pl, g.at (n oa (by simp)) h.ol⟩
theorem PP.gr (h : PP K C C2 C3 F H pg S p1 p2 fa pa oa T W1 W2 ps xs) {F' H' : Hp} {V : List Addr} (g : Gr V F H F' H') (n : ∀ x ∈ allW pg pa oa fa T W1 W2, x ∉ V) : PP K C C2 C3 F' H' pg S p1 p2 fa pa oa T W1 W2 ps xs := by
  obtain ⟨a, b, c⟩ := h.keep3 g fun x hx => n x (mem_all.mpr (.inl hx))
  exact h.set g a (h.bo.gr g fun x hx => n x (mem_all.mpr (.inr (.inr (.inl hx))))) (h.fr.gr g fun x hx => n x (mem_all.mpr (.inr (.inr (.inr hx))))) (h.tp.gr g fun x hx => n x (mem_all.mpr (.inr (.inl hx)))) h.fg b c (h.dx.to g.fs) h.pn
    (fun x hx => .inl hx) (fun x hx => .inl hx) (fun x hx => .inl hx) (fun x hx => .inr hx) (fun x hx => .inr hx)
theorem PP.gr0 (h : PP K C C2 C3 F H pg S p1 p2 fa pa oa T W1 W2 ps xs) {F' H' : Hp} (g : Gr [] F H F' H') : PP K C C2 C3 F' H' pg S p1 p2 fa pa oa T W1 W2 ps xs := h.gr g fun _ _ z => nomatch z
theorem PP.setB (h : PP K C C2 C3 F H pg S p1 p2 fa pa oa T W1 W2 ps xs) {F' H' : Hp} {st' : BSt} {W1' : List Addr} (g : Gr W1 F H F' H') (bo : BAt C F' H' p1 st' W1') (n : ∀ b ∈ W1', b ∈ W1 ∨ H b = none) : PP K C C2 C3 F' H' pg { S with st := st' } p1 p2 fa pa oa T W1' W2 ps xs := by
  obtain ⟨a, b, c⟩ := h.keep3 g fun x hx => (h.d1 x hx).2.1
  refine h.set g a bo (h.fr.gr g fun x hx z => h.d3 x z hx) (h.tp.gr g fun x hx => (h.d2 x hx).1) h.fg b c (h.dx.to g.fs) h.pn n (fun x hx => .inl hx) (fun x hx => .inl hx) (fun x hx => ?_) (fun x hx => .inr hx)
  rcases n x hx with q | q
  · exact .inr q
  · exact .inl fun z => h.fr.live x z q
theorem PP.setF (h : PP K C C2 C3 F H pg S p1 p2 fa pa oa T W1 W2 ps xs) {F' H' : Hp} {fs' : FSt} (g : Gr W2 F H F' H') (fr : FAt K C2 F' H' p2 fs' W2) : PP K C C2 C3 F' H' pg { S with fs := fs' } p1 p2 fa pa oa T W1 W2 ps xs := by
  obtain ⟨a, b, c⟩ := h.keep3 g fun x hx => (h.d1 x hx).2.2
  exact h.set g a (h.bo.gr g fun x hx => h.d3 x hx) fr (h.tp.gr g fun x hx => (h.d2 x hx).2) h.fg b c (h.dx.to g.fs) h.pn (fun x hx => .inl hx) (fun x hx => .inl hx) (fun x hx => .inl hx) (fun x hx => .inr hx) (fun x hx => .inr hx)
theorem same_off {F H : Hp} {q : Addr} {o : HO} (s : Same F H) (fq : F q = none) : Same F (upd H q o) := same_upd_self s fq
theorem gr_put {F H : Hp} {q : Addr} {o : HO} (s : Same F H) (fq : F q = none) : Gr [q] F H F (upd H q o) := Gr.write s fq (by simp)
/-- the two lists grow -/
theorem PP.wPast (h : PP K C C2 C3 F H pg S p1 p2 fa pa oa T W1 W2 ps xs) (sm : Same F H) {c d : V} {dd : Deed} (hd : Dp K F d (deedD dd)) :
    PP K C C2 C3 F (upd (upd H pa (.lst (ps ++ [c]))) oa (.lst (xs ++ [d]))) pg { S with ds := S.ds ++ [dd] } p1 p2 fa pa oa T W1 W2 (ps ++ [c]) (xs ++ [d]) := by
  have u3 := h.u3
  simp only [List.nodup_cons, List.mem_cons, List.not_mem_nil, or_false, not_or] at u3
  obtain ⟨⟨e1, e2⟩, e3, _⟩ := u3
  have fp : F pa = none := h.f3 pa (by simp)
  have fo : F oa = none := h.f3 oa (by simp)
  have g1 : Gr [pa, oa] F H F (upd H pa (.lst (ps ++ [c]))) := Gr.write sm fp (by simp)
  have g2 : Gr [pa, oa] F H F (upd (upd H pa (.lst (ps ++ [c]))) oa (.lst (xs ++ [d]))) := g1.put (q := oa) (by simp) fo
  have dj : ∀ x, x ∈ [pa, oa] → x ∈ [pg, pa, oa] := fun x hx => by simp at hx ⊢; rcases hx with h | h <;> simp [h]
  refine h.set g2 ?_ (h.bo.gr g2 fun x hx z => (h.d1 x (dj x z)).2.1 hx) (h.fr.gr g2 fun x hx z => (h.d1 x (dj x z)).2.2 hx) (h.tp.gr g2 fun x hx z => (h.d1 x (dj x z)).1 hx) h.fg ?_ upd_same ?_ (by simp [h.pn]) (fun x hx => .inl hx) (fun x hx => .inl hx) (fun x hx => .inl hx) (fun x hx => .inr hx) (fun x hx => .inr hx)
  · obtain ⟨dx, e⟩ := h.ob
    exact ⟨dx, by rw [upd_ne e2, upd_ne e1]; exact e⟩
  · rw [upd_ne e3, upd_same]
  · show DpAll K F (xs ++ [d]) ((S.ds ++ [dd]).map deedD)
    rw [List.map_append]
    exact dp_app h.dx (.cons hd .nil)
/-- the figures changed: x is the dict of dicts, or one of them, or a new one -/
theorem PP.wTab (h : PP K C C2 C3 F H pg S p1 p2 fa pa oa T W1 W2 ps xs) (sm : Same F H) {x : Addr} {o : HO} {T' : AL (Addr × AL Int)} (hx : x ∈ fa :: addrsOf T) (tp : TP F (upd H x o) fa T') (nT : ∀ y ∈ fa :: addrsOf T', y ∈ fa :: addrsOf T ∨ (y ∉ [pg, pa, oa] ∧ y ∉ W1 ∧ y ∉ W2)) :
    PP K C C2 C3 F (upd H x o) pg { S with fg := sheetsOf T' } p1 p2 fa pa oa T' W1 W2 ps xs := by
  have fx := h.tp.off x hx
  have g : Gr [x] F H F (upd H x o) := gr_put sm fx
  obtain ⟨a, b, c⟩ := h.keep3 g fun y hy z => (h.d1 y hy).1 (by rw [List.mem_singleton.mp z]; exact hx)
  have bo := h.bo.gr g fun y hy z => (h.d2 x hx).1 (by rw [← List.mem_singleton.mp z]; exact hy)
  have fr := h.fr.gr g fun y hy z => (h.d2 x hx).2 (by rw [← List.mem_singleton.mp z]; exact hy)
  refine ⟨a, bo, fr, tp, rfl, b, c, h.dx, h.pn, h.u3, h.f3, fun y hy => ⟨fun z => ?_, (h.d1 y hy).2⟩, fun y hy => ?_, h.d3⟩
  · rcases nT y z with q | q
    · exact (h.d1 y hy).1 q
    · exact q.1 hy
  · rcases nT y hy with q | q
    · exact h.d2 y q
    · exact q.2
end
/-- the object changed from W to W' -/
def PGo (K : PySem.W.Frag) (C C2 C3 : Addr) (F H : Hp) (pg : Addr) (W : List Addr) (S' : PSt) (F' H' : Hp) : Prop := Gr W F H F' H' ∧ ∃ W', PgAt K C C2 C3 F' H' pg S' W' ∧ ∀ b ∈ W', b ∈ W ∨ H b = none
theorem PGo.trans {K : PySem.W.Frag} {C C2 C3 : Addr} {F H F1 H1 F2 H2 : Hp} {pg : Addr} {W : List Addr} {S1 S2 : PSt} (a : PGo K C C2 C3 F H pg W S1 F1 H1) (b : ∀ W1, PgAt K C C2 C3 F1 H1 pg S1 W1 → PGo K C C2 C3 F1 H1 pg W1 S2 F2 H2) : PGo K C C2 C3 F H pg W S2 F2 H2 := by
  obtain ⟨g, W1, p, n⟩ := a
  obtain ⟨g2, W2, p2, n2⟩ := b W1 p
  refine ⟨g.step g2 n, W2, p2, fun x hx => ?_⟩
  rcases n2 x hx with h | h
  · exact n x h
  · exact .inr (g.free h)
end Pg

/-! plain: the figures behind the bodies are one flat memory for each task -/
namespace Pg
open PySem PySem.Spec PyProof.Rows L2 DL Bo Fr Lw Dx
def rowOf (fg : AL (AL Int)) (b : Int) : AL Int := (getA fg b).getD []
def figOf (fg : AL (AL Int)) (b p : Int) : Int := (getA (rowOf fg b) p).getD 0
/-- the figure of a cell -/
def valP (st : BSt) (fg : AL (AL Int)) (t a : Int) : Int := match bodyOf st t (a / 64) with
  | none => 0
  | some b => figOf fg b (a % 64)
inductive PCall where
  | load (t a : Int) | store (t a f : Int) | fork (t c : Int) | fin (t : Int)
def deedOf : PCall → Deed
  | .load t a => .load t (a / 64)
  | .store t a _ => .store t (a / 64)
  | .fork t c => .fork t c
  | .fin t => .fin t
def evB : Ev → Int
  | .look b => b
  | .make b => b
  | .gone b => b
/-- a store makes a new body -/
def isNew (st : BSt) (t s : Int) : Bool := match bodyOf st t s with
  | none => true
  | some b => decide (1 < cnt st b)
def nowB (st : BSt) (t s : Int) : Int := if isNew st t s then st.next else (bodyOf st t s).getD 0
/-- the row that a store begins with -/
def oldRow (st : BSt) (fg : AL (AL Int)) (t s : Int) : AL Int := match bodyOf st t s with
  | none => []
  | some b => rowOf fg b
def putRow (row : AL Int) (p f : Int) : AL Int := if f = 0 then dropA row p else putA row p f
def figMid (st : BSt) (fg : AL (AL Int)) (t s : Int) : AL (AL Int) := if isNew st t s then putA fg st.next (oldRow st fg t s) else fg
def figStore (st : BSt) (fg : AL (AL Int)) (t a f : Int) : AL (AL Int) := putA (figMid st fg t (a / 64)) (nowB st t (a / 64)) (putRow (oldRow st fg t (a / 64)) (a % 64) f)
def figFin (fg : AL (AL Int)) (es : List Ev) : AL (AL Int) := es.foldl (fun fg e => dropA fg (evB e)) fg
def figStep (st : BSt) (fg : AL (AL Int)) : PCall → AL (AL Int)
  | .load _ _ => fg
  | .store t a f => figStore st fg t a f
  | .fork _ _ => fg
  | .fin t => figFin fg (endE st t).1
structure PInv (st : BSt) (fg : AL (AL Int)) : Prop where
  kf : (keysA fg).Nodup
  fi : ∀ b, (getA fg b).isSome = true ↔ ∃ t s, bodyOf st t s = some b
  nk : ∀ p ∈ fg, (keysA p.2).Nodup
  rg : ∀ p ∈ fg, ∀ c ∈ p.2, (0 ≤ c.1 ∧ c.1 < 64) ∧ c.2 ≠ 0
  us : ∀ t t' s s' b, bodyOf st t s = some b → bodyOf st t' s' = some b → s = s'
/-! ### who has a body -/
theorem having_mem {sh : AL (AL Int)} {b t s : Int} : (t, s) ∈ havingP sh b ↔ getA ((getA sh t).getD []) s = some b := by
  unfold havingP rowP
  rw [List.mem_flatMap]
  constructor
  · rintro ⟨t', ht, hx⟩
    obtain ⟨s', hs, e⟩ := List.mem_map.mp hx
    cases e
    simpa using (List.mem_filter.mp hs).2
  · intro h
    refine ⟨t, (sortI_perm _).mem_iff.mpr ?_, List.mem_map.mpr ⟨s, List.mem_filter.mpr ⟨(sortI_perm _).mem_iff.mpr ?_, by simpa using h⟩, rfl⟩⟩
    · by_cases e : t ∈ keysA sh
      · exact e
      · rw [getA_none.mpr e] at h
        cases h
    · by_cases e : s ∈ keysA ((getA sh t).getD [])
      · exact e
      · rw [getA_none.mpr e] at h
        cases h
theorem havingP_len {n : Nat} {st : BSt} (h : BOk n st) (b : Int) : (havingP st.sheets b).length = occ st.sheets b := by
  rw [← having_len h.nds h.ndr, having_P, List.length_map]
theorem cnt_is {n : Nat} {st : BSt} (h : BOk n st) (b : Int) : cnt st b = (occ st.sheets b : Int) := cnt_occ h b
theorem one_only {n : Nat} {st : BSt} (h : BOk n st) {b t t' s s' : Int} (h1 : occ st.sheets b ≤ 1) (a : bodyOf st t s = some b) (c : bodyOf st t' s' = some b) : t = t' ∧ s = s' := by
  have m1 := having_mem.mpr a
  have m2 := having_mem.mpr c
  have l := havingP_len h b
  match e : havingP st.sheets b with
  | [] => rw [e] at m1; cases m1
  | [x] =>
    rw [e] at m1 m2
    have q1 := List.mem_singleton.mp m1
    have q2 := List.mem_singleton.mp m2
    rw [← q2] at q1
    exact ⟨congrArg Prod.fst q1, congrArg Prod.snd q1⟩
  | x :: y :: r => rw [e] at l; simp at l; omega
theorem other_has {n : Nat} {st : BSt} (h : BOk n st) {b t s : Int} (h1 : 2 ≤ occ st.sheets b) : ∃ t' s', bodyOf st t' s' = some b ∧ ¬ (t' = t ∧ s' = s) := by
  have l := havingP_len h b
  have nd : (havingP st.sheets b).Nodup := by
    have p := found_perm (b := b) h.nds h.ndr
    have a := having_sorted (b := b) h.nds h.ndr
    have nf : ((havingP st.sheets b).Pairwise fun x y => x.1 < y.1 ∨ (x.1 = y.1 ∧ x.2 < y.2)) := by
      unfold havingP
      refine List.pairwise_flatMap.mpr ⟨fun t ht => ?_, (sortI_lt h.nds).imp fun {t u} z => fun x hx y hy => ?_⟩
      · unfold rowP
        refine List.pairwise_map.mpr (List.Pairwise.imp (fun {a c} z => Or.inr ⟨rfl, z⟩) ((sortI_lt ?_).filter _))
        cases q : getA st.sheets t with
        | none => exact List.nodup_nil
        | some row => exact h.ndr _ (getA_mem q)
      · unfold rowP at hx hy
        obtain ⟨a, _, rfl⟩ := List.mem_map.mp hx
        obtain ⟨c, _, rfl⟩ := List.mem_map.mp hy
        exact .inl z
    exact nf.imp fun {x y} z e => by rw [e] at z; omega
  match e : havingP st.sheets b with
  | [] => rw [e] at l; simp at l; omega
  | [x] => rw [e] at l; simp at l; omega
  | x :: y :: r =>
    rw [e] at nd
    have nxy : x ≠ y := fun z => (List.nodup_cons.mp nd).1 (by rw [z]; exact List.mem_cons_self)
    have mx : bodyOf st x.1 x.2 = some b := having_mem.mp (by rw [e]; exact List.mem_cons_self)
    have my : bodyOf st y.1 y.2 = some b := having_mem.mp (by rw [e]; exact List.mem_cons_of_mem _ List.mem_cons_self)
    by_cases q : x.1 = t ∧ x.2 = s
    · exact ⟨y.1, y.2, my, fun z => nxy (Prod.ext (q.1.trans z.1.symm) (q.2.trans z.2.symm))⟩
    · exact ⟨x.1, x.2, mx, q⟩
theorem has_occ {n : Nat} {st : BSt} (h : BOk n st) {b t s : Int} (a : bodyOf st t s = some b) : occ st.sheets b ≠ 0 := fun e => by
  have l := havingP_len h b
  rw [e] at l
  have := having_mem.mpr a
  rw [List.length_eq_zero_iff.mp l] at this
  cases this
theorem new_free {n : Nat} {st : BSt} (h : BOk n st) {b t s : Int} (a : bodyOf st t s = some b) : b ≠ st.next := fun e => by
  have := (h.lt b (has_occ h a)).2
  omega
/-! ### a store -/
theorem body_with {st : BSt} {t s t' s' : Int} (sh : AL Int) : bodyOf (withBody { st with shares := sh } t s) t' s' = if t' = t ∧ s' = s then some st.next else bodyOf st t' s' := by
  show getA ((getA (putA st.sheets t (putA ((getA st.sheets t).getD []) s st.next)) t').getD []) s' = _
  rw [getA_putA]
  by_cases e : t' = t
  · subst e
    rw [if_pos rfl, Option.getD_some, getA_putA]
    by_cases e2 : s' = s
    · rw [if_pos e2, if_pos ⟨rfl, e2⟩]
    · rw [if_neg e2, if_neg fun z => e2 z.2]; rfl
  · rw [if_neg e, if_neg fun z => e z.1]; rfl
theorem body_store {st : BSt} {t s t' s' : Int} : bodyOf (storeE st t s).2 t' s' = if t' = t ∧ s' = s then some (nowB st t s) else bodyOf st t' s' := by
  unfold nowB isNew storeE
  cases q : bodyOf st t s with
  | none => exact body_with st.shares
  | some b =>
    dsimp only
    by_cases e : 1 < cnt st b
    · rw [if_pos e]
      have hd : (if decide (1 < cnt st b) = true then st.next else b) = st.next := if_pos (decide_eq_true e)
      show bodyOf (withBody { st with shares := _ } t s) t' s' = if t' = t ∧ s' = s then some (if decide (1 < cnt st b) = true then st.next else b) else bodyOf st t' s'
      rw [hd]
      exact body_with _
    · rw [if_neg e]
      have hd : (if decide (1 < cnt st b) = true then st.next else b) = b := if_neg fun z => e (of_decide_eq_true z)
      show bodyOf st t' s' = if t' = t ∧ s' = s then some (if decide (1 < cnt st b) = true then st.next else b) else bodyOf st t' s'
      rw [hd]
      by_cases c : t' = t ∧ s' = s
      · rw [if_pos c, c.1, c.2]; exact q
      · rw [if_neg c]
/-- no other sheet has the body behind a store -/
theorem now_alone {n : Nat} {st : BSt} (h : BOk n st) {t s t' s' : Int} (c : ¬ (t' = t ∧ s' = s)) : bodyOf st t' s' ≠ some (nowB st t s) := fun e => by
  unfold nowB at e
  by_cases q : isNew st t s = true
  · rw [if_pos q] at e
    exact new_free h e rfl
  · rw [if_neg q] at e
    unfold isNew at q
    cases qb : bodyOf st t s with
    | none => rw [qb] at q; exact q rfl
    | some b =>
      rw [qb] at q e
      rw [Option.getD_some] at e
      dsimp only at q
      have q2 : ¬ 1 < cnt st b := fun z => q (decide_eq_true z)
      rw [cnt_is h] at q2
      obtain ⟨e1, e2⟩ := one_only h (by omega) e qb
      exact c ⟨e1, e2⟩
theorem row_in {fg : AL (AL Int)} {b : Int} : rowOf fg b = [] ∨ (b, rowOf fg b) ∈ fg := by
  unfold rowOf
  cases q : getA fg b with
  | none => exact .inl rfl
  | some r => exact .inr (getA_mem q)
theorem PInv.row {st : BSt} {fg : AL (AL Int)} (h : PInv st fg) (b : Int) : (keysA (rowOf fg b)).Nodup ∧ ∀ c ∈ rowOf fg b, (0 ≤ c.1 ∧ c.1 < 64) ∧ c.2 ≠ 0 := by
  rcases row_in (fg := fg) (b := b) with e | e
  · rw [e]; exact ⟨List.nodup_nil, fun _ h => by cases h⟩
  · exact ⟨h.nk _ e, h.rg _ e⟩
theorem PInv.old {st : BSt} {fg : AL (AL Int)} (h : PInv st fg) (t s : Int) : (keysA (oldRow st fg t s)).Nodup ∧ ∀ c ∈ oldRow st fg t s, (0 ≤ c.1 ∧ c.1 < 64) ∧ c.2 ≠ 0 := by
  unfold oldRow
  cases q : bodyOf st t s with
  | none => exact ⟨List.nodup_nil, fun _ h => by cases h⟩
  | some b => exact h.row b
theorem putRow_get (row : AL Int) (p f p' : Int) : (getA (putRow row p f) p').getD 0 = if p' = p then f else (getA row p').getD 0 := by
  unfold putRow
  by_cases e : f = 0
  · rw [if_pos e, getA_dropA]
    by_cases c : p' = p
    · rw [if_pos c, if_pos c, e]; rfl
    · rw [if_neg c, if_neg c]
  · rw [if_neg e, getA_putA]
    by_cases c : p' = p
    · rw [if_pos c, if_pos c]; rfl
    · rw [if_neg c, if_neg c]
theorem putRow_nd {row : AL Int} (h : (keysA row).Nodup) (p f : Int) : (keysA (putRow row p f)).Nodup := by
  unfold putRow
  split
  · exact nodup_dropA h p
  · exact nodup_putA h p f
theorem putRow_rg {row : AL Int} (h : ∀ c ∈ row, (0 ≤ c.1 ∧ c.1 < 64) ∧ c.2 ≠ 0) {p f : Int} (hp : 0 ≤ p ∧ p < 64) : ∀ c ∈ putRow row p f, (0 ≤ c.1 ∧ c.1 < 64) ∧ c.2 ≠ 0 := fun c hc => by
  unfold putRow at hc
  split at hc
  · exact h c (List.mem_filter.mp hc).1
  · rename_i e
    rcases mem_putA hc with hc | rfl
    · exact h c hc
    · exact ⟨hp, e⟩
theorem getA_mid {st : BSt} {fg : AL (AL Int)} {t s b : Int} : getA (figMid st fg t s) b = if isNew st t s = true ∧ b = st.next then some (oldRow st fg t s) else getA fg b := by
  unfold figMid
  by_cases e : isNew st t s = true
  · rw [if_pos e, getA_putA]
    by_cases c : b = st.next
    · rw [if_pos c, if_pos ⟨e, c⟩]
    · rw [if_neg c, if_neg fun z => c z.2]
  · rw [if_neg e, if_neg fun z => e z.1]
theorem getA_store {st : BSt} {fg : AL (AL Int)} {t a f b : Int} : getA (figStore st fg t a f) b = if b = nowB st t (a / 64) then some (putRow (oldRow st fg t (a / 64)) (a % 64) f) else getA fg b := by
  unfold figStore
  rw [getA_putA]
  by_cases c : b = nowB st t (a / 64)
  · rw [if_pos c, if_pos c]
  · rw [if_neg c, if_neg c, getA_mid, if_neg fun z => c ?_]
    rw [z.2]
    unfold nowB
    rw [if_pos z.1]
theorem mid_row {st : BSt} {fg : AL (AL Int)} (h : PInv st fg) (t s : Int) : getA (figMid st fg t s) (nowB st t s) = some (oldRow st fg t s) := by
  rw [getA_mid]
  by_cases e : isNew st t s = true
  · rw [if_pos ⟨e, by unfold nowB; rw [if_pos e]⟩]
  · rw [if_neg fun z => e z.1]
    unfold nowB oldRow
    rw [if_neg e]
    unfold isNew at e
    cases q : bodyOf st t s with
    | none => rw [q] at e; exact absurd rfl e
    | some b =>
      rw [Option.getD_some]
      have := (h.fi b).mpr ⟨t, s, q⟩
      unfold rowOf
      cases z : getA fg b with
      | none => rw [z] at this; cases this
      | some r =>
        show some r = some ((getA fg b).getD [])
        rw [z]
        rfl
theorem PInv.store {n : Nat} {st : BSt} {fg : AL (AL Int)} (h : PInv st fg) (hs : BOk n st) {t a : Int} (f : Int) : PInv (storeE st t (a / 64)).2 (figStore st fg t a f) := by
  have hp : 0 ≤ a % 64 ∧ a % 64 < 64 := ⟨Int.emod_nonneg _ (by decide), Int.emod_lt_of_pos _ (by decide)⟩
  have o := h.old t (a / 64)
  have mem : ∀ p ∈ figStore st fg t a f, p ∈ fg ∨ (keysA p.2).Nodup ∧ (∀ c ∈ p.2, (0 ≤ c.1 ∧ c.1 < 64) ∧ c.2 ≠ 0) := fun p hp' => by
    unfold figStore figMid at hp'
    rcases mem_putA hp' with q | q
    · split at q
      · rcases mem_putA q with q | q
        · exact .inl q
        · rw [q]; exact .inr o
      · exact .inl q
    · rw [q]; exact .inr ⟨putRow_nd o.1 _ _, putRow_rg o.2 hp⟩
  refine ⟨?_, fun b => ?_, fun p hp' => ?_, fun p hp' => ?_, fun t1 t2 s1 s2 b e1 e2 => ?_⟩
  · unfold figStore figMid
    refine nodup_putA ?_ _ _
    split
    · exact nodup_putA h.kf _ _
    · exact h.kf
  · rw [getA_store]
    by_cases c : b = nowB st t (a / 64)
    · rw [if_pos c]
      exact ⟨fun _ => ⟨t, a / 64, by rw [body_store, if_pos ⟨rfl, rfl⟩, c]⟩, fun _ => rfl⟩
    · rw [if_neg c, h.fi b]
      constructor
      · rintro ⟨t', s', e⟩
        by_cases d : t' = t ∧ s' = a / 64
        · -- the sheet's body was another: a new one is there, and others have the old one
          obtain ⟨rfl, rfl⟩ := d
          have hn : isNew st t' (a / 64) = true := by
            by_cases q : isNew st t' (a / 64) = true
            · exact q
            · exact absurd (by unfold nowB; rw [if_neg q, e]; rfl) c
          unfold isNew at hn
          rw [e] at hn
          have h2 : 1 < cnt st b := of_decide_eq_true hn
          rw [cnt_is hs] at h2
          obtain ⟨t2, s2, e2, n2⟩ := other_has hs (t := t') (s := a / 64) (b := b) (by omega)
          exact ⟨t2, s2, by rw [body_store, if_neg n2]; exact e2⟩
        · exact ⟨t', s', by rw [body_store, if_neg d]; exact e⟩
      · rintro ⟨t', s', e⟩
        rw [body_store] at e
        by_cases d : t' = t ∧ s' = a / 64
        · rw [if_pos d] at e
          exact absurd (Option.some.inj e).symm c
        · rw [if_neg d] at e
          exact ⟨t', s', e⟩
  · rcases mem p hp' with q | q
    · exact h.nk p q
    · exact q.1
  · rcases mem p hp' with q | q
    · exact h.rg p q
    · exact q.2
  · rw [body_store] at e1 e2
    by_cases d1 : t1 = t ∧ s1 = a / 64
    · by_cases d2 : t2 = t ∧ s2 = a / 64
      · rw [d1.2, d2.2]
      · rw [if_pos d1] at e1
        rw [if_neg d2] at e2
        rw [← Option.some.inj e1] at e2
        exact absurd e2 (now_alone hs d2)
    · rw [if_neg d1] at e1
      by_cases d2 : t2 = t ∧ s2 = a / 64
      · rw [if_pos d2] at e2
        rw [← Option.some.inj e2] at e1
        exact absurd e1 (now_alone hs d1)
      · rw [if_neg d2] at e2
        exact h.us _ _ _ _ _ e1 e2
theorem val_store {n : Nat} {st : BSt} {fg : AL (AL Int)} (h : PInv st fg) (hs : BOk n st) (t a f t' a' : Int) : valP (storeE st t (a / 64)).2 (figStore st fg t a f) t' a' = if t' = t ∧ a' = a then f else valP st fg t' a' := by
  unfold valP
  rw [body_store]
  by_cases d : t' = t ∧ a' / 64 = a / 64
  · rw [if_pos d]
    dsimp only
    unfold figOf
    have e1 : rowOf (figStore st fg t a f) (nowB st t (a / 64)) = putRow (oldRow st fg t (a / 64)) (a % 64) f := by
      unfold rowOf
      rw [getA_store, if_pos rfl]; rfl
    rw [e1, putRow_get]
    by_cases c : a' % 64 = a % 64
    · rw [if_pos c, if_pos ⟨d.1, by omega⟩]
    · rw [if_neg c, if_neg fun z => c (by rw [z.2]), d.1, d.2]
      unfold oldRow
      cases q : bodyOf st t (a / 64) with
      | none => rfl
      | some b => rfl
  · rw [if_neg d, if_neg fun z => d ⟨z.1, by rw [z.2]⟩]
    cases q : bodyOf st t' (a' / 64) with
    | none => rfl
    | some b =>
      dsimp only
      unfold figOf rowOf
      rw [getA_store, if_neg fun z => now_alone hs d (by rw [← z]; exact q)]
/-! ### a fork -/
theorem body_fork {st : BSt} {t c t' s' : Int} : bodyOf (forkS st t c) t' s' = if t' = c then bodyOf st t s' else bodyOf st t' s' := by
  show getA ((getA (putA st.sheets c ((getA st.sheets t).getD [])) t').getD []) s' = _
  rw [getA_putA]
  by_cases e : t' = c
  · rw [if_pos e, if_pos e]; rfl
  · rw [if_neg e, if_neg e]; rfl
theorem PInv.fork {st : BSt} {fg : AL (AL Int)} (h : PInv st fg) {t c : Int} (hc : getA st.sheets c = none) : PInv (forkS st t c) fg := by
  have hn : ∀ s, bodyOf st c s = none := fun s => by unfold bodyOf; rw [hc]; rfl
  refine ⟨h.kf, fun b => ?_, h.nk, h.rg, fun t1 t2 s1 s2 b e1 e2 => ?_⟩
  · rw [h.fi b]
    constructor
    · rintro ⟨t', s', e⟩
      refine ⟨t', s', ?_⟩
      rw [body_fork]
      by_cases d : t' = c
      · rw [d, hn] at e; cases e
      · rw [if_neg d]; exact e
    · rintro ⟨t', s', e⟩
      rw [body_fork] at e
      by_cases d : t' = c
      · rw [if_pos d] at e; exact ⟨t, s', e⟩
      · rw [if_neg d] at e; exact ⟨t', s', e⟩
  · rw [body_fork] at e1 e2
    split at e1 <;> split at e2 <;> exact h.us _ _ _ _ _ e1 e2
theorem val_fork (st : BSt) (fg : AL (AL Int)) (t c t' a' : Int) : valP (forkS st t c) fg t' a' = if t' = c then valP st fg t a' else valP st fg t' a' := by
  unfold valP
  rw [body_fork]
  by_cases d : t' = c
  · rw [if_pos d, if_pos d]
  · rw [if_neg d, if_neg d]
/-! ### an end -/
theorem body_end {st : BSt} {t t' s' : Int} : bodyOf (endE st t).2 t' s' = if t' = t then none else bodyOf st t' s' := by
  show getA ((getA (dropA st.sheets t) t').getD []) s' = _
  rw [getA_dropA]
  by_cases e : t' = t
  · rw [if_pos e, if_pos e]; rfl
  · rw [if_neg e, if_neg e]; rfl
theorem figFin_get : ∀ (es : List Ev) (fg : AL (AL Int)) (b : Int), getA (figFin fg es) b = if b ∈ es.map evB then none else getA fg b
  | [], fg, b => by rw [if_neg (by simp)]; rfl
  | e :: es, fg, b => by
    show getA (figFin (dropA fg (evB e)) es) b = _
    rw [figFin_get es, getA_dropA, List.map_cons]
    by_cases c : b ∈ es.map evB
    · rw [if_pos c, if_pos (List.mem_cons_of_mem _ c)]
    · rw [if_neg c]
      by_cases d : b = evB e
      · rw [if_pos d, if_pos (by rw [d]; exact List.mem_cons_self)]
      · rw [if_neg d, if_neg fun z => (List.mem_cons.mp z).elim d c]
theorem figFin_sub : ∀ (es : List Ev) (fg : AL (AL Int)), ∀ p ∈ figFin fg es, p ∈ fg
  | [], fg, p, h => h
  | e :: es, fg, p, h => (List.mem_filter.mp (figFin_sub es (dropA fg (evB e)) p h)).1
theorem figFin_nd : ∀ (es : List Ev) (fg : AL (AL Int)), (keysA fg).Nodup → (keysA (figFin fg es)).Nodup
  | [], fg, h => h
  | e :: es, fg, h => figFin_nd es _ (nodup_dropA h _)
theorem gone_list {n : Nat} {st : BSt} (h : BOk n st) {t : Int} (ht : (getA st.sheets t).isSome = true) : (endE st t).1.map evB = (sortI (((getA st.sheets t).getD []).map (·.2))).filter fun b => decide (occ st.sheets b = 1) := by
  rw [(h.fin ht).2.2, List.map_map]
  conv => rhs; rw [← List.map_id ((sortI _).filter _)]
  rfl
theorem gone_mem {n : Nat} {st : BSt} (h : BOk n st) {t : Int} (ht : (getA st.sheets t).isSome = true) {b : Int} : b ∈ (endE st t).1.map evB ↔ (∃ s, bodyOf st t s = some b) ∧ occ st.sheets b = 1 := by
  rw [gone_list h ht, List.mem_filter, (sortI_perm _).mem_iff, decide_eq_true_iff]
  refine and_congr_left fun _ => ?_
  obtain ⟨r1, _, _⟩ := row_ok h t
  constructor
  · intro hb
    obtain ⟨p, hp, rfl⟩ := List.mem_map.mp hb
    exact ⟨p.1, getA_of_mem r1 hp⟩
  · rintro ⟨s, e⟩
    exact List.mem_map.mpr ⟨(s, b), getA_mem e, rfl⟩
theorem gone_nd {n : Nat} {st : BSt} (h : BOk n st) {t : Int} (ht : (getA st.sheets t).isSome = true) : ((endE st t).1.map evB).Nodup := by
  rw [gone_list h ht]
  obtain ⟨_, r2, _⟩ := row_ok h t
  exact ((sortI_perm _).nodup_iff.mpr r2).filter _
theorem row_one {n : Nat} {st : BSt} (h : BOk n st) {t s s' b : Int} (a : bodyOf st t s = some b) (c : bodyOf st t s' = some b) : s = s' := by
  obtain ⟨r1, r2, _⟩ := row_ok h t
  have ma := getA_mem a
  have mc := getA_mem c
  have key : ∀ l : AL Int, (l.map (·.2)).Nodup → (s, b) ∈ l → (s', b) ∈ l → s = s' := by
    intro l
    induction l with
    | nil => intro _ h _; cases h
    | cons p l ih =>
      intro nd h1 h2
      obtain ⟨n1, n2⟩ := List.nodup_cons.mp nd
      rcases List.mem_cons.mp h1 with e1 | e1
      · rcases List.mem_cons.mp h2 with e2 | e2
        · rw [← e2] at e1; exact congrArg Prod.fst e1
        · exact absurd (by rw [← e1]; exact List.mem_map_of_mem (f := (·.2)) e2) n1
      · rcases List.mem_cons.mp h2 with e2 | e2
        · exact absurd (by rw [← e2]; exact List.mem_map_of_mem (f := (·.2)) e1) n1
        · exact ih n2 e1 e2
  exact key _ r2 ma mc
theorem PInv.fin {n : Nat} {st : BSt} {fg : AL (AL Int)} (h : PInv st fg) (hs : BOk n st) {t : Int} (ht : (getA st.sheets t).isSome = true) : PInv (endE st t).2 (figFin fg (endE st t).1) := by
  refine ⟨figFin_nd _ _ h.kf, fun b => ?_, fun p hp => h.nk p (figFin_sub _ _ p hp), fun p hp => h.rg p (figFin_sub _ _ p hp), fun t1 t2 s1 s2 b e1 e2 => ?_⟩
  · rw [figFin_get]
    by_cases c : b ∈ (endE st t).1.map evB
    · rw [if_pos c]
      obtain ⟨⟨s, e⟩, o⟩ := (gone_mem hs ht).mp c
      refine ⟨fun z => (by cases z), ?_⟩
      rintro ⟨t', s', e'⟩
      rw [body_end] at e'
      by_cases d : t' = t
      · rw [if_pos d] at e'; cases e'
      · rw [if_neg d] at e'
        exact absurd (one_only hs (by omega) e' e).1 d
    · rw [if_neg c, h.fi b]
      constructor
      · rintro ⟨t', s', e⟩
        by_cases d : t' = t
        · subst d
          have o : occ st.sheets b ≠ 1 := fun z => c ((gone_mem hs ht).mpr ⟨⟨s', e⟩, z⟩)
          have o2 := has_occ hs e
          obtain ⟨t2, s2, e2, n2⟩ := other_has hs (t := t') (s := s') (b := b) (by omega)
          refine ⟨t2, s2, ?_⟩
          rw [body_end, if_neg fun z => n2 ⟨z, ?_⟩]
          · exact e2
          · rw [z] at e2
            exact row_one hs e2 e
        · exact ⟨t', s', by rw [body_end, if_neg d]; exact e⟩
      · rintro ⟨t', s', e⟩
        rw [body_end] at e
        split at e
        · cases e
        · exact ⟨t', s', e⟩
  · rw [body_end] at e1 e2
    split at e1
    · cases e1
    · split at e2
      · cases e2
      · exact h.us _ _ _ _ _ e1 e2
theorem val_end {n : Nat} {st : BSt} {fg : AL (AL Int)} (hs : BOk n st) {t : Int} (ht : (getA st.sheets t).isSome = true) {t' : Int} (a' : Int) (d : t' ≠ t) : valP (endE st t).2 (figFin fg (endE st t).1) t' a' = valP st fg t' a' := by
  unfold valP
  rw [body_end, if_neg d]
  cases q : bodyOf st t' (a' / 64) with
  | none => rfl
  | some b =>
    dsimp only
    unfold figOf rowOf
    rw [figFin_get, if_neg fun z => ?_]
    obtain ⟨⟨s, e⟩, o⟩ := (gone_mem hs ht).mp z
    exact d (one_only hs (by omega) q e).1
end Pg

/-! class Pages: what its methods promise -/
namespace Pg
open PySem PySem.Spec PyProof.Rows L2 DL Bo Fr Lw Dx
structure PWell (n : Int) (R : Rule) (S : PSt) : Prop where
  ok : okAll st0 S.ds = true
  len : S.ds.length ≤ 99
  st : S.st = (runAll ([], st0) S.ds).2
  fs : S.fs = runF (fst0 n R) (runAll ([], st0) S.ds).1
  pi : PInv S.st S.fg
  n1 : 1 ≤ n
  n2 : n ≤ 16
def stepP (S : PSt) (c : PCall) : PSt := ⟨(doneE S.st (deedOf c)).2, runF S.fs (doneE S.st (deedOf c)).1, figStep S.st S.fg c, S.ds ++ [deedOf c]⟩
section
variable {n : Int} {R : Rule} {S : PSt}
theorem PWell.bok (h : PWell n R S) : BOk S.ds.length S.st := by
  have x := (run_ok h.ok S.ds.length (Nat.le_refl _)).1
  rw [List.take_length] at x
  rw [h.st]
  exact x
theorem PWell.evl (h : PWell n R S) : (runAll ([], st0) S.ds).1.length ≤ 200000 := ev_len h.ok (by have := h.len; omega)
theorem PWell.fok (h : PWell n R S) : ∃ m, m ≤ 200000 ∧ FOk m S.fs := by
  have x := runF_ok h.n1 h.n2 R (runAll ([], st0) S.ds).1 _ (Nat.le_refl _)
  rw [List.take_length] at x
  rw [h.fs]
  exact ⟨_, h.evl, x⟩
theorem thereD_alive {st : BSt} {t : Int} (h : thereD st (.int t) = true) : (getA st.sheets t).isSome = true := (thereD_in h).2
theorem runF_app (s : FSt) (a b : List Ev) : runF s (a ++ b) = runF (runF s a) b := List.foldl_append
theorem PWell.fg_step (h : PWell n R S) {c : PCall} (okd : okD S.st (deedOf c) = true) : PInv (doneE S.st (deedOf c)).2 (figStep S.st S.fg c) := by
  cases c with
  | load t a => exact h.pi
  | store t a f => exact h.pi.store h.bok f
  | fork t c =>
    obtain ⟨_, hc⟩ : (getA S.st.sheets t).isSome = true ∧ getA S.st.sheets c = none := can_of h.bok okd
    exact h.pi.fork hc
  | fin t =>
    have ht : (getA S.st.sheets t).isSome = true := can_of h.bok okd
    exact h.pi.fin h.bok ht
theorem PWell.step (h : PWell n R S) {c : PCall} (okd : okD S.st (deedOf c) = true) (hl : S.ds.length + 1 ≤ 99) : PWell n R (stepP S c) := by
  have hs := h.st
  refine ⟨okAll_snoc (es := []) h.ok (by rw [← hs]; exact okd), by show (S.ds ++ [_]).length ≤ 99; simp; omega, ?_, ?_, h.fg_step okd, h.n1, h.n2⟩
  · show (doneE S.st (deedOf c)).2 = _
    rw [show (stepP S c).ds = S.ds ++ [deedOf c] from rfl, runAll_snoc, hs]
    rfl
  · show runF S.fs (doneE S.st (deedOf c)).1 = _
    rw [show (stepP S c).ds = S.ds ++ [deedOf c] from rfl, runAll_snoc, h.fs, hs]
    exact (runF_app _ _ _).symm
theorem PWell.rows (h : PWell n R S) {t s b : Int} (e : bodyOf S.st t s = some b) : 0 ≤ s ∧ s < 64 := by
  have key : ∀ d ∈ S.ds, shIn ((List.range 64).map fun (i : Nat) => (i : Int)) d := fun d hd => by
    obtain ⟨i, hi⟩ := List.mem_iff_getElem?.mp hd
    have o := okAll_at (es := []) h.ok hi
    have rng : ∀ x : Int, 0 ≤ x → x ≤ 63 → x ∈ (List.range 64).map fun (i : Nat) => (i : Int) := fun x h0 h1 => List.mem_map.mpr ⟨x.toNat, List.mem_range.mpr (by omega), by omega⟩
    have isf : ∀ x : Int, isFrom (.int x) 0 63 = true → x ∈ (List.range 64).map fun (i : Nat) => (i : Int) := fun x hx => by
      obtain ⟨h0, h1⟩ := isFrom_in hx
      exact rng x h0 h1
    cases d with
    | load t s =>
      have o2 : (thereD _ (.int t) && (if ("load" : Str) = "fork" then _ else (decide (("load" : Str) = "load") || decide (("load" : Str) = "store")) && isFrom (.int s) 0 63)) = true := o
      rw [if_neg (by decide)] at o2
      exact isf s (Bool.and_eq_true_iff.mp (Bool.and_eq_true_iff.mp o2).2).2
    | store t s =>
      have o2 : (thereD _ (.int t) && (if ("store" : Str) = "fork" then _ else (decide (("store" : Str) = "load") || decide (("store" : Str) = "store")) && isFrom (.int s) 0 63)) = true := o
      rw [if_neg (by decide)] at o2
      exact isf s (Bool.and_eq_true_iff.mp (Bool.and_eq_true_iff.mp o2).2).2
    | fork t c => trivial
    | fin t => trivial
  have hr := run_rows (sh := (List.range 64).map fun (i : Nat) => (i : Int)) (ds := S.ds) (z := ([], st0)) (fun p hp k hk => by rw [List.mem_singleton.mp (show p ∈ [((1 : Int), ([] : AL Int))] from hp)] at hk; cases hk) key
  rw [← h.st] at hr
  obtain ⟨row, h1, h2⟩ := bodyOf_mem e
  have hk := hr _ (getA_mem h1) s (List.mem_map_of_mem (f := (·.1)) (getA_mem h2))
  obtain ⟨i, hi, rfl⟩ := List.mem_map.mp hk
  have := List.mem_range.mp hi
  omega
end
section
variable {K : PySem.W.Frag} {C C2 C3 : Addr} {F H F1 H1 F2 H2 : Hp} {pg : Addr} {W W1 : List Addr} {S1 S2 : PSt}
theorem PGo.pre (g : Gr [] F H F1 H1) (a : PGo K C C2 C3 F1 H1 pg W S2 F2 H2) : PGo K C C2 C3 F H pg W S2 F2 H2 := by
  obtain ⟨g2, W', p, n⟩ := a
  exact ⟨g.any.trans g2, W', p, fun b hb => (n b hb).imp id g.free⟩
theorem PGo.comp (g : Gr W F H F1 H1) (n : ∀ b ∈ W1, b ∈ W ∨ H b = none) (a : PGo K C C2 C3 F1 H1 pg W1 S2 F2 H2) : PGo K C C2 C3 F H pg W S2 F2 H2 := by
  obtain ⟨g2, W', p, m⟩ := a
  refine ⟨g.step g2 n, W', p, fun b hb => ?_⟩
  rcases m b hb with h | h
  · exact n b h
  · exact .inr (g.free h)
theorem PgAt.gr0 {Z : PSt} (h : PgAt K C C2 C3 F H pg Z W) (g : Gr [] F H F1 H1) : PgAt K C C2 C3 F1 H1 pg Z W := by
  obtain ⟨p1, p2, fa, pa, oa, T, W1, W2, ps, xs, rfl, P⟩ := h
  exact ⟨p1, p2, fa, pa, oa, T, W1, W2, ps, xs, rfl, P.gr0 g⟩
theorem PgAt.gr {Z : PSt} {V : List Addr} (h : PgAt K C C2 C3 F H pg Z W) (g : Gr V F H F1 H1) (n : ∀ x ∈ W, x ∉ V) : PgAt K C C2 C3 F1 H1 pg Z W := by
  obtain ⟨p1, p2, fa, pa, oa, T, W1, W2, ps, xs, rfl, P⟩ := h
  exact ⟨p1, p2, fa, pa, oa, T, W1, W2, ps, xs, rfl, P.gr g n⟩
theorem PgAt.live {Z : PSt} (h : PgAt K C C2 C3 F H pg Z W) : ∀ x ∈ W, H x ≠ none := by
  obtain ⟨p1, p2, fa, pa, oa, T, W1, W2, ps, xs, rfl, P⟩ := h
  exact P.live
theorem PgAt.off {Z : PSt} (h : PgAt K C C2 C3 F H pg Z W) : ∀ x ∈ W, F x = none := by
  obtain ⟨p1, p2, fa, pa, oa, T, W1, W2, ps, xs, rfl, P⟩ := h
  exact P.off
end
/-! ### a memory as a list -/
structure MemOk (l : List (Int × Int)) (v : Int → Int) : Prop where
  asc : l.Pairwise fun p q => p.1 < q.1
  mem : ∀ a f, (a, f) ∈ l ↔ (0 ≤ a ∧ a < 4096) ∧ f = v a ∧ f ≠ 0
theorem asc_uniq {l m : List (Int × Int)} (h1 : l.Pairwise fun p q => p.1 < q.1) (h2 : m.Pairwise fun p q => p.1 < q.1) (h : ∀ x, x ∈ l ↔ x ∈ m) : l = m := by
  have nd : ∀ {k : List (Int × Int)}, (k.Pairwise fun p q => p.1 < q.1) → k.Nodup := fun {k} hk => hk.imp fun {x y} z e => by rw [e] at z; omega
  exact perm_uniq leP_anti ((List.perm_ext_iff_of_nodup (nd h1) (nd h2)).mpr h) (h1.imp fun z => leP_fst z) (h2.imp fun z => leP_fst z)
theorem MemOk.uniq {l m : List (Int × Int)} {v w : Int → Int} (h1 : MemOk l v) (h2 : MemOk m w) (e : ∀ a, 0 ≤ a → a < 4096 → v a = w a) : l = m := by
  refine asc_uniq h1.asc h2.asc fun x => ?_
  obtain ⟨a, f⟩ := x
  rw [h1.mem, h2.mem]
  constructor
  · rintro ⟨r, e1, e2⟩
    exact ⟨r, by rw [e1, e a r.1 r.2], e2⟩
  · rintro ⟨r, e1, e2⟩
    exact ⟨r, by rw [e1, e a r.1 r.2], e2⟩
/-- sheet by sheet -/
def cellsP (s : Int) (cs : List (Int × Int)) : List (Int × Int) := cs.map fun c => (64 * s + c.1, c.2)
def memP (rows : List (Int × Int)) (cs : Int → List (Int × Int)) : List (Int × Int) := rows.flatMap fun r => cellsP r.1 (cs r.2)
theorem mem_ok {n : Int} {R : Rule} {S : PSt} (h : PWell n R S) {t : Int} {rows : List (Int × Int)} {cs : Int → List (Int × Int)} (hr : rows.Perm ((getA S.st.sheets t).getD [])) (ha : rows.Pairwise leP)
    (hc : ∀ b, (∃ s, bodyOf S.st t s = some b) → (cs b).Perm (rowOf S.fg b) ∧ (cs b).Pairwise leP) : MemOk (memP rows cs) (valP S.st S.fg t) := by
  obtain ⟨r1, _, _⟩ := row_ok h.bok t
  have strict : ∀ {k r : List (Int × Int)}, k.Perm r → (keysA r).Nodup → k.Pairwise leP → k.Pairwise fun p q => p.1 < q.1 := fun {k r} hp hn hk => by
    have n1 : (k.map fun p : Int × Int => p.1).Nodup := ((hp.map fun p : Int × Int => p.1).nodup_iff).mpr hn
    have n2 := List.pairwise_map.mp n1
    exact (hk.and n2).imp fun {x y} ⟨a, b⟩ => by
      have := SrtO.lexB_no.mp a
      omega
  have hin : ∀ r ∈ rows, bodyOf S.st t r.1 = some r.2 := fun r hm => getA_of_mem r1 (hr.mem_iff.mp hm)
  have cell : ∀ b, (∃ s, bodyOf S.st t s = some b) → ∀ c ∈ cs b, (0 ≤ c.1 ∧ c.1 < 64) ∧ c.2 ≠ 0 := fun b hb c hm => (h.pi.row b).2 c ((hc b hb).1.mem_iff.mp hm)
  refine ⟨?_, fun a f => ?_⟩
  · unfold memP
    refine List.pairwise_flatMap.mpr ⟨fun r hm => ?_, (strict hr r1 ha).imp_of_mem fun {r q} hm hq z x hx y hy => ?_⟩
    · unfold cellsP
      have hb := hin r hm
      exact List.pairwise_map.mpr ((strict (hc r.2 ⟨_, hb⟩).1 (h.pi.row r.2).1 (hc r.2 ⟨_, hb⟩).2).imp fun {x y} z => by
        show 64 * r.1 + x.1 < 64 * r.1 + y.1
        omega)
    · unfold cellsP at hx hy
      obtain ⟨c, hc1, rfl⟩ := List.mem_map.mp hx
      obtain ⟨d, hd1, rfl⟩ := List.mem_map.mp hy
      have a1 := (cell r.2 ⟨_, hin r hm⟩ c hc1).1
      have a2 := (cell q.2 ⟨_, hin q hq⟩ d hd1).1
      show 64 * r.1 + c.1 < 64 * q.1 + d.1
      omega
  · unfold memP cellsP
    rw [List.mem_flatMap]
    constructor
    · rintro ⟨r, hm, hx⟩
      obtain ⟨c, hc1, e⟩ := List.mem_map.mp hx
      cases e
      have hb := hin r hm
      obtain ⟨s0, s1⟩ := h.rows hb
      obtain ⟨⟨c0, c1⟩, c2⟩ := cell r.2 ⟨_, hb⟩ c hc1
      refine ⟨⟨by omega, by omega⟩, ?_, c2⟩
      unfold valP
      rw [show (64 * r.1 + c.1) / 64 = r.1 by omega, show (64 * r.1 + c.1) % 64 = c.1 by omega, hb]
      show c.2 = figOf S.fg r.2 c.1
      unfold figOf
      rw [getA_of_mem (h.pi.row r.2).1 (a := c.2) ((hc r.2 ⟨_, hb⟩).1.mem_iff.mp hc1)]
      rfl
    · rintro ⟨⟨a0, a1⟩, e, hf⟩
      unfold valP at e
      cases q : bodyOf S.st t (a / 64) with
      | none => rw [q] at e; exact absurd e hf
      | some b =>
        rw [q] at e
        have e2 : f = (getA (rowOf S.fg b) (a % 64)).getD 0 := e
        cases z : getA (rowOf S.fg b) (a % 64) with
        | none => rw [z] at e2; exact absurd e2 hf
        | some g =>
          rw [z] at e2
          have e3 : f = g := e2
          refine ⟨(a / 64, b), hr.mem_iff.mpr (getA_mem q), List.mem_map.mpr ⟨(a % 64, g), (hc b ⟨_, q⟩).1.mem_iff.mpr (getA_mem z), ?_⟩⟩
          show (64 * (a / 64) + a % 64, g) = (a, f)
          rw [e3, show 64 * (a / 64) + a % 64 = a by omega]
/-! ### promises -/
section
variable (K : PySem.W.Frag) (C C2 C3 : Addr)
def spPInit : Sp := fun vs H Q _ => ∃ (F : Hp) (pg dx : Addr) (n : Int) (u : V) (R : Rule), vs = [.ref pg, .int n, u] ∧ Same F H ∧ F pg = none ∧ H pg = some (.ins C3 dx []) ∧ Dp K F u (ruleD R) ∧ ruleOk R ∧ 1 ≤ n ∧ n ≤ 16 ∧
  ∀ F' H' W', Gr [pg] F H F' H' → PgAt K C C2 C3 F' H' pg ⟨st0, fst0 n R, [], []⟩ W' → (∀ b ∈ W', b = pg ∨ H b = none) → Q .non H'
def spPNeedTask : Sp := fun vs H Q _ => ∃ (F : Hp) (pg : Addr) (S : PSt) (W : List Addr) (t : Int), vs = [.ref pg, .int t] ∧ Same F H ∧ PgAt K C C2 C3 F H pg S W ∧ thereD S.st (.int t) = true ∧ Q .non H
def spPNeedCell : Sp := fun vs H Q _ => ∃ (F : Hp) (pg : Addr) (S : PSt) (W : List Addr) (t a : Int), vs = [.ref pg, .int t, .int a] ∧ Same F H ∧ PgAt K C C2 C3 F H pg S W ∧ thereD S.st (.int t) = true ∧ 0 ≤ a ∧ a < 4096 ∧ Q .non H
def spPCome : Sp := fun vs H Q _ => ∃ (F : Hp) (pg : Addr) (S : PSt) (W : List Addr) (v : V) (es : List Ev), vs = [.ref pg, v] ∧ Same F H ∧ PgAt K C C2 C3 F H pg S W ∧ Dp K F v (.list (es.map evD)) ∧ (∃ m, m + es.length ≤ 900000 ∧ FOk m S.fs) ∧
  ∀ F' H', PGo K C C2 C3 F H pg W { S with fs := runF S.fs es } F' H' → Q .non H'
def spPKeep : Sp := fun vs H Q _ => ∃ (F : Hp) (pg : Addr) (S : PSt) (W : List Addr) (c d : V) (dd : Deed), vs = [.ref pg, c, d] ∧ Same F H ∧ PgAt K C C2 C3 F H pg S W ∧ Dp K F d (deedD dd) ∧ S.ds.length ≤ 1000 ∧
  ∀ F' H', PGo K C C2 C3 F H pg W { S with ds := S.ds ++ [dd] } F' H' → Q .non H'
def spPLoad : Sp := fun vs H Q _ => ∃ (F : Hp) (pg : Addr) (S : PSt) (W : List Addr) (t a n : Int) (R : Rule), vs = [.ref pg, .int t, .int a] ∧ Same F H ∧ PgAt K C C2 C3 F H pg S W ∧ PWell n R S ∧ thereD S.st (.int t) = true ∧ 0 ≤ a ∧ a < 4096 ∧
  ∀ F' H', PGo K C C2 C3 F H pg W (stepP S (.load t a)) F' H' → Q (.int (valP S.st S.fg t a)) H'
def spPStore : Sp := fun vs H Q _ => ∃ (F : Hp) (pg : Addr) (S : PSt) (W : List Addr) (t a f n : Int) (R : Rule), vs = [.ref pg, .int t, .int a, .int f] ∧ Same F H ∧ PgAt K C C2 C3 F H pg S W ∧ PWell n R S ∧ thereD S.st (.int t) = true ∧ 0 ≤ a ∧ a < 4096 ∧ 0 ≤ f ∧ f ≤ 65535 ∧
  ∀ F' H', PGo K C C2 C3 F H pg W (stepP S (.store t a f)) F' H' → Q .non H'
def spPFork : Sp := fun vs H Q _ => ∃ (F : Hp) (pg : Addr) (S : PSt) (W : List Addr) (t c n : Int) (R : Rule), vs = [.ref pg, .int t, .int c] ∧ Same F H ∧ PgAt K C C2 C3 F H pg S W ∧ PWell n R S ∧ okD S.st (.fork t c) = true ∧
  ∀ F' H', PGo K C C2 C3 F H pg W (stepP S (.fork t c)) F' H' → Q .non H'
def spPEnd : Sp := fun vs H Q _ => ∃ (F : Hp) (pg : Addr) (S : PSt) (W : List Addr) (t n : Int) (R : Rule), vs = [.ref pg, .int t] ∧ Same F H ∧ PgAt K C C2 C3 F H pg S W ∧ PWell n R S ∧ okD S.st (.fin t) = true ∧
  ∀ F' H', PGo K C C2 C3 F H pg W (stepP S (.fin t)) F' H' → Q .non H'
def spPMem : Sp := fun vs H Q _ => ∃ (F : Hp) (pg : Addr) (S : PSt) (W : List Addr) (t n : Int) (R : Rule), vs = [.ref pg, .int t] ∧ Same F H ∧ PgAt K C C2 C3 F H pg S W ∧ PWell n R S ∧ thereD S.st (.int t) = true ∧
  ∀ w F' H' l, Gr [] F H F' H' → MemOk l (valP S.st S.fg t) → Dp K F' w (.tuple (l.map prZ)) → Q w H'
def spPDeeds : Sp := fun vs H Q _ => ∃ (F : Hp) (pg : Addr) (S : PSt) (W : List Addr), vs = [.ref pg] ∧ Same F H ∧ PgAt K C C2 C3 F H pg S W ∧ ∀ w F' H', Gr [] F H F' H' → Dp K F' w (.tuple (S.ds.map deedD)) → Q w H'
def spPMisses : Sp := fun vs H Q _ => ∃ (F : Hp) (pg : Addr) (S : PSt) (W : List Addr), vs = [.ref pg] ∧ Same F H ∧ PgAt K C C2 C3 F H pg S W ∧ Q (.int S.fs.missed) H
def spPInside : Sp := fun vs H Q _ => ∃ (F : Hp) (pg : Addr) (S : PSt) (W : List Addr), vs = [.ref pg] ∧ Same F H ∧ PgAt K C C2 C3 F H pg S W ∧ ∀ w F' H', Gr [] F H F' H' → Dp K F' w (.tuple ((sortI S.fs.row).map .int)) → Q w H'
def spPBody : Sp := fun vs H Q _ => ∃ (F : Hp) (pg : Addr) (S : PSt) (W : List Addr) (t s : Int), vs = [.ref pg, .int t, .int s] ∧ Same F H ∧ PgAt K C C2 C3 F H pg S W ∧ thereD S.st (.int t) = true ∧ Q (optV (bodyOf S.st t s)) H
def spFig : Sp := fun vs H Q _ => ∃ a : Int, vs = [.int a] ∧ 0 ≤ a ∧ a ≤ 65535 ∧ Q (.bl true) H
def spAdr : Sp := fun vs H Q _ => ∃ a : Int, vs = [.int a] ∧ 0 ≤ a ∧ a < 4096 ∧ Q (.bl true) H
end
end Pg
namespace S
open PySem PySem.Spec PyProof.Rows L2 DL
theorem dget2 {td ty tx : TE} {σ : L2.St} {H : Hp} {Q : VK} (q : td σ H fun x H1 => ∃ a, x = .ref a ∧ IsD H1 a ∧ ty σ H1 fun y H2 => tx σ H2 fun z H3 => ∃ o, DGet H3 a y o ∧ Q (o.getD z) H3) : tDGet2 td ty tx σ H Q := q
end S
namespace Pg
open PySem PySem.Spec PyProof.Rows L2 DL Bo Fr Lw Dx
/-- the dict of a body -/
theorem tab_row {F H : Hp} {fa : Addr} {T : AL (Addr × AL Int)} {fg : AL (AL Int)} (tp : TP F H fa T) (e : sheetsOf T = fg) {b : Int} (h : (getA fg b).isSome = true) : ∃ d, getA T b = some (d, rowOf fg b) ∧ H d = some (.dK (kM V.int (rowOf fg b))) ∧ valV (kM (fun x : Addr × AL Int => V.ref x.1) T) (Sum.inl b) = some (V.ref d) := by
  obtain ⟨d, row, h1, h2⟩ := tab_of e h
  have er : rowOf fg b = row := by unfold rowOf; rw [h2]; rfl
  rw [er]
  exact ⟨d, h1, tp.tabs.rows _ (getA_mem h1), by rw [valV_kM, h1]; rfl⟩
end Pg
namespace S
open PySem PySem.Spec PyProof.Rows L2 DL
/-- either value is handed on the same way -/
theorem ifM {t : TT} {ta tb : TE} {σ : L2.St} {H : Hp} {Q : VK} (P : V → Hp → Prop) (hQ : ∀ v H', P v H' → Q v H') (h : ∀ Q' : VK, (∀ v H', P v H' → Q' v H') → t σ H fun c H1 => if c = true then ta σ H1 Q' else tb σ H1 Q') : tIf t ta tb σ H Q := h Q hQ
end S
namespace Pg
open PySem PySem.Spec PyProof.Rows L2 DL Bo Fr Lw Dx
theorem _root_.Bo.BAt.frz {C : Addr} {F H : Hp} {p : Addr} {st : BSt} {W : List Addr} (h : BAt C F H p st W) {q : Addr} {o : HO} (n : q ∉ W) : BAt C (upd F q o) H p st W := by
  obtain ⟨a, b, m, T, rfl, P⟩ := h
  exact ⟨a, b, m, T, rfl, P.step (fun _ _ _ e => e) fun x hx => by rw [upd_ne fun z => n (by rw [← z]; exact hx)]; exact P.off x hx⟩
theorem last_ev (st : BSt) (t s : Int) : atI ((storeE st t s).1.map evD) (-1) = some (.tuple [.str (if isNew st t s = true then "make" else "look"), .int (nowB st t s)]) := by
  unfold nowB isNew storeE
  cases q : bodyOf st t s with
  | none => rfl
  | some b =>
    dsimp only
    by_cases e : 1 < cnt st b
    · rw [if_pos e]
      have d : decide (1 < cnt st b) = true := decide_eq_true e
      simp only [d, if_true]
      rfl
    · rw [if_neg e]
      have d : decide (1 < cnt st b) = false := decide_eq_false e
      simp only [d, Bool.false_eq_true, if_false]
      rfl
theorem ev_short (st : BSt) (t s : Int) : (storeE st t s).1.length ≤ 2 := by
  unfold storeE
  cases bodyOf st t s with
  | none => simp
  | some b =>
    dsimp only
    split <;> simp
theorem PWell.fgl {n : Int} {R : Rule} {Z : PSt} (h : PWell n R Z) : Z.fg.length ≤ 99 := by
  have k1 : ∀ b ∈ keysA Z.fg, b ∈ (List.range Z.ds.length).map fun (i : Nat) => (i : Int) := fun b hb => by
    obtain ⟨x, hx⟩ := getA_isSome_of_mem hb
    obtain ⟨t, s, e⟩ := (h.pi.fi b).mp (by rw [hx]; rfl)
    have o := h.bok.lt b (has_occ h.bok e)
    have l := h.bok.ln
    exact List.mem_map.mpr ⟨b.toNat, List.mem_range.mpr (by omega), by omega⟩
  have l := len_of_sub h.pi.kf k1
  have := h.len
  simp only [keysA, List.length_map, List.length_range] at l
  omega
theorem row_len {row : AL Int} (nd : (keysA row).Nodup) (rg : ∀ c ∈ row, (0 ≤ c.1 ∧ c.1 < 64) ∧ c.2 ≠ 0) : row.length ≤ 64 := by
  have k1 : ∀ b ∈ keysA row, b ∈ (List.range 64).map fun (i : Nat) => (i : Int) := fun b hb => by
    obtain ⟨p, hp, rfl⟩ := List.mem_map.mp hb
    have := (rg p hp).1
    exact List.mem_map.mpr ⟨p.1.toNat, List.mem_range.mpr (by omega), by omega⟩
  have l := len_of_sub nd k1
  simpa [keysA] using l
theorem drop_none {row : AL Int} {p : Int} (h : getA row p = none) : dropA row p = row := by
  have n := getA_none.mp h
  unfold dropA
  refine List.filter_eq_self.mpr fun c hc => ?_
  simp only [decide_not, Bool.not_eq_eq_eq_not, Bool.not_true, decide_eq_false_iff_not]
  exact fun z => n (by rw [← z]; exact List.mem_map_of_mem (f := (·.1)) hc)
theorem upd_id {H : Hp} {a : Addr} {o : HO} (h : H a = some o) : upd H a o = H := by
  funext b
  by_cases e : b = a
  · rw [e, upd_same, h]
  · rw [upd_ne e]
end Pg
namespace Pg
open PySem PySem.Spec PyProof.Rows L2 DL Bo Fr Lw Dx
theorem PP.wTab2 {K : PySem.W.Frag} {C C2 C3 : Addr} {F H : Hp} {pg : Addr} {S : PSt} {p1 p2 fa pa oa : Addr} {T : AL (Addr × AL Int)} {W1 W2 : List Addr} {ps xs : List V} (h : PP K C C2 C3 F H pg S p1 p2 fa pa oa T W1 W2 ps xs) (sm : Same F H) {x : Addr} {o : HO} {T' : AL (Addr × AL Int)} {fg' : AL (AL Int)}
    (hx : x ∈ fa :: addrsOf T) (tp : TP F (upd H x o) fa T') (nT : ∀ y ∈ fa :: addrsOf T', y ∈ fa :: addrsOf T ∨ (y ∉ [pg, pa, oa] ∧ y ∉ W1 ∧ y ∉ W2)) (e : sheetsOf T' = fg') : PP K C C2 C3 F (upd H x o) pg ⟨S.st, S.fs, fg', S.ds⟩ p1 p2 fa pa oa T' W1 W2 ps xs := by
  subst e
  exact h.wTab sm hx tp nT
theorem mid_nd {st : BSt} {fg : AL (AL Int)} (h : PInv st fg) (t s : Int) : (keysA (figMid st fg t s)).Nodup := by
  unfold figMid
  split
  · exact nodup_putA h.kf _ _
  · exact h.kf
theorem next_free {n : Nat} {st : BSt} {fg : AL (AL Int)} (h : PInv st fg) (hs : BOk n st) : getA fg st.next = none := by
  cases q : getA fg st.next with
  | none => rfl
  | some x =>
    obtain ⟨t, s, e⟩ := (h.fi st.next).mp (by rw [q]; rfl)
    exact absurd rfl (new_free hs e)
end Pg
namespace S
open PySem PySem.Spec PyProof.Rows L2 DL
theorem iteM {b : Bool} {ta tb : TE} {σ : L2.St} {H : Hp} {Q : VK} (P : V → Hp → Prop) (hQ : ∀ v H', P v H' → Q v H') (h : ∀ Q' : VK, (∀ v H', P v H' → Q' v H') → if b = true then ta σ H Q' else tb σ H Q') : if b = true then ta σ H Q else tb σ H Q := h Q hQ
/-- a statement, then the rest: what stands between is told once -/
theorem seqQ {s1 s3 : TS} {D : Ends} {σ : L2.St} {H : Hp} (P : L2.St → Hp → Prop) (hr : ∀ σ' H', P σ' H' → s3 D σ' H') (h : ∀ nx : L2.St → Hp → Prop, (∀ σ' H', P σ' H' → nx σ' H') → s1 { D with nx := nx } σ H) : tSeq s1 s3 D σ H := h (s3 D) hr
end S
namespace Pg
open PySem PySem.Spec PyProof.Rows L2 DL Bo Fr Lw Dx
/-- the items of a dict of ints, ascending -/
def rowsS (r : AL Int) : List (Int × Int) := (sortI (keysA r)).map fun p => (p, (getA r p).getD 0)
theorem rowsS_perm {r : AL Int} (nd : (keysA r).Nodup) : (rowsS r).Perm r := by
  unfold rowsS
  refine ((sortI_perm _).map _).trans ?_
  unfold keysA
  rw [List.map_map]
  have e : r.map ((fun p => (p, (getA r p).getD 0)) ∘ fun p : Int × Int => p.1) = r := by
    conv => rhs; rw [← List.map_id r]
    refine List.map_congr_left fun p hp => ?_
    show (p.1, (getA r p.1).getD 0) = p
    rw [getA_of_mem nd (a := p.2) hp]
    rfl
  rw [e]
theorem rowsS_sorted {r : AL Int} (nd : (keysA r).Nodup) : (rowsS r).Pairwise leP := List.pairwise_map.mpr ((sortI_lt nd).imp fun z => leP_fst z)
theorem rowsS_uniq {r : AL Int} (nd : (keysA r).Nodup) {l : List (Int × Int)} (p : l.Perm r) (s : l.Pairwise leP) : l = rowsS r := perm_uniq leP_anti (p.trans (rowsS_perm nd).symm) s (rowsS_sorted nd)
theorem rowsS_len (r : AL Int) : (rowsS r).length = r.length := by
  unfold rowsS keysA
  rw [List.length_map, (sortI_perm _).length_eq, List.length_map]
theorem memP_snoc (rows : List (Int × Int)) (r : Int × Int) (cs : Int → List (Int × Int)) : memP (rows ++ [r]) cs = memP rows cs ++ cellsP r.1 (cs r.2) := by
  unfold memP
  rw [List.flatMap_append, List.flatMap_cons, List.flatMap_nil, List.append_nil]
theorem memS_ok {n : Int} {R : Rule} {Z : PSt} (h : PWell n R Z) (t : Int) : MemOk (memP (rowsS ((getA Z.st.sheets t).getD [])) fun b => rowsS (rowOf Z.fg b)) (valP Z.st Z.fg t) := by
  obtain ⟨r1, _, _⟩ := row_ok h.bok t
  exact mem_ok h (rowsS_perm r1) (rowsS_sorted r1) fun b _ => ⟨rowsS_perm (h.pi.row b).1, rowsS_sorted (h.pi.row b).1⟩
end Pg

/-! k13's law: its own flat memories, and what its helpers promise -/
namespace Pg
open PySem PySem.Spec PyProof.Rows L2 DL Bo Fr Lw Dx
def callD : PCall → PyData
  | .load t a => .tuple [.str "load", .int t, .int a]
  | .store t a f => .tuple [.str "store", .int t, .int a, .int f]
  | .fork t c => .tuple [.str "fork", .int t, .int c]
  | .fin t => .tuple [.str "end", .int t]
def CallOk (there met : List Int) : PCall → Prop
  | .load t a => t ∈ there ∧ 0 ≤ a ∧ a < 4096
  | .store t a f => t ∈ there ∧ (0 ≤ a ∧ a < 4096) ∧ 0 ≤ f ∧ f ≤ 65535
  | .fork t c => t ∈ there ∧ (1 ≤ c ∧ c ≤ 6) ∧ c ∉ met
  | .fin t => t ∈ there ∧ 1 < there.length
def resV (Z : PSt) : PCall → V
  | .load t a => .int (valP Z.st Z.fg t a)
  | _ => .non
theorem call_okD {there met : List Int} {st : BSt} (h : GInv there met st) {c : PCall} (ok : CallOk there met c) (hd : ∀ t ∈ there, t ∈ met) : okD st (deedOf c) = true := by
  cases c with
  | load t a =>
    obtain ⟨ht, a0, a1⟩ := ok
    exact ok_load (h.there ht) (by omega) (by omega)
  | store t a f =>
    obtain ⟨ht, ⟨a0, a1⟩, _⟩ := ok
    exact ok_store (h.there ht) (by omega) (by omega)
  | fork t c =>
    obtain ⟨ht, ⟨c0, c1⟩, hc⟩ := ok
    refine ok_fork (h.there ht) c0 c1 ?_
    cases z : (getA st.met c).isSome with
    | false => rfl
    | true => exact absurd ((h.mt c).mpr z) hc
  | fin t => exact ok_fin (h.there ok.1)
/-- the law's tables against the bodies -/
structure LRel (st : BSt) (fg : AL (AL Int)) (ft : AL (AL Int)) (sl : List (Int × Int)) (there met : List Int) : Prop where
  gi : GInv there met st
  tm : ∀ t ∈ there, t ∈ met
  fk : ∀ t, (getA ft t).isSome = true ↔ t ∈ there
  nk : (keysA ft).Nodup
  rn : ∀ p ∈ ft, (keysA p.2).Nodup
  rr : ∀ p ∈ ft, ∀ c ∈ p.2, 0 ≤ c.1 ∧ c.1 < 4096
  fv : ∀ t row, getA ft t = some row → ∀ a, 0 ≤ a → a < 4096 → (getA row a).getD 0 = valP st fg t a
  so : ∀ t s, t ∈ there → ((t, s) ∈ sl ↔ (bodyOf st t s).isSome = true)
  sm : ∀ p ∈ sl, p.1 ∈ met
/-- what a call changes in the law's tables -/
def ftStep (ft : AL (AL Int)) : PCall → AL (AL Int)
  | .load _ _ => ft
  | .store t a f => putA ft t (putA ((getA ft t).getD []) a f)
  | .fork t c => putA ft c ((getA ft t).getD [])
  | .fin t => dropA ft t
def slStep (sl : List (Int × Int)) : PCall → List (Int × Int)
  | .store t a _ => sl ++ [(t, a / 64)]
  | .fork t c => sl ++ (sl.filter fun p => decide (p.1 = t)).map fun p => (c, p.2)
  | _ => sl
def thereStep (there : List Int) : PCall → List Int
  | .fork _ c => there ++ [c]
  | .fin t => there.filter fun x => !decide (x = t)
  | _ => there
def metStep (met : List Int) : PCall → List Int
  | .fork _ c => met ++ [c]
  | _ => met
theorem isSome_cond {α : Type} {o : Option α} {P : Prop} [Decidable P] {x : α} : (if P then some x else o).isSome = true ↔ P ∨ o.isSome = true := by
  by_cases h : P
  · rw [if_pos h]; simp [h]
  · rw [if_neg h]; simp [h]
theorem LRel.step {st : BSt} {fg ft : AL (AL Int)} {sl : List (Int × Int)} {there met : List Int} {n : Nat} (h : LRel st fg ft sl there met) (hs : BOk n st) (hp : PInv st fg) {c : PCall} (ok : CallOk there met c) :
    LRel (doneE st (deedOf c)).2 (figStep st fg c) (ftStep ft c) (slStep sl c) (thereStep there c) (metStep met c) := by
  cases c with
  | load t a => exact h
  | store t a f =>
    obtain ⟨ht, ⟨a0, a1⟩, _⟩ := ok
    obtain ⟨row, hrow⟩ := getA_len ((h.fk t).mpr ht)
    have er : (getA ft t).getD [] = row := by rw [hrow]; rfl
    refine ⟨h.gi.store ht, h.tm, fun t' => ?_, nodup_putA h.nk _ _, fun p hp' => ?_, fun p hp' => ?_, fun t' row' e' a' h0 h1 => ?_, fun t' s' ht' => ?_, fun p hp' => ?_⟩
    · show (getA (putA ft t _) t').isSome = true ↔ _
      rw [getA_putA, isSome_cond, h.fk t']
      exact ⟨fun z => z.elim (fun e => by rw [e]; exact ht) id, .inr⟩
    · rcases mem_putA hp' with q | q
      · exact h.rn p q
      · rw [q, er]; exact nodup_putA (h.rn _ (getA_mem hrow)) _ _
    · rcases mem_putA hp' with q | q
      · exact h.rr p q
      · rw [q, er]
        intro c hc
        rcases mem_putA hc with z | z
        · exact h.rr _ (getA_mem hrow) c z
        · rw [z]; exact ⟨a0, a1⟩
    · show _ = valP (storeE st t (a / 64)).2 (figStore st fg t a f) t' a'
      rw [val_store hp hs]
      have e2 : getA (putA ft t (putA ((getA ft t).getD []) a f)) t' = some row' := e'
      rw [getA_putA, er] at e2
      by_cases d : t' = t
      · rw [if_pos d] at e2
        rw [← Option.some.inj e2, getA_putA]
        by_cases q : a' = a
        · rw [if_pos q, if_pos ⟨d, q⟩]; rfl
        · rw [if_neg q, if_neg fun z => q z.2, d]
          exact h.fv t row hrow a' h0 h1
      · rw [if_neg d] at e2
        rw [if_neg fun z => d z.1]
        exact h.fv t' row' e2 a' h0 h1
    · show (t', s') ∈ sl ++ [(t, a / 64)] ↔ (bodyOf (storeE st t (a / 64)).2 t' s').isSome = true
      rw [body_store, isSome_cond, List.mem_append, h.so t' s' ht', List.mem_singleton]
      constructor
      · rintro (z | z)
        · exact .inr z
        · exact .inl ⟨congrArg Prod.fst z, congrArg Prod.snd z⟩
      · rintro (z | z)
        · exact .inr (Prod.ext z.1 z.2)
        · exact .inl z
    · rcases List.mem_append.mp hp' with q | q
      · exact h.sm p q
      · rw [List.mem_singleton.mp q]; exact h.tm t ht
  | fork t c =>
    obtain ⟨ht, ⟨c0, c1⟩, hc⟩ := ok
    obtain ⟨row, hrow⟩ := getA_len ((h.fk t).mpr ht)
    have er : (getA ft t).getD [] = row := by rw [hrow]; rfl
    have hct : c ∉ there := fun z => hc (h.tm c z)
    have hcs : getA st.sheets c = none := by
      cases z : getA st.sheets c with
      | none => rfl
      | some x => exact absurd ((h.gi.th c).mpr (by rw [z]; rfl)) hct
    refine ⟨h.gi.fork c0 c1 hc hct, fun x hx => ?_, fun t' => ?_, nodup_putA h.nk _ _, fun p hp' => ?_, fun p hp' => ?_, fun t' row' e' a' h0 h1 => ?_, fun t' s' ht' => ?_, fun p hp' => ?_⟩
    · rcases List.mem_append.mp hx with q | q
      · exact List.mem_append_left _ (h.tm x q)
      · exact List.mem_append_right _ q
    · show (getA (putA ft c _) t').isSome = true ↔ t' ∈ there ++ [c]
      rw [getA_putA, isSome_cond, h.fk t', List.mem_append, List.mem_singleton]
      exact Or.comm
    · rcases mem_putA hp' with q | q
      · exact h.rn p q
      · rw [q, er]; exact h.rn (t, row) (getA_mem hrow)
    · rcases mem_putA hp' with q | q
      · exact h.rr p q
      · rw [q, er]; exact h.rr (t, row) (getA_mem hrow)
    · show _ = valP (forkS st t c) fg t' a'
      rw [val_fork]
      have e2 : getA (putA ft c ((getA ft t).getD [])) t' = some row' := e'
      rw [getA_putA, er] at e2
      by_cases d : t' = c
      · rw [if_pos d] at e2
        rw [if_pos d, ← Option.some.inj e2]
        exact h.fv t row hrow a' h0 h1
      · rw [if_neg d] at e2
        rw [if_neg d]
        exact h.fv t' row' e2 a' h0 h1
    · show (t', s') ∈ sl ++ (sl.filter fun p => decide (p.1 = t)).map (fun p => (c, p.2)) ↔ (bodyOf (forkS st t c) t' s').isSome = true
      rw [body_fork, List.mem_append]
      have hin : ∀ x, (c, x) ∈ (sl.filter fun p => decide (p.1 = t)).map (fun p => (c, p.2)) ↔ (t, x) ∈ sl := fun x => by
        constructor
        · intro z
          obtain ⟨p, hp', e⟩ := List.mem_map.mp z
          obtain ⟨h1, h2⟩ := List.mem_filter.mp hp'
          have e1 : p.1 = t := of_decide_eq_true h2
          have e2 : p.2 = x := congrArg Prod.snd e
          rw [← e1, ← e2]
          exact h1
        · intro z
          exact List.mem_map.mpr ⟨(t, x), List.mem_filter.mpr ⟨z, decide_eq_true rfl⟩, rfl⟩
      by_cases d : t' = c
      · subst d
        rw [if_pos rfl, hin, ← h.so t s' ht]
        exact ⟨fun z => z.elim (fun q => absurd (h.sm _ q) hc) id, .inr⟩
      · rw [if_neg d]
        have ht2 : t' ∈ there := (List.mem_append.mp ht').elim id fun z => absurd (List.mem_singleton.mp z) d
        rw [← h.so t' s' ht2]
        refine ⟨fun z => z.elim id fun q => ?_, .inl⟩
        obtain ⟨p, _, e⟩ := List.mem_map.mp q
        exact absurd (congrArg Prod.fst e).symm d
    · rcases List.mem_append.mp hp' with q | q
      · exact List.mem_append_left _ (h.sm p q)
      · obtain ⟨r, _, e⟩ := List.mem_map.mp q
        rw [← e]
        exact List.mem_append_right _ List.mem_cons_self
  | fin t =>
    obtain ⟨ht, hl⟩ := ok
    have hal : (getA st.sheets t).isSome = true := (h.gi.th t).mp ht
    have eT : thereStep there (.fin t) = there.erase t := (erase_filter h.gi.nt t).symm
    have tmem : ∀ x, x ∈ there.filter (fun x => !decide (x = t)) ↔ x ∈ there ∧ x ≠ t := fun x => by rw [List.mem_filter]; simp
    refine ⟨by rw [eT]; exact h.gi.fin ht hl, fun x hx => h.tm x (List.mem_filter.mp hx).1, fun t' => ?_, nodup_dropA h.nk _, fun p hp' => h.rn p (List.mem_filter.mp hp').1, fun p hp' => h.rr p (List.mem_filter.mp hp').1, fun t' row' e' a' h0 h1 => ?_, fun t' s' ht' => ?_, h.sm⟩
    · show (getA (dropA ft t) t').isSome = true ↔ t' ∈ there.filter _
      rw [getA_dropA, tmem, ← h.fk t']
      by_cases d : t' = t
      · rw [if_pos d]; simp [d]
      · rw [if_neg d]; simp [d]
    · have e2 : getA (dropA ft t) t' = some row' := e'
      rw [getA_dropA] at e2
      by_cases d : t' = t
      · rw [if_pos d] at e2; cases e2
      · rw [if_neg d] at e2
        show _ = valP (endE st t).2 (figFin fg (endE st t).1) t' a'
        rw [val_end hs hal a' d]
        exact h.fv t' row' e2 a' h0 h1
    · obtain ⟨h1, h2⟩ := (tmem t').mp ht'
      show (t', s') ∈ sl ↔ (bodyOf (endE st t).2 t' s').isSome = true
      rw [body_end, if_neg h2]
      exact h.so t' s' h1
theorem LRel.zero : LRel st0 [] [(1, [])] [] [1] [1] := by
  refine ⟨⟨by simp, by simp, fun t ht => by rw [List.mem_singleton.mp ht]; decide, fun t => ?_, fun t => ?_⟩, fun t h => h, fun t => ?_, by simp [keysA], fun p hp => ?_, fun p hp c hc => ?_, fun t row e a _ _ => ?_, fun t s ht => ?_, fun p hp => by cases hp⟩
  · show t ∈ [1] ↔ (getA [((1 : Int), ([] : AL Int))] t).isSome = true
    rw [getA_cons, getA_nil, List.mem_singleton]
    by_cases e : (1 : Int) = t
    · simp [e]
    · simp [e]; omega
  · show t ∈ [1] ↔ (getA [((1 : Int), ())] t).isSome = true
    rw [getA_cons, getA_nil, List.mem_singleton]
    by_cases e : (1 : Int) = t
    · simp [e]
    · simp [e]; omega
  · rw [getA_cons, getA_nil, List.mem_singleton]
    by_cases e : (1 : Int) = t
    · simp [e]
    · simp [e]; omega
  · rw [List.mem_singleton.mp hp]; exact List.nodup_nil
  · rw [List.mem_singleton.mp hp] at hc; cases hc
  · have e1 : row = [] := by
      have m := getA_mem e
      exact congrArg Prod.snd (List.mem_singleton.mp m)
    rw [e1]
    show (0 : Int) = valP st0 [] t a
    unfold valP bodyOf
    have : (getA st0.sheets t).getD [] = [] := by
      show (getA [((1 : Int), ([] : AL Int))] t).getD [] = []
      rw [getA_cons, getA_nil]
      split <;> rfl
    rw [this]
    rfl
  · constructor
    · intro z; cases z
    · intro z
      unfold bodyOf at z
      have : (getA st0.sheets t).getD [] = [] := by
        show (getA [((1 : Int), ([] : AL Int))] t).getD [] = []
        rw [getA_cons, getA_nil]
        split <;> rfl
      rw [this] at z
      cases z
/-- a flat memory as rows -/
def rowsL (cells : AL Int) : List (Int × Int) := ((sortI (keysA cells)).filter fun a => !decide ((getA cells a).getD 0 = 0)).map fun a => (a, (getA cells a).getD 0)
theorem rowsL_ok {cells : AL Int} (nd : (keysA cells).Nodup) (rg : ∀ c ∈ cells, 0 ≤ c.1 ∧ c.1 < 4096) : MemOk (rowsL cells) (fun a => (getA cells a).getD 0) := by
  refine ⟨List.pairwise_map.mpr (((sortI_lt nd).filter _).imp fun z => z), fun a f => ?_⟩
  unfold rowsL
  rw [List.mem_map]
  constructor
  · rintro ⟨x, hx, e⟩
    cases e
    obtain ⟨h1, h2⟩ := List.mem_filter.mp hx
    have h3 := (sortI_perm _).mem_iff.mp h1
    obtain ⟨p, hp, rfl⟩ := List.mem_map.mp h3
    exact ⟨rg p hp, rfl, by simpa using h2⟩
  · rintro ⟨⟨h0, h1⟩, e, hf⟩
    refine ⟨a, List.mem_filter.mpr ⟨(sortI_perm _).mem_iff.mpr ?_, ?_⟩, by rw [e]⟩
    · by_cases q : a ∈ keysA cells
      · exact q
      · rw [getA_none.mpr q] at e
        exact absurd e hf
    · rw [← e]; simpa using hf
end Pg

namespace Pg
open PySem PySem.Spec PyProof.Rows L2 DL Bo Fr Lw Dx
def ArgOk : PCall → Prop
  | .load _ a => 0 ≤ a ∧ a < 4096
  | .store _ a f => (0 ≤ a ∧ a < 4096) ∧ 0 ≤ f ∧ f ≤ 65535
  | _ => True
theorem CallOk.arg {there met : List Int} {c : PCall} (h : CallOk there met c) : ArgOk c := by
  cases c with
  | load t a => exact ⟨h.2.1, h.2.2⟩
  | store t a f => exact ⟨h.2.1, h.2.2⟩
  | fork t c => trivial
  | fin t => trivial
theorem okD_there {st : BSt} {c : PCall} (h : okD st (deedOf c) = true) : ∀ t, (∃ a, c = .load t a) ∨ (∃ a f, c = .store t a f) → thereD st (.int t) = true := fun t e => by
  rcases e with ⟨a, rfl⟩ | ⟨a, f, rfl⟩
  · have h' : (thereD st (.int t) && _) = true := h
    exact (Bool.and_eq_true_iff.mp h').1
  · have h' : (thereD st (.int t) && _) = true := h
    exact (Bool.and_eq_true_iff.mp h').1
section
variable (K : PySem.W.Frag) (C C2 C3 : Addr)
def spRule : Sp := fun vs H Q _ => ∃ (F : Hp) (q : Addr) (m : Nat), vs = [.ref q] ∧ Same F H ∧ F q = none ∧ DkAt H q m ∧ m ≤ 10000 ∧ ∀ R v F' H', Gr [q] F H F' H' → DkAt H' q (m + 12) → ruleOk R → Dp K F' v (ruleD R) → Q v H'
def spAddr : Sp := fun vs H Q _ => ∃ (F : Hp) (q : Addr) (m : Nat), vs = [.ref q] ∧ Same F H ∧ F q = none ∧ DkAt H q m ∧ m ≤ 10000 ∧ ∀ a H', Gr [q] F H F H' → DkAt H' q (m + 2) → 0 ≤ a → a < 4096 → Q (.int a) H'
def spRowsL : Sp := fun vs H Q _ => ∃ (F : Hp) (d : Addr) (cells : AL Int), vs = [.ref d] ∧ Same F H ∧ H d = some (.dK (kM V.int cells)) ∧ (keysA cells).Nodup ∧ cells.length ≤ 4096 ∧ ∀ w F' H', Gr [] F H F' H' → Dp K F' w (.tuple ((rowsL cells).map prZ)) → Q w H'
def spCallL : Sp := fun vs H Q _ => ∃ (F : Hp) (q tA mA : Addr) (there met : List Int) (m : Nat), vs = [.ref q, .ref tA, .ref mA] ∧ Same F H ∧ F q = none ∧ DkAt H q m ∧ m ≤ 9000 ∧ H tA = some (.lst (there.map V.int)) ∧ H mA = some (.lst (met.map V.int)) ∧ tA ≠ q ∧ mA ≠ q ∧ there ≠ [] ∧ there.length ≤ 1000 ∧ met.length ≤ 1000 ∧
  ∀ c w F' H', Gr [q] F H F' H' → DkAt H' q (m + 6) → CallOk there met c → Dp K F' w (callD c) → Q w H'
def spDone13 : Sp := fun vs H Q _ => ∃ (F : Hp) (pg : Addr) (Z : PSt) (W : List Addr) (w : V) (c : PCall) (n : Int) (R : Rule), vs = [.ref pg, w] ∧ Same F H ∧ PgAt K C C2 C3 F H pg Z W ∧ PWell n R Z ∧ okD Z.st (deedOf c) = true ∧ ArgOk c ∧ Dp K F w (callD c) ∧
  ∀ F' H', PGo K C C2 C3 F H pg W (stepP Z c) F' H' → Q (resV Z c) H'
end
end Pg
namespace Pg
open PySem PySem.Spec PyProof.Rows L2 DL Bo Fr Lw Dx
theorem pr_eqv (a b : Int × Int) : PyData.eqv (prZ a) (prZ b) = decide (a = b) := by
  by_cases h1 : a.1 = b.1
  · by_cases h2 : a.2 = b.2
    · have e : a = b := Prod.ext h1 h2
      simp [prZ, PyData.eqv, PyData.eqvAll, e]
    · have e : ¬ a = b := fun z => h2 (by rw [z])
      simp [prZ, PyData.eqv, PyData.eqvAll, h2, e]
  · have e : ¬ a = b := fun z => h1 (by rw [z])
    simp [prZ, PyData.eqv, PyData.eqvAll, h1, e]
theorem any_in (l : List (Int × Int)) (x : Int × Int) : ((l.map prZ).any fun z => PyData.eqv z (prZ x)) = decide (x ∈ l) := by
  rw [List.any_map]
  induction l with
  | nil => simp
  | cons p l ih =>
    rw [List.any_cons, ih]
    show (PyData.eqv (prZ p) (prZ x) || decide (x ∈ l)) = _
    rw [pr_eqv]
    by_cases e : p = x
    · simp [e]
    · have e2 : ¬ x = p := fun z => e z.symm
      simp [e, e2]
/-- the figures of a body -/
def figsD (fg : AL (AL Int)) (b : Int) : PyData := .list (((List.range 64).map fun (i : Nat) => figOf fg b (i : Int)).map PyData.int)
def seenD (fg : AL (AL Int)) (s b : Int) : PyData := .tuple [.int s, figsD fg b]
theorem eqvAll_ints : ∀ l : List Int, PyData.eqvAll (l.map PyData.int) (l.map PyData.int) = true
  | [] => rfl
  | a :: l => by
    rw [List.map_cons]
    simp only [PyData.eqvAll, eqvAll_ints l, Bool.and_true]
    simp [PyData.eqv]
theorem seen_eqv (fg : AL (AL Int)) (s b : Int) : PyData.eqv (seenD fg s b) (seenD fg s b) = true := by
  unfold seenD figsD
  simp only [PyData.eqv, PyData.eqvAll, eqvAll_ints, Bool.and_true]
  simp
theorem lay_ints : ∀ l : List Int, PyData.canLayAll0 (l.map PyData.int) = true ∧ PyData.depthAll (l.map PyData.int) = 0
  | [] => ⟨by simp [PyData.canLayAll0], by simp [PyData.depthAll]⟩
  | a :: l => by
    obtain ⟨h1, h2⟩ := lay_ints l
    rw [List.map_cons]
    exact ⟨by simp [PyData.canLayAll0, PyData.canLay0, h1], by simp [PyData.depthAll, PyData.depth, h2]⟩
theorem seen_shaped (fg : AL (AL Int)) (s b : Int) : SeqAt.shaped (seenD fg s b) = true := by
  have h := lay_ints ((List.range 64).map fun (i : Nat) => figOf fg b (i : Int))
  unfold seenD figsD
  generalize (List.range 64).map (fun (i : Nat) => figOf fg b (i : Int)) = l at h ⊢
  obtain ⟨h1, h2⟩ := h
  simp [SeqAt.shaped, PyData.canLay0, PyData.canLayAll0, PyData.depth, PyData.depthAll, h1, h2]
theorem prZ_shaped (p : Int × Int) : SeqAt.shaped (prZ p) = true := by
  unfold prZ
  simp [SeqAt.shaped, PyData.canLay0, PyData.canLayAll0, PyData.depth, PyData.depthAll]
section
variable (K : PySem.W.Frag) (C C2 C3 : Addr)
def spBodR : Sp := fun vs H Q _ => ∃ (F : Hp) (pg fl sl : Addr) (Z : PSt) (W : List Addr) (TF : AL (Addr × AL Int)) (sxs : List V) (stL : List (Int × Int)) (there met : List Int) (n : Int) (R : Rule), vs = [.ref pg, .ref fl, .ref sl] ∧ Same F H ∧ PgAt K C C2 C3 F H pg Z W ∧ PWell n R Z ∧
  TabsAt H fl TF ∧ H sl = some (.lst sxs) ∧ DpAll K F sxs (stL.map prZ) ∧ LRel Z.st Z.fg (sheetsOf TF) stL there met ∧ ∀ F' H', Gr [] F H F' H' → Q (.bl true) H'
end
theorem LRel.tl {st : BSt} {fg ft : AL (AL Int)} {sl : List (Int × Int)} {there met : List Int} (h : LRel st fg ft sl there met) : ft.length ≤ 6 := by
  have k1 : ∀ b ∈ keysA ft, b ∈ ([1, 2, 3, 4, 5, 6] : List Int) := fun b hb => by
    obtain ⟨x, hx⟩ := getA_isSome_of_mem hb
    have := h.gi.rg b ((h.fk b).mp (by rw [hx]; rfl))
    simp
    omega
  have l := len_of_sub h.nk k1
  simpa [keysA] using l
end Pg
namespace Pg
open PySem PySem.Spec PyProof.Rows L2 DL Bo Fr Lw Dx
theorem hu65_of {A : Around} {k : Nat} (hr : Room k A) : A.units + 65 < cLine := by have := hr.un; omega
theorem op_notInDK {X : Cx} {K : PySem.W.Frag} (e : X.K = K) (hu : X.A.units + 65 < cLine) : OpR X (compareOp .NotIn) (rNotInD K) := by subst e; exact op_notInD hu
/-- what was seen of the bodies -/
def SeenOk (K : PySem.W.Frag) (F : Hp) (st : BSt) (fg : AL (AL Int)) (L : AL V) : Prop := ∀ b v, getA L b = some v → ∃ t s, bodyOf st t s = some b ∧ Dp K F v (seenD fg s b)
theorem SeenOk.to {K : PySem.W.Frag} {F F' : Hp} {st : BSt} {fg : AL (AL Int)} {L : AL V} (h : SeenOk K F st fg L) (e : Same F F') : SeenOk K F' st fg L := fun b v q => by
  obtain ⟨t, s, h1, h2⟩ := h b v q
  exact ⟨t, s, h1, h2.to e⟩
theorem SeenOk.put {K : PySem.W.Frag} {F : Hp} {st : BSt} {fg : AL (AL Int)} {L : AL V} (h : SeenOk K F st fg L) {b t s : Int} {v : V} (e : bodyOf st t s = some b) (d : Dp K F v (seenD fg s b)) : SeenOk K F st fg (putA L b v) := fun b' v' q => by
  rw [getA_putA] at q
  by_cases z : b' = b
  · rw [if_pos z] at q
    rw [← Option.some.inj q, z]
    exact ⟨t, s, e, d⟩
  · rw [if_neg z] at q
    exact h b' v' q
theorem valP_fig {st : BSt} {fg : AL (AL Int)} {t s b : Int} (e : bodyOf st t s = some b) {i : Int} (h0 : 0 ≤ i) (h1 : i < 64) : valP st fg t (64 * s + i) = figOf fg b i := by
  unfold valP
  rw [show (64 * s + i) / 64 = s by omega, show (64 * s + i) % 64 = i by omega, e]
theorem Pg_ob {K : PySem.W.Frag} {C C2 C3 : Addr} {F H : Hp} {pg : Addr} {Z : PSt} {W : List Addr} (h : PgAt K C C2 C3 F H pg Z W) : ∃ dx fs, H pg = some (.ins C3 dx fs) ∧ fs.lookup ("load" : Str) = none ∧ fs.lookup ("store" : Str) = none ∧ fs.lookup ("fork" : Str) = none ∧ fs.lookup ("end" : Str) = none ∧ fs.lookup ("body" : Str) = none ∧ fs.lookup ("memory" : Str) = none ∧ fs.lookup ("deeds" : Str) = none ∧ fs.lookup ("misses" : Str) = none ∧ fs.lookup ("inside" : Str) = none := by
  obtain ⟨p1, p2, fa, pa, oa, T, W1, W2, ps, xs, rfl, P0⟩ := h
  obtain ⟨dx, hp⟩ := P0.ob
  exact ⟨dx, _, hp, rfl, rfl, rfl, rfl, rfl, rfl, rfl, rfl, rfl⟩
end Pg
namespace S
open PySem PySem.Spec PyProof.Rows L2 DL
theorem ninD {K : PySem.W.Frag} {F H : Hp} {Q : VK} {x y : V} {d : PyData} {ds : List PyData} (hx : Dp K F x d) (hy : Dp K F y (.list ds)) (s : Same F H) (h1 : SeqAt.shaped d = true) (h2 : SeqAt.shaped (.list ds) = true) (q : Q (.bl (!ds.any fun z => PyData.eqv z d)) H) : rNotInD K x y H Q := ⟨d, ds, hx.to s, hy.to s, h1, h2, q⟩
end S

/-! k13's law: what can be asked, and owners -/
namespace DL
open PySem PySem.Spec PyProof.Rows L2
theorem Gr.lock1 {F H : Hp} {d : Addr} {u : HO} {od : Obj} (s : Same F H) (fd : F d = none) : Gr [d] F H F (upd H d (.frz od u)) := Gr.write s fd (by simp)
theorem Gr.unlock1 {F H F' H' : Hp} {d : Addr} {u : HO} {od : Obj} (hd : H d = some u) (fd : F d = none) (g : Gr [] F (upd H d (.frz od u)) F' H') : Gr [] F H F' (upd H' d u) := by
  have hl : ∀ b, H b ≠ none → upd H d (.frz od u) b ≠ none := fun b hb => by
    by_cases e : b = d
    · rw [e, upd_same]; exact fun z => nomatch z
    · rw [upd_ne e]; exact hb
  have fd' : F' d = none := g.own d fd (hl d (by rw [hd]; exact fun z => nomatch z))
  refine ⟨g.fs, fun b o _ e => ?_, fun b o e => ?_, fun b e hb => g.own b e (hl b hb), fun b hb => ?_⟩
  · by_cases z : b = d
    · rw [z, upd_same, ← hd, ← z, e]
    · rw [upd_ne z]; exact g.at0 (by rw [upd_ne z]; exact e)
  · rw [upd_ne (ne_of_none e fd')]; exact g.sub b o e
  · by_cases z : b = d
    · rw [z, upd_same]; exact fun y => nomatch y
    · rw [upd_ne z]; exact g.live b (hl b hb)
end DL
namespace S
open PySem PySem.Spec PyProof.Rows L2 DL
theorem lock1 {t : TE} {σ : L2.St} {H : Hp} {Q : VK} {d : Addr} {u : HO} (h : H d = some u) (m : Mut (some u)) (q : ∀ od, t σ (upd H d (.frz od u)) fun v H' => H' d = some (.frz od u) ∧ Q v (upd H' d u)) : tLockE t σ H Q := ⟨d, u, h, m, q⟩
theorem iKeys {td : TE} {σ : L2.St} {H : Hp} {R : It → Hp → Prop} (q : td σ H fun x H1 => ∃ d o, x = .ref d ∧ ((∃ kvs, H1 d = some (.frz o (.dK kvs)) ∧ R (Itk d o kvs) H1) ∨ ∃ kvs, H1 d = some (.frz o (.dT kvs)) ∧ R (Itkt d o kvs) H1)) : L2.iKeys td σ H R := q
end S
namespace Pg
open PySem PySem.Spec PyProof.Rows L2 DL Bo Fr Lw Dx
theorem MemOk.len {l : List (Int × Int)} {v : Int → Int} (h : MemOk l v) : l.length ≤ 4096 := by
  have k1 : ∀ b ∈ l.map (·.1), b ∈ (List.range 4096).map fun (i : Nat) => (i : Int) := fun b hb => by
    obtain ⟨p, hp, rfl⟩ := List.mem_map.mp hb
    have := ((h.mem p.1 p.2).mp hp).1
    exact List.mem_map.mpr ⟨p.1.toNat, List.mem_range.mpr (by omega), by omega⟩
  have nd : (l.map (·.1)).Nodup := List.pairwise_map.mpr (h.asc.imp fun z e => by omega)
  have l := len_of_sub nd k1
  simpa using l
theorem dds_ok (ds : List Deed) (hl : ds.length ≤ 1000000) : (PyData.tuple (ds.map deedD)).depth < 3 ∧ wid (.tuple (ds.map deedD)) = true := by
  refine ⟨depth_tup ?_, wid_tup (fun d hd => ?_) (by rw [List.length_map]; exact hl)⟩
  · induction ds with
    | nil => simp [PyData.depthAll]
    | cons d ds ih =>
      have := ih (by simp at hl; omega)
      rw [List.map_cons]
      have e : (deedD d).depth ≤ 1 := by cases d <;> simp [deedD, PyData.depth, PyData.depthAll]
      unfold PyData.depthAll
      omega
  · obtain ⟨e, _, rfl⟩ := List.mem_map.mp hd
    cases e <;> simp [deedD, wid, widAll]
/-- the two lists of cells of a task are one -/
theorem rows_eq {n : Int} {R : Rule} {Z : PSt} {ft : AL (AL Int)} {sl : List (Int × Int)} {there met : List Int} (rel : LRel Z.st Z.fg ft sl there met) {t : Int} {row : AL Int} (h : getA ft t = some row) {l : List (Int × Int)} (hl : MemOk l (valP Z.st Z.fg t)) : rowsL row = l :=
  (rowsL_ok (rel.rn _ (getA_mem h)) (rel.rr _ (getA_mem h))).uniq hl fun a h0 h1 => rel.fv t row h a h0 h1
theorem row_cap {row : AL Int} (nd : (keysA row).Nodup) (rg : ∀ c ∈ row, 0 ≤ c.1 ∧ c.1 < 4096) : row.length ≤ 4096 := by
  have k1 : ∀ b ∈ keysA row, b ∈ (List.range 4096).map fun (i : Nat) => (i : Int) := fun b hb => by
    obtain ⟨p, hp, rfl⟩ := List.mem_map.mp hb
    have := rg p hp
    exact List.mem_map.mpr ⟨p.1.toNat, List.mem_range.mpr (by omega), by omega⟩
  have l := len_of_sub nd k1
  simpa [keysA] using l
section
variable (K : PySem.W.Frag) (C C2 C3 : Addr)
/-- what is asked of the pages, of the law's tables and of the deck -/
structure Asked (F H : Hp) (pg fl sl dl : Addr) (Z : PSt) (W : List Addr) (TF : AL (Addr × AL Int)) (sxs dxs : List V) (stL : List (Int × Int)) (there met : List Int) (n : Int) (R : Rule) (u : V) : Prop where
  sm : Same F H
  pg : PgAt K C C2 C3 F H pg Z W
  pw : PWell n R Z
  tp : TP F H fl TF
  nw : fl ∉ W
  sl : H sl = some (.lst sxs)
  sd : DpAll K F sxs (stL.map prZ)
  dl : H dl = some (.lst dxs)
  dd : DpAll K F dxs (Z.ds.map deedD)
  rel : LRel Z.st Z.fg (sheetsOf TF) stL there met
  ru : Dp K F u (ruleD R)
  rk : ruleOk R
theorem Asked.gr {K : PySem.W.Frag} {C C2 C3 : Addr} {F H F' H' : Hp} {pg fl sl dl : Addr} {Z : PSt} {W X : List Addr} {TF : AL (Addr × AL Int)} {sxs dxs : List V} {stL : List (Int × Int)} {there met : List Int} {n : Int} {R : Rule} {u : V}
    (h : Asked K C C2 C3 F H pg fl sl dl Z W TF sxs dxs stL there met n R u) (g : Gr X F H F' H') (n1 : ∀ x ∈ W, x ∉ X) (n2 : ∀ x ∈ fl :: addrsOf TF, x ∉ X) (n3 : sl ∉ X) (n4 : dl ∉ X) : Asked K C C2 C3 F' H' pg fl sl dl Z W TF sxs dxs stL there met n R u :=
  ⟨g.sub, h.pg.gr g n1, h.pw, h.tp.gr g n2, h.nw, g.at n3 h.sl, h.sd.to g.fs, g.at n4 h.dl, h.dd.to g.fs, h.rel, h.ru.to g.fs, h.rk⟩
def spAsked : Sp := fun vs H Q _ => ∃ (F : Hp) (q pg fl sl dl : Addr) (m : Nat) (Z : PSt) (W : List Addr) (TF : AL (Addr × AL Int)) (sxs dxs : List V) (stL : List (Int × Int)) (there met : List Int) (n : Int) (R : Rule) (u : V), vs = [.ref q, .ref pg, .ref fl, .ref sl, .ref dl, .int n, u] ∧
  F q = none ∧ DkAt H q m ∧ m ≤ 9000 ∧ Asked K C C2 C3 F H pg fl sl dl Z W TF sxs dxs stL there met n R u ∧ q ∉ W ∧ q ∉ fl :: addrsOf TF ∧ sl ≠ q ∧ dl ≠ q ∧ ∀ F' H', Gr [q] F H F' H' → DkAt H' q (m + 1) → Q (.bl true) H'
def spOwnR : Sp := fun vs H Q _ => ∃ (F : Hp) (pg fl sl dl : Addr) (Z : PSt) (W : List Addr) (TF : AL (Addr × AL Int)) (sxs dxs : List V) (stL : List (Int × Int)) (there met : List Int) (n : Int) (R : Rule) (u : V), vs = [.ref pg, .ref fl, .ref dl] ∧
  Asked K C C2 C3 F H pg fl sl dl Z W TF sxs dxs stL there met n R u ∧ ∀ F' H', Gr [] F H F' H' → Q (.bl true) H'
end
end Pg
namespace S
open PySem PySem.Spec PyProof.Rows L2 DL Bo
theorem eqOpt {K : PySem.W.Frag} {H : Hp} {Q : VK} {o : Option Int} {b : Int} (q : Q (.bl (decide (o = some b))) H) : rEqU K (optV o) (.int b) H Q := by
  cases o with
  | none => exact .inl ⟨rfl, q⟩
  | some a =>
    refine .inl ⟨rfl, ?_⟩
    have e : decide (optV (some a) = V.int b) = decide (some a = some b) := by
      by_cases z : a = b
      · subst z; simp [optV]
      · show decide (V.int a = V.int b) = _
        rw [decide_eq_false (fun y => z (V.int.inj y)), decide_eq_false (fun y => z (Option.some.inj y))]
    rw [e]
    exact q
end S
namespace Pg
open PySem PySem.Spec PyProof.Rows L2 DL Bo Fr Lw Dx
/-- the sheets below m of a task that have a body -/
def ownRow (st : BSt) (t b : Int) (m : Nat) : List (Int × Int) := (((List.range m).map fun (i : Nat) => (i : Int)).filter fun s => decide (bodyOf st t s = some b)).map fun s => (t, s)
theorem ownRow_succ (st : BSt) (t b : Int) (m : Nat) : ownRow st t b (m + 1) = ownRow st t b m ++ (if bodyOf st t (m : Int) = some b then [(t, (m : Int))] else []) := by
  unfold ownRow
  rw [List.range_succ, List.map_append, List.filter_append, List.map_append]
  congr 1
  by_cases e : bodyOf st t (m : Int) = some b <;> simp [e]
theorem ownRow_len (st : BSt) (t b : Int) (m : Nat) : (ownRow st t b m).length ≤ m := by
  unfold ownRow
  rw [List.length_map]
  refine Nat.le_trans (List.length_filter_le _ _) ?_
  simp
theorem ownRow_eq {n : Int} {R : Rule} {Z : PSt} (h : PWell n R Z) (t b : Int) : ownRow Z.st t b 64 = rowP t ((getA Z.st.sheets t).getD []) b := by
  unfold ownRow rowP
  congr 1
  obtain ⟨r1, _, _⟩ := row_ok h.bok t
  have lt1 : ((((List.range 64).map fun (i : Nat) => (i : Int)).filter fun s => decide (bodyOf Z.st t s = some b))).Pairwise (· < ·) := by
    refine List.Pairwise.filter _ (List.pairwise_map.mpr (List.pairwise_lt_range.imp fun z => by omega))
  have lt2 : ((sortI (keysA ((getA Z.st.sheets t).getD []))).filter fun s => decide (getA ((getA Z.st.sheets t).getD []) s = some b)).Pairwise (· < ·) := (sortI_lt r1).filter _
  refine perm_uniq (r := fun x y : Int => x ≤ y) (fun a b h1 h2 => Int.le_antisymm h1 h2) ((List.perm_ext_iff_of_nodup (lt1.imp fun z => Int.ne_of_lt z) (lt2.imp fun z => Int.ne_of_lt z)).mpr fun s => ?_) (lt1.imp fun z => Int.le_of_lt z) (lt2.imp fun z => Int.le_of_lt z)
  rw [List.mem_filter, List.mem_filter, (sortI_perm _).mem_iff]
  constructor
  · rintro ⟨_, e⟩
    have e1 : getA ((getA Z.st.sheets t).getD []) s = some b := of_decide_eq_true e
    refine ⟨?_, decide_eq_true e1⟩
    by_cases q : s ∈ keysA ((getA Z.st.sheets t).getD [])
    · exact q
    · rw [getA_none.mpr q] at e1; cases e1
  · rintro ⟨_, e⟩
    have e1 : bodyOf Z.st t s = some b := of_decide_eq_true e
    obtain ⟨s0, s1⟩ := h.rows e1
    exact ⟨List.mem_map.mpr ⟨s.toNat, List.mem_range.mpr (by omega), by omega⟩, decide_eq_true e1⟩
theorem own_eq {n : Int} {R : Rule} {Z : PSt} (h : PWell n R Z) {ft : AL (AL Int)} {sl : List (Int × Int)} {there met : List Int} (rel : LRel Z.st Z.fg ft sl there met) (b : Int) :
    ((sortI (keysA ft)).flatMap fun t => ownRow Z.st t b 64) = havingP Z.st.sheets b := by
  unfold havingP
  have e : sortI (keysA ft) = sortI (keysA Z.st.sheets) := by
    refine sortI_perm_eq ((List.perm_ext_iff_of_nodup rel.nk h.bok.nds).mpr fun t => ?_)
    have mem : ∀ {α : Type} (l : AL α), t ∈ keysA l ↔ (getA l t).isSome = true := fun l => by
      constructor
      · intro z
        obtain ⟨x, hx⟩ := getA_isSome_of_mem z
        rw [hx]; rfl
      · intro z
        by_cases q : t ∈ keysA l
        · exact q
        · rw [getA_none.mpr q] at z; cases z
    rw [mem, mem, rel.fk t, rel.gi.th t]
  rw [e]
  congr 1
  funext t
  exact ownRow_eq h t b
theorem own_len {st : BSt} (b : Int) : ∀ ts : List Int, (ts.flatMap fun t => ownRow st t b 64).length ≤ 64 * ts.length
  | [] => Nat.le_refl _
  | t :: ts => by
    rw [List.flatMap_cons, List.length_append, List.length_cons]
    have := own_len (st := st) b ts
    have := ownRow_len st t b 64
    omega
end Pg

/-! k13's law: what stands in the heap between two turns -/
namespace S
open PySem PySem.Spec PyProof.Rows L2 DL
/-- eight statements, then one: what stands between is told once -/
theorem seqQ8 {s1 s2 s3 s4 s5 s6 s7 s8 s9 : TS} {D : Ends} {σ : L2.St} {H : Hp} (P : L2.St → Hp → Prop) (hr : ∀ σ' H', P σ' H' → s9 D σ' H')
    (h : ∀ nx : L2.St → Hp → Prop, (∀ σ' H', P σ' H' → nx σ' H') → tSeq s1 (tSeq s2 (tSeq s3 (tSeq s4 (tSeq s5 (tSeq s6 (tSeq s7 s8)))))) { D with nx := nx } σ H) :
    tSeq s1 (tSeq s2 (tSeq s3 (tSeq s4 (tSeq s5 (tSeq s6 (tSeq s7 (tSeq s8 s9))))))) D σ H := h (s9 D) hr
end S
namespace Pg
open PySem PySem.Spec PyProof.Rows L2 DL Bo Fr Lw Dx
section
variable (K : PySem.W.Frag) (C C2 C3 : Addr)
/-- the law's own things; their colours tell them apart -/
structure LH (F0 H0 F H : Hp) (q pg fl sl dl tA mA : Addr) (m : Nat) (Z : PSt) (W : List Addr) (TF : AL (Addr × AL Int)) (sxs dxs : List V) (stL : List (Int × Int)) (ds : List Deed) (there met : List Int) (u : V) (R : Rule) (col : Addr → Nat) : Prop where
  g : Gr [] F0 H0 F H
  pg : PgAt K C C2 C3 F H pg Z W
  tp : TP F H fl TF
  dk : DkAt H q m
  hs : H sl = some (.lst sxs)
  sd : DpAll K F sxs (stL.map prZ)
  hd : H dl = some (.lst dxs)
  dd : DpAll K F dxs (ds.map deedD)
  tl : H tA = some (.lst (there.map V.int))
  ml : H mA = some (.lst (met.map V.int))
  ru : Dp K F u (ruleD R)
  fq : F q = none
  fs : F sl = none
  fd : F dl = none
  ft : F tA = none
  fm : F mA = none
  cW : ∀ x ∈ W, col x = 0
  cT : ∀ x ∈ fl :: addrsOf TF, col x = 1
  cq : col q = 2
  cs : col sl = 3
  cd : col dl = 4
  ct : col tA = 5
  cm : col mA = 6
  fr : ∀ x, col x < 7 → H0 x = none
end
variable {K : PySem.W.Frag} {C C2 C3 : Addr} {F0 H0 F H F' H' : Hp} {q pg fl sl dl tA mA : Addr} {m : Nat} {Z : PSt} {W X : List Addr} {TF : AL (Addr × AL Int)} {sxs dxs : List V} {stL : List (Int × Int)} {ds : List Deed} {there met : List Int} {u : V} {R : Rule} {col : Addr → Nat}
theorem LH.gN (h : LH K C C2 C3 F0 H0 F H q pg fl sl dl tA mA m Z W TF sxs dxs stL ds there met u R col) (g : Gr X F H F' H') {c : Nat} (hX : ∀ x ∈ X, col x = c) (c7 : c < 7) : Gr [] F0 H0 F' H' := h.g.fresh g fun x hx => h.fr x (by rw [hX x hx]; exact c7)
theorem ncol {X : List Addr} {col : Addr → Nat} {c : Nat} (hX : ∀ x ∈ X, col x = c) {y : Addr} {d : Nat} (hy : col y = d) (n : c ≠ d) : y ∉ X := fun z => n ((hX y z).symm.trans hy)
theorem LH.pgN (h : LH K C C2 C3 F0 H0 F H q pg fl sl dl tA mA m Z W TF sxs dxs stL ds there met u R col) (g : Gr X F H F' H') {c : Nat} (hX : ∀ x ∈ X, col x = c) (n : c ≠ 0) : PgAt K C C2 C3 F' H' pg Z W := h.pg.gr g fun x hx => ncol hX (h.cW x hx) n
theorem LH.tpN (h : LH K C C2 C3 F0 H0 F H q pg fl sl dl tA mA m Z W TF sxs dxs stL ds there met u R col) (g : Gr X F H F' H') {c : Nat} (hX : ∀ x ∈ X, col x = c) (n : c ≠ 1) : TP F' H' fl TF := h.tp.gr g fun x hx => ncol hX (h.cT x hx) n
theorem LH.dkN (h : LH K C C2 C3 F0 H0 F H q pg fl sl dl tA mA m Z W TF sxs dxs stL ds there met u R col) (g : Gr X F H F' H') {c : Nat} (hX : ∀ x ∈ X, col x = c) (n : c ≠ 2) : DkAt H' q m := h.dk.gr g (ncol hX h.cq n)
theorem LH.slN (h : LH K C C2 C3 F0 H0 F H q pg fl sl dl tA mA m Z W TF sxs dxs stL ds there met u R col) (g : Gr X F H F' H') {c : Nat} (hX : ∀ x ∈ X, col x = c) (n : c ≠ 3) : H' sl = some (.lst sxs) := g.at (ncol hX h.cs n) h.hs
theorem LH.dlN (h : LH K C C2 C3 F0 H0 F H q pg fl sl dl tA mA m Z W TF sxs dxs stL ds there met u R col) (g : Gr X F H F' H') {c : Nat} (hX : ∀ x ∈ X, col x = c) (n : c ≠ 4) : H' dl = some (.lst dxs) := g.at (ncol hX h.cd n) h.hd
theorem LH.tlN (h : LH K C C2 C3 F0 H0 F H q pg fl sl dl tA mA m Z W TF sxs dxs stL ds there met u R col) (g : Gr X F H F' H') {c : Nat} (hX : ∀ x ∈ X, col x = c) (n : c ≠ 5) : H' tA = some (.lst (there.map V.int)) := g.at (ncol hX h.ct n) h.tl
theorem LH.mlN (h : LH K C C2 C3 F0 H0 F H q pg fl sl dl tA mA m Z W TF sxs dxs stL ds there met u R col) (g : Gr X F H F' H') {c : Nat} (hX : ∀ x ∈ X, col x = c) (n : c ≠ 6) : H' mA = some (.lst (met.map V.int)) := g.at (ncol hX h.cm n) h.ml
theorem LH.f5 (h : LH K C C2 C3 F0 H0 F H q pg fl sl dl tA mA m Z W TF sxs dxs stL ds there met u R col) (g : Gr X F H F' H') : F' q = none ∧ F' sl = none ∧ F' dl = none ∧ F' tA = none ∧ F' mA = none :=
  ⟨g.own q h.fq h.dk.live, g.own sl h.fs (by rw [h.hs]; exact fun z => nomatch z), g.own dl h.fd (by rw [h.hd]; exact fun z => nomatch z), g.own tA h.ft (by rw [h.tl]; exact fun z => nomatch z), g.own mA h.fm (by rw [h.ml]; exact fun z => nomatch z)⟩
theorem nilX {col : Addr → Nat} {c : Nat} : ∀ x ∈ ([] : List Addr), col x = c := fun _ z => nomatch z
theorem oneX {col : Addr → Nat} {c : Nat} {a : Addr} (h : col a = c) : ∀ x ∈ [a], col x = c := fun x z => by rw [List.mem_singleton.mp z]; exact h
theorem LH.gr0 (h : LH K C C2 C3 F0 H0 F H q pg fl sl dl tA mA m Z W TF sxs dxs stL ds there met u R col) (g : Gr [] F H F' H') : LH K C C2 C3 F0 H0 F' H' q pg fl sl dl tA mA m Z W TF sxs dxs stL ds there met u R col := by
  obtain ⟨f1, f2, f3, f4, f5⟩ := h.f5 g
  exact ⟨h.g.trans g, h.pgN g nilX (c := 9) (by decide), h.tpN g nilX (c := 9) (by decide), h.dkN g nilX (c := 9) (by decide), h.slN g nilX (c := 9) (by decide), h.sd.to g.fs, h.dlN g nilX (c := 9) (by decide), h.dd.to g.fs, h.tlN g nilX (c := 9) (by decide), h.mlN g nilX (c := 9) (by decide), h.ru.to g.fs,
    f1, f2, f3, f4, f5, h.cW, h.cT, h.cq, h.cs, h.cd, h.ct, h.cm, h.fr⟩
theorem LH.deck (h : LH K C C2 C3 F0 H0 F H q pg fl sl dl tA mA m Z W TF sxs dxs stL ds there met u R col) (g : Gr [q] F H F' H') {m' : Nat} (d : DkAt H' q m') : LH K C C2 C3 F0 H0 F' H' q pg fl sl dl tA mA m' Z W TF sxs dxs stL ds there met u R col := by
  obtain ⟨f1, f2, f3, f4, f5⟩ := h.f5 g
  have o := oneX h.cq
  exact ⟨h.gN g o (by decide), h.pgN g o (by decide), h.tpN g o (by decide), d, h.slN g o (by decide), h.sd.to g.fs, h.dlN g o (by decide), h.dd.to g.fs, h.tlN g o (by decide), h.mlN g o (by decide), h.ru.to g.fs,
    f1, f2, f3, f4, f5, h.cW, h.cT, h.cq, h.cs, h.cd, h.ct, h.cm, h.fr⟩
theorem LH.page (h : LH K C C2 C3 F0 H0 F H q pg fl sl dl tA mA m Z W TF sxs dxs stL ds there met u R col) {Z' : PSt} (go : PGo K C C2 C3 F H pg W Z' F' H') : ∃ W' col', LH K C C2 C3 F0 H0 F' H' q pg fl sl dl tA mA m Z' W' TF sxs dxs stL ds there met u R col' := by
  obtain ⟨g, W', hp, n⟩ := go
  have o : ∀ x ∈ W, col x = 0 := h.cW
  obtain ⟨f1, f2, f3, f4, f5⟩ := h.f5 g
  have nw : ∀ x, H x ≠ none → col x ≠ 0 → x ∉ W' := fun x hx hc z => (n x z).elim (fun y => hc (h.cW x y)) hx
  have e : ∀ x, x ∉ W' → (if x ∈ W' then 0 else col x) = col x := fun x hx => if_neg hx
  refine ⟨W', fun x => if x ∈ W' then 0 else col x, h.gN g o (by decide), hp, h.tpN g o (by decide), h.dkN g o (by decide), h.slN g o (by decide), h.sd.to g.fs, h.dlN g o (by decide), h.dd.to g.fs, h.tlN g o (by decide), h.mlN g o (by decide), h.ru.to g.fs,
    f1, f2, f3, f4, f5, fun x hx => if_pos hx, fun x hx => ?_, ?_, ?_, ?_, ?_, ?_, fun x hx => ?_⟩
  · rw [e x (nw x (h.tp.live x hx) (by rw [h.cT x hx]; decide))]; exact h.cT x hx
  · rw [e q (nw q h.dk.live (by rw [h.cq]; decide))]; exact h.cq
  · rw [e sl (nw sl (by rw [h.hs]; exact fun z => nomatch z) (by rw [h.cs]; decide))]; exact h.cs
  · rw [e dl (nw dl (by rw [h.hd]; exact fun z => nomatch z) (by rw [h.cd]; decide))]; exact h.cd
  · rw [e tA (nw tA (by rw [h.tl]; exact fun z => nomatch z) (by rw [h.ct]; decide))]; exact h.ct
  · rw [e mA (nw mA (by rw [h.ml]; exact fun z => nomatch z) (by rw [h.cm]; decide))]; exact h.cm
  · by_cases z : x ∈ W'
    · rcases n x z with y | y
      · exact h.fr x (by rw [h.cW x y]; decide)
      · exact h.g.free y
    · rw [e x z] at hx; exact h.fr x hx
theorem LH.row (h : LH K C C2 C3 F0 H0 F H q pg fl sl dl tA mA m Z W TF sxs dxs stL ds there met u R col) (nk : (keysA TF).Nodup) {t : Int} {d : Addr} {row : AL Int} (ht : getA TF t = some (d, row)) (row' : AL Int) :
    LH K C C2 C3 F0 H0 F (upd H d (.dK (kM V.int row'))) q pg fl sl dl tA mA m Z W (setRow TF t row') sxs dxs stL ds there met u R col := by
  have hd : d ∈ fl :: addrsOf TF := List.mem_cons_of_mem _ (addr_mem (getA_mem ht))
  have g : Gr [d] F H F (upd H d (.dK (kM V.int row'))) := gr_put h.g.sub (h.tp.off d hd)
  have o := oneX (h.cT d hd)
  exact ⟨h.gN g o (by decide), h.pgN g o (by decide), h.tp.wRow nk ht row', h.dkN g o (by decide), h.slN g o (by decide), h.sd, h.dlN g o (by decide), h.dd, h.tlN g o (by decide), h.mlN g o (by decide), h.ru,
    h.fq, h.fs, h.fd, h.ft, h.fm, h.cW, by rw [setRow_addrs]; exact h.cT, h.cq, h.cs, h.cd, h.ct, h.cm, h.fr⟩
theorem LH.sapp (h : LH K C C2 C3 F0 H0 F H q pg fl sl dl tA mA m Z W TF sxs dxs stL ds there met u R col) {v : V} {p : Int × Int} (hv : Dp K F v (prZ p)) :
    LH K C C2 C3 F0 H0 F (upd H sl (.lst (sxs ++ [v]))) q pg fl sl dl tA mA m Z W TF (sxs ++ [v]) dxs (stL ++ [p]) ds there met u R col := by
  have g : Gr [sl] F H F (upd H sl (.lst (sxs ++ [v]))) := gr_put h.g.sub h.fs
  have o := oneX h.cs
  exact ⟨h.gN g o (by decide), h.pgN g o (by decide), h.tpN g o (by decide), h.dkN g o (by decide), upd_same, by rw [List.map_append]; exact dp_app h.sd (.cons hv .nil), h.dlN g o (by decide), h.dd, h.tlN g o (by decide), h.mlN g o (by decide), h.ru,
    h.fq, h.fs, h.fd, h.ft, h.fm, h.cW, h.cT, h.cq, h.cs, h.cd, h.ct, h.cm, h.fr⟩
theorem LH.dapp (h : LH K C C2 C3 F0 H0 F H q pg fl sl dl tA mA m Z W TF sxs dxs stL ds there met u R col) {v : V} {p : Deed} (hv : Dp K F v (deedD p)) :
    LH K C C2 C3 F0 H0 F (upd H dl (.lst (dxs ++ [v]))) q pg fl sl dl tA mA m Z W TF sxs (dxs ++ [v]) stL (ds ++ [p]) there met u R col := by
  have g : Gr [dl] F H F (upd H dl (.lst (dxs ++ [v]))) := gr_put h.g.sub h.fd
  have o := oneX h.cd
  exact ⟨h.gN g o (by decide), h.pgN g o (by decide), h.tpN g o (by decide), h.dkN g o (by decide), h.slN g o (by decide), h.sd, upd_same, by rw [List.map_append]; exact dp_app h.dd (.cons hv .nil), h.tlN g o (by decide), h.mlN g o (by decide), h.ru,
    h.fq, h.fs, h.fd, h.ft, h.fm, h.cW, h.cT, h.cq, h.cs, h.cd, h.ct, h.cm, h.fr⟩
/-- a new thing gets a colour -/
theorem recol {col : Addr → Nat} {p x : Addr} {c : Nat} (n : x ≠ p) : (if x = p then c else col x) = col x := if_neg n
theorem LH.neP (h : LH K C C2 C3 F0 H0 F H q pg fl sl dl tA mA m Z W TF sxs dxs stL ds there met u R col) {p : Addr} (hp : H p = none) : (∀ x ∈ W, x ≠ p) ∧ (∀ x ∈ fl :: addrsOf TF, x ≠ p) ∧ q ≠ p ∧ sl ≠ p ∧ dl ≠ p ∧ tA ≠ p ∧ mA ≠ p :=
  ⟨fun x hx z => h.pg.live x hx (by rw [z]; exact hp), fun x hx z => h.tp.live x hx (by rw [z]; exact hp), fun z => h.dk.live (by rw [z]; exact hp), (fun z => by have := h.hs; rw [z, hp] at this; cases this), (fun z => by have := h.hd; rw [z, hp] at this; cases this), (fun z => by have := h.tl; rw [z, hp] at this; cases this), (fun z => by have := h.ml; rw [z, hp] at this; cases this)⟩
theorem LH.frP (h : LH K C C2 C3 F0 H0 F H q pg fl sl dl tA mA m Z W TF sxs dxs stL ds there met u R col) {p : Addr} (hp : H p = none) {c : Nat} : ∀ x, (if x = p then c else col x) < 7 → H0 x = none := fun x hx => by
  by_cases z : x = p
  · rw [z]; exact h.g.free hp
  · rw [recol z] at hx; exact h.fr x hx
theorem LH.snew (h : LH K C C2 C3 F0 H0 F H q pg fl sl dl tA mA m Z W TF sxs dxs stL ds there met u R col) (g : Gr [] F H F' H') {p : Addr} (hp : H p = none) {xs : List V} {l : List (Int × Int)} (hx : H' p = some (.lst xs)) (fp : F' p = none) (hd : DpAll K F' xs (l.map prZ)) :
    ∃ col', LH K C C2 C3 F0 H0 F' H' q pg fl p dl tA mA m Z W TF xs dxs l ds there met u R col' := by
  obtain ⟨f1, f2, f3, f4, f5⟩ := h.f5 g
  obtain ⟨n1, n2, n3, n4, n5, n6, n7⟩ := h.neP hp
  exact ⟨fun x => if x = p then 3 else col x, h.g.trans g, h.pgN g nilX (c := 9) (by decide), h.tpN g nilX (c := 9) (by decide), h.dkN g nilX (c := 9) (by decide), hx, hd, h.dlN g nilX (c := 9) (by decide), h.dd.to g.fs, h.tlN g nilX (c := 9) (by decide), h.mlN g nilX (c := 9) (by decide), h.ru.to g.fs,
    f1, fp, f3, f4, f5, fun x hx => (recol (n1 x hx)).trans (h.cW x hx), fun x hx => (recol (n2 x hx)).trans (h.cT x hx), (recol n3).trans h.cq, if_pos rfl, (recol n5).trans h.cd, (recol n6).trans h.ct, (recol n7).trans h.cm, h.frP hp⟩
theorem LH.tnew (h : LH K C C2 C3 F0 H0 F H q pg fl sl dl tA mA m Z W TF sxs dxs stL ds there met u R col) (g : Gr [] F H F' H') {p : Addr} (hp : H p = none) {l : List Int} (hx : H' p = some (.lst (l.map V.int))) (fp : F' p = none) :
    ∃ col', LH K C C2 C3 F0 H0 F' H' q pg fl sl dl p mA m Z W TF sxs dxs stL ds l met u R col' := by
  obtain ⟨f1, f2, f3, f4, f5⟩ := h.f5 g
  obtain ⟨n1, n2, n3, n4, n5, n6, n7⟩ := h.neP hp
  exact ⟨fun x => if x = p then 5 else col x, h.g.trans g, h.pgN g nilX (c := 9) (by decide), h.tpN g nilX (c := 9) (by decide), h.dkN g nilX (c := 9) (by decide), h.slN g nilX (c := 9) (by decide), h.sd.to g.fs, h.dlN g nilX (c := 9) (by decide), h.dd.to g.fs, hx, h.mlN g nilX (c := 9) (by decide), h.ru.to g.fs,
    f1, f2, f3, fp, f5, fun x hx => (recol (n1 x hx)).trans (h.cW x hx), fun x hx => (recol (n2 x hx)).trans (h.cT x hx), (recol n3).trans h.cq, (recol n4).trans h.cs, (recol n5).trans h.cd, if_pos rfl, (recol n7).trans h.cm, h.frP hp⟩
theorem LH.mnew (h : LH K C C2 C3 F0 H0 F H q pg fl sl dl tA mA m Z W TF sxs dxs stL ds there met u R col) (g : Gr [] F H F' H') {p : Addr} (hp : H p = none) {l : List Int} (hx : H' p = some (.lst (l.map V.int))) (fp : F' p = none) :
    ∃ col', LH K C C2 C3 F0 H0 F' H' q pg fl sl dl tA p m Z W TF sxs dxs stL ds there l u R col' := by
  obtain ⟨f1, f2, f3, f4, f5⟩ := h.f5 g
  obtain ⟨n1, n2, n3, n4, n5, n6, n7⟩ := h.neP hp
  exact ⟨fun x => if x = p then 6 else col x, h.g.trans g, h.pgN g nilX (c := 9) (by decide), h.tpN g nilX (c := 9) (by decide), h.dkN g nilX (c := 9) (by decide), h.slN g nilX (c := 9) (by decide), h.sd.to g.fs, h.dlN g nilX (c := 9) (by decide), h.dd.to g.fs, h.tlN g nilX (c := 9) (by decide), hx, h.ru.to g.fs,
    f1, f2, f3, f4, fp, fun x hx => (recol (n1 x hx)).trans (h.cW x hx), fun x hx => (recol (n2 x hx)).trans (h.cT x hx), (recol n3).trans h.cq, (recol n4).trans h.cs, (recol n5).trans h.cd, (recol n6).trans h.ct, if_pos rfl, h.frP hp⟩
theorem LH.flnew (h : LH K C C2 C3 F0 H0 F H q pg fl sl dl tA mA m Z W TF sxs dxs stL ds there met u R col) (g : Gr [] F H F' H') {d : Addr} (hp : H d = none) {row : AL Int} (hx : H' d = some (.dK (kM V.int row))) (fp : F' d = none) (c : Int) :
    ∃ col', LH K C C2 C3 F0 H0 F' (upd H' fl (.dK (kM (fun x : Addr × AL Int => V.ref x.1) (TF ++ [(c, (d, row))])))) q pg fl sl dl tA mA m Z W (TF ++ [(c, (d, row))]) sxs dxs stL ds there met u R col' := by
  have h1 := h.gr0 g
  obtain ⟨n1, n2, n3, n4, n5, n6, n7⟩ := h.neP hp
  have o := oneX (h1.cT fl (by simp))
  have gw : Gr [fl] F' H' F' (upd H' fl (.dK (kM (fun x : Addr × AL Int => V.ref x.1) (TF ++ [(c, (d, row))])))) := gr_put h1.g.sub (h1.tp.off fl (by simp))
  have ea : addrsOf (TF ++ [(c, (d, row))]) = addrsOf TF ++ [d] := by simp [addrsOf]
  refine ⟨fun x => if x = d then 1 else col x, h1.gN gw o (by decide), h1.pgN gw o (by decide), h1.tp.wNew hx (fun z => n2 d z rfl) fp, h1.dkN gw o (by decide), h1.slN gw o (by decide), h1.sd, h1.dlN gw o (by decide), h1.dd, h1.tlN gw o (by decide), h1.mlN gw o (by decide), h1.ru,
    h1.fq, h1.fs, h1.fd, h1.ft, h1.fm, fun x hx => (recol (n1 x hx)).trans (h.cW x hx), fun x hx => ?_, (recol n3).trans h.cq, (recol n4).trans h.cs, (recol n5).trans h.cd, (recol n6).trans h.ct, (recol n7).trans h.cm, h.frP hp⟩
  by_cases z : x = d
  · exact if_pos z
  · refine (recol z).trans (h.cT x ?_)
    rw [ea] at hx
    rcases List.mem_cons.mp hx with y | y
    · rw [y]; exact List.mem_cons_self
    · rcases List.mem_append.mp y with y | y
      · exact List.mem_cons_of_mem _ y
      · exact absurd (List.mem_singleton.mp y) z
theorem LH.fldrop (h : LH K C C2 C3 F0 H0 F H q pg fl sl dl tA mA m Z W TF sxs dxs stL ds there met u R col) (t : Int) :
    LH K C C2 C3 F0 H0 F (upd H fl (.dK (kM (fun x : Addr × AL Int => V.ref x.1) (dropA TF t)))) q pg fl sl dl tA mA m Z W (dropA TF t) sxs dxs stL ds there met u R col := by
  have o := oneX (h.cT fl (by simp))
  have gw : Gr [fl] F H F (upd H fl (.dK (kM (fun x : Addr × AL Int => V.ref x.1) (dropA TF t)))) := gr_put h.g.sub (h.tp.off fl (by simp))
  refine ⟨h.gN gw o (by decide), h.pgN gw o (by decide), h.tp.wDrop t, h.dkN gw o (by decide), h.slN gw o (by decide), h.sd, h.dlN gw o (by decide), h.dd, h.tlN gw o (by decide), h.mlN gw o (by decide), h.ru,
    h.fq, h.fs, h.fd, h.ft, h.fm, h.cW, fun x hx => h.cT x ?_, h.cq, h.cs, h.cd, h.ct, h.cm, h.fr⟩
  rcases List.mem_cons.mp hx with y | y
  · rw [y]; exact List.mem_cons_self
  · obtain ⟨w, hw, e⟩ := List.mem_map.mp y
    rw [← e]
    exact List.mem_cons_of_mem _ (addr_mem (List.mem_filter.mp hw).1)
theorem LH.asked (h : LH K C C2 C3 F0 H0 F H q pg fl sl dl tA mA m Z W TF sxs dxs stL Z.ds there met u R col) {n : Int} (pw : PWell n R Z) (rel : LRel Z.st Z.fg (sheetsOf TF) stL there met) (rk : ruleOk R) : Asked K C C2 C3 F H pg fl sl dl Z W TF sxs dxs stL there met n R u :=
  ⟨h.g.sub, h.pg, pw, h.tp, (fun z => by have a := h.cW fl z; rw [h.cT fl (by simp)] at a; cases a), h.hs, h.sd, h.hd, h.dd, rel, h.ru, rk⟩
theorem LH.apart (h : LH K C C2 C3 F0 H0 F H q pg fl sl dl tA mA m Z W TF sxs dxs stL ds there met u R col) : q ∉ W ∧ q ∉ fl :: addrsOf TF ∧ sl ≠ q ∧ dl ≠ q ∧ tA ≠ q ∧ mA ≠ q :=
  ⟨(fun z => by have a := h.cW q z; rw [h.cq] at a; cases a), (fun z => by have a := h.cT q z; rw [h.cq] at a; cases a), (fun z => by have a := h.cs; rw [z, h.cq] at a; cases a), (fun z => by have a := h.cd; rw [z, h.cq] at a; cases a), (fun z => by have a := h.ct; rw [z, h.cq] at a; cases a), (fun z => by have a := h.cm; rw [z, h.cq] at a; cases a)⟩
/-! ### sizes -/
theorem sl_len {stL : List (Int × Int)} {met : List Int} {j : Nat} (h : stL.length ≤ j * 2 ^ met.length) (c : PCall) : (slStep stL c).length ≤ (j + 1) * 2 ^ (metStep met c).length := by
  have p : 1 ≤ 2 ^ met.length := Nat.one_le_two_pow
  cases c with
  | load t a =>
    show stL.length ≤ (j + 1) * 2 ^ met.length
    rw [Nat.add_mul]; omega
  | store t a f =>
    show (stL ++ [_]).length ≤ (j + 1) * 2 ^ met.length
    rw [List.length_append, Nat.add_mul]
    simp
    omega
  | fork t c =>
    show (stL ++ _).length ≤ (j + 1) * 2 ^ (met ++ [c]).length
    rw [List.length_append, List.length_map, List.length_append, List.length_singleton, Nat.pow_succ, Nat.add_mul]
    have := List.length_filter_le (fun p : Int × Int => decide (p.1 = t)) stL
    have e : j * (2 ^ met.length * 2) = (j * 2 ^ met.length) + (j * 2 ^ met.length) := by rw [Nat.mul_two, Nat.mul_add]
    rw [e]
    omega
  | fin t =>
    show stL.length ≤ (j + 1) * 2 ^ met.length
    rw [Nat.add_mul]; omega
theorem met_ok {there met : List Int} (nd : met.Nodup) (rg : ∀ t ∈ met, 1 ≤ t ∧ t ≤ 6) {c : PCall} (ok : CallOk there met c) : (metStep met c).Nodup ∧ ∀ t ∈ metStep met c, 1 ≤ t ∧ t ≤ 6 := by
  cases c with
  | load t a => exact ⟨nd, rg⟩
  | store t a f => exact ⟨nd, rg⟩
  | fork t c =>
    obtain ⟨_, hc, hn⟩ := ok
    refine ⟨nodup_snoc nd hn, fun x hx => ?_⟩
    rcases List.mem_append.mp hx with h | h
    · exact rg x h
    · rw [List.mem_singleton.mp h]; exact hc
  | fin t => exact ⟨nd, rg⟩
theorem met_len {l : List Int} (nd : l.Nodup) (rg : ∀ t ∈ l, 1 ≤ t ∧ t ≤ 6) : l.length ≤ 6 := by
  have k1 : ∀ b ∈ l, b ∈ ([1, 2, 3, 4, 5, 6] : List Int) := fun b hb => by
    have := rg b hb
    simp
    omega
  simpa using len_of_sub nd k1
theorem sl_cap {stL : List (Int × Int)} {met : List Int} {j : Nat} (h : stL.length ≤ j * 2 ^ met.length) (hm : met.length ≤ 6) (hj : j ≤ 100) : stL.length ≤ 6400 := by
  have : 2 ^ met.length ≤ 2 ^ 6 := Nat.pow_le_pow_right (by decide) hm
  have := Nat.mul_le_mul hj this
  omega
end Pg
namespace Pg
open PySem PySem.Spec PyProof.Rows L2 DL Bo Fr Lw Dx
/-- between two turns -/
def LS (K : PySem.W.Frag) (C C2 C3 : Addr) (F0 H0 : Hp) (sa q pg fl dl : Addr) (n : Int) (u : V) (R : Rule) (j mm : Nat) (σ : L2.St) (H : Hp) : Prop :=
  ∃ (F : Hp) (m : Nat) (Z : PSt) (W : List Addr) (TF : AL (Addr × AL Int)) (sxs dxs : List V) (stL : List (Int × Int)) (there met : List Int) (col : Addr → Nat) (sl tA mA : Addr) (o1 o11 o12 o13 o14 o15 o16 o17 : Option V),
    LH K C C2 C3 F0 H0 F H q pg fl sl dl tA mA m Z W TF sxs dxs stL Z.ds there met u R col ∧ PWell n R Z ∧ LRel Z.st Z.fg (sheetsOf TF) stL there met ∧ ruleOk R ∧ Z.ds.length = j ∧ m ≤ mm ∧ stL.length ≤ j * 2 ^ met.length ∧ met.Nodup ∧ (∀ t ∈ met, 1 ≤ t ∧ t ≤ 6) ∧
    σ = [some (V.ref sa), o1, some (V.ref q), some (V.int n), some u, some (V.ref pg), some (V.ref fl), some (V.ref sl), some (V.ref dl), some (V.ref tA), some (V.ref mA), o11, o12, o13, o14, o15, o16, o17]
def spLawK13 (K : PySem.W.Frag) : Sp := fun vs H Q _ => ∃ (a : Addr) (ns : List Int), vs = [.ref a] ∧ SqL K H a (ns.map V.int) ∧ ns.length ≤ 63 ∧ ∀ H', Q (.bl true) H'
end Pg
namespace Pg
open PySem PySem.Spec PyProof.Rows L2 DL Bo Fr Lw Dx
/-- colours by the first heap that has a thing -/
def colOf : List (Hp × Nat) → Addr → Nat
  | [], _ => 9
  | p :: l, x => if (p.1 x).isSome = true then p.2 else colOf l x
theorem colOf_hit {p : Hp × Nat} {l : List (Hp × Nat)} {x : Addr} (h : p.1 x ≠ none) : colOf (p :: l) x = p.2 := by
  unfold colOf
  exact if_pos (by cases e : p.1 x with
    | none => exact absurd e h
    | some o => rfl)
theorem colOf_miss {p : Hp × Nat} {l : List (Hp × Nat)} {x : Addr} (h : p.1 x = none) : colOf (p :: l) x = colOf l x := by
  conv => lhs; unfold colOf
  exact if_neg (by rw [h]; exact fun z => nomatch z)
end Pg
namespace Pg
open PySem PySem.Spec PyProof.Rows L2 DL Bo Fr Lw Dx
theorem body_st0 (t s : Int) : bodyOf st0 t s = none := by
  unfold bodyOf
  have : (getA st0.sheets t).getD [] = [] := by
    show (getA [((1 : Int), ([] : AL Int))] t).getD [] = []
    rw [getA_cons, getA_nil]
    split <;> rfl
  rw [this]
  rfl
theorem PWell.zero {n : Int} (h1 : 1 ≤ n) (h2 : n ≤ 16) (R : Rule) : PWell n R ⟨st0, fst0 n R, [], []⟩ := by
  refine ⟨rfl, by simp, rfl, rfl, ⟨List.nodup_nil, fun b => ⟨fun z => ?_, fun z => ?_⟩, fun p z => ?_, fun p z => ?_, fun t t' s s' b e1 e2 => ?_⟩, h1, h2⟩
  · cases z
  · obtain ⟨t, s, e⟩ := z
    rw [show bodyOf (PSt.mk st0 (fst0 n R) [] []).st t s = none from body_st0 t s] at e
    cases e
  · cases z
  · cases z
  · rw [show bodyOf (PSt.mk st0 (fst0 n R) [] []).st t s = none from body_st0 t s] at e1
    cases e1
end Pg

namespace K13
open PySem PySem.Spec PyProof.Rows L2 DL
def topS (i : Nat) : Stmt := PySem.Challenge.pw_tasksapart_k13_whole_pages_as_one_flat_m.main.body.getD i (.Pass ⟨0, 0, 0, 0⟩)
abbrev s_is_from : Stmt := topS 11
abbrev N_is_from : List Str := ["value", "low", "high"]
abbrev P_is_from : List Str := ["value", "low", "high"]
theorem sc_is_from : FnScope N_is_from P_is_from (defScope s_is_from) := ⟨rfl, rfl, rfl, by decide +kernel, rfl, by decide +kernel, by decide +kernel⟩
abbrev s_is_tuple : Stmt := topS 12
abbrev N_is_tuple : List Str := ["value", "low", "high"]
abbrev P_is_tuple : List Str := ["value", "low", "high"]
theorem sc_is_tuple : FnScope N_is_tuple P_is_tuple (defScope s_is_tuple) := ⟨rfl, rfl, rfl, by decide +kernel, rfl, by decide +kernel, by decide +kernel⟩
abbrev s_is_figure : Stmt := topS 16
abbrev N_is_figure : List Str := ["value"]
abbrev P_is_figure : List Str := ["value"]
theorem sc_is_figure : FnScope N_is_figure P_is_figure (defScope s_is_figure) := ⟨rfl, rfl, rfl, by decide +kernel, rfl, by decide +kernel, by decide +kernel⟩
abbrev s_is_address : Stmt := topS 17
abbrev N_is_address : List Str := ["value"]
abbrev P_is_address : List Str := ["value"]
theorem sc_is_address : FnScope N_is_address P_is_address (defScope s_is_address) := ⟨rfl, rfl, rfl, by decide +kernel, rfl, by decide +kernel, by decide +kernel⟩
abbrev s_Bodies___init__ : Stmt := inClass (topS 27) 0
abbrev N_Bodies___init__ : List Str := ["self"]
abbrev P_Bodies___init__ : List Str := ["self"]
theorem sc_Bodies___init__ : FnScope N_Bodies___init__ P_Bodies___init__ (defScope s_Bodies___init__) := ⟨rfl, rfl, rfl, by decide +kernel, rfl, by decide +kernel, by decide +kernel⟩
abbrev s_Bodies_is_there : Stmt := inClass (topS 27) 2
abbrev N_Bodies_is_there : List Str := ["self", "task"]
abbrev P_Bodies_is_there : List Str := ["self", "task"]
theorem sc_Bodies_is_there : FnScope N_Bodies_is_there P_Bodies_is_there (defScope s_Bodies_is_there) := ⟨rfl, rfl, rfl, by decide +kernel, rfl, by decide +kernel, by decide +kernel⟩
abbrev s_Bodies_can_come : Stmt := inClass (topS 27) 3
abbrev N_Bodies_can_come : List Str := ["self", "task"]
abbrev P_Bodies_can_come : List Str := ["self", "task"]
theorem sc_Bodies_can_come : FnScope N_Bodies_can_come P_Bodies_can_come (defScope s_Bodies_can_come) := ⟨rfl, rfl, rfl, by decide +kernel, rfl, by decide +kernel, by decide +kernel⟩
abbrev s_Bodies_body : Stmt := inClass (topS 27) 4
abbrev N_Bodies_body : List Str := ["self", "task", "sheet"]
abbrev P_Bodies_body : List Str := ["self", "task", "sheet"]
theorem sc_Bodies_body : FnScope N_Bodies_body P_Bodies_body (defScope s_Bodies_body) := ⟨rfl, rfl, rfl, by decide +kernel, rfl, by decide +kernel, by decide +kernel⟩
abbrev s_Bodies_with_body : Stmt := inClass (topS 27) 5
abbrev N_Bodies_with_body : List Str := ["self", "task", "sheet", "body"]
abbrev P_Bodies_with_body : List Str := ["self", "task", "sheet"]
theorem sc_Bodies_with_body : FnScope N_Bodies_with_body P_Bodies_with_body (defScope s_Bodies_with_body) := ⟨rfl, rfl, rfl, by decide +kernel, rfl, by decide +kernel, by decide +kernel⟩
abbrev s_Bodies_load : Stmt := inClass (topS 27) 6
abbrev N_Bodies_load : List Str := ["self", "task", "sheet", "body"]
abbrev P_Bodies_load : List Str := ["self", "task", "sheet"]
theorem sc_Bodies_load : FnScope N_Bodies_load P_Bodies_load (defScope s_Bodies_load) := ⟨rfl, rfl, rfl, by decide +kernel, rfl, by decide +kernel, by decide +kernel⟩
abbrev s_Bodies_store : Stmt := inClass (topS 27) 7
abbrev N_Bodies_store : List Str := ["self", "task", "sheet", "events", "body"]
abbrev P_Bodies_store : List Str := ["self", "task", "sheet"]
theorem sc_Bodies_store : FnScope N_Bodies_store P_Bodies_store (defScope s_Bodies_store) := ⟨rfl, rfl, rfl, by decide +kernel, rfl, by decide +kernel, by decide +kernel⟩
abbrev s_Bodies_fork : Stmt := inClass (topS 27) 8
abbrev N_Bodies_fork : List Str := ["self", "task", "child", "sheets", "body"]
abbrev P_Bodies_fork : List Str := ["self", "task", "child"]
theorem sc_Bodies_fork : FnScope N_Bodies_fork P_Bodies_fork (defScope s_Bodies_fork) := ⟨rfl, rfl, rfl, by decide +kernel, rfl, by decide +kernel, by decide +kernel⟩
abbrev s_Bodies_end : Stmt := inClass (topS 27) 9
abbrev N_Bodies_end : List Str := ["self", "task", "gone", "body"]
abbrev P_Bodies_end : List Str := ["self", "task"]
theorem sc_Bodies_end : FnScope N_Bodies_end P_Bodies_end (defScope s_Bodies_end) := ⟨rfl, rfl, rfl, by decide +kernel, rfl, by decide +kernel, by decide +kernel⟩
abbrev s_Bodies_done : Stmt := inClass (topS 27) 10
abbrev N_Bodies_done : List Str := ["self", "deed", "word", "task"]
abbrev P_Bodies_done : List Str := ["self", "deed"]
theorem sc_Bodies_done : FnScope N_Bodies_done P_Bodies_done (defScope s_Bodies_done) := ⟨rfl, rfl, rfl, by decide +kernel, rfl, by decide +kernel, by decide +kernel⟩
abbrev s_is_deed : Stmt := topS 28
abbrev N_is_deed : List Str := ["bodies", "value"]
abbrev P_is_deed : List Str := ["bodies", "value"]
theorem sc_is_deed : FnScope N_is_deed P_is_deed (defScope s_is_deed) := ⟨rfl, rfl, rfl, by decide +kernel, rfl, by decide +kernel, by decide +kernel⟩
abbrev s_gone_through : Stmt := topS 29
abbrev N_gone_through : List Str := ["deeds", "bodies", "events", "index", "deed"]
abbrev P_gone_through : List Str := ["deeds"]
theorem sc_gone_through : FnScope N_gone_through P_gone_through (defScope s_gone_through) := ⟨rfl, rfl, rfl, by decide +kernel, rfl, by decide +kernel, by decide +kernel⟩
abbrev s_need_frames : Stmt := topS 37
abbrev N_need_frames : List Str := ["frames"]
abbrev P_need_frames : List Str := ["frames"]
theorem sc_need_frames : FnScope N_need_frames P_need_frames (defScope s_need_frames) := ⟨rfl, rfl, rfl, by decide +kernel, rfl, by decide +kernel, by decide +kernel⟩
abbrev s_are_choices : Stmt := topS 38
abbrev N_are_choices : List Str := ["value", "choice"]
abbrev P_are_choices : List Str := ["value"]
theorem sc_are_choices : FnScope N_are_choices P_are_choices (defScope s_are_choices) := ⟨rfl, rfl, rfl, by decide +kernel, rfl, by decide +kernel, by decide +kernel⟩
abbrev s_is_rule : Stmt := topS 39
abbrev N_is_rule : List Str := ["value"]
abbrev P_is_rule : List Str := ["value"]
theorem sc_is_rule : FnScope N_is_rule P_is_rule (defScope s_is_rule) := ⟨rfl, rfl, rfl, by decide +kernel, rfl, by decide +kernel, by decide +kernel⟩
abbrev s_need_rule : Stmt := topS 40
abbrev N_need_rule : List Str := ["rule"]
abbrev P_need_rule : List Str := ["rule"]
theorem sc_need_rule : FnScope N_need_rule P_need_rule (defScope s_need_rule) := ⟨rfl, rfl, rfl, by decide +kernel, rfl, by decide +kernel, by decide +kernel⟩
abbrev s_Frames___init__ : Stmt := inClass (topS 41) 0
abbrev N_Frames___init__ : List Str := ["self", "many", "rule"]
abbrev P_Frames___init__ : List Str := ["self", "many", "rule"]
theorem sc_Frames___init__ : FnScope N_Frames___init__ P_Frames___init__ (defScope s_Frames___init__) := ⟨rfl, rfl, rfl, by decide +kernel, rfl, by decide +kernel, by decide +kernel⟩
abbrev s_Frames_inside : Stmt := inClass (topS 41) 2
abbrev N_Frames_inside : List Str := ["self"]
abbrev P_Frames_inside : List Str := ["self"]
theorem sc_Frames_inside : FnScope N_Frames_inside P_Frames_inside (defScope s_Frames_inside) := ⟨rfl, rfl, rfl, by decide +kernel, rfl, by decide +kernel, by decide +kernel⟩
abbrev s_Frames_chosen : Stmt := inClass (topS 41) 3
abbrev N_Frames_chosen : List Str := ["self", "choices", "choice"]
abbrev P_Frames_chosen : List Str := ["self"]
theorem sc_Frames_chosen : FnScope N_Frames_chosen P_Frames_chosen (defScope s_Frames_chosen) := ⟨rfl, rfl, rfl, by decide +kernel, rfl, by decide +kernel, by decide +kernel⟩
abbrev s_Frames_put_out : Stmt := inClass (topS 41) 4
abbrev N_Frames_put_out : List Str := ["self", "body"]
abbrev P_Frames_put_out : List Str := ["self"]
theorem sc_Frames_put_out : FnScope N_Frames_put_out P_Frames_put_out (defScope s_Frames_put_out) := ⟨rfl, rfl, rfl, by decide +kernel, rfl, by decide +kernel, by decide +kernel⟩
abbrev s_Frames_look : Stmt := inClass (topS 41) 5
abbrev N_Frames_look : List Str := ["self", "body"]
abbrev P_Frames_look : List Str := ["self", "body"]
theorem sc_Frames_look : FnScope N_Frames_look P_Frames_look (defScope s_Frames_look) := ⟨rfl, rfl, rfl, by decide +kernel, rfl, by decide +kernel, by decide +kernel⟩
abbrev s_Frames_leave : Stmt := inClass (topS 41) 6
abbrev N_Frames_leave : List Str := ["self", "body"]
abbrev P_Frames_leave : List Str := ["self", "body"]
theorem sc_Frames_leave : FnScope N_Frames_leave P_Frames_leave (defScope s_Frames_leave) := ⟨rfl, rfl, rfl, by decide +kernel, rfl, by decide +kernel, by decide +kernel⟩
abbrev s_Frames_come : Stmt := inClass (topS 41) 7
abbrev N_Frames_come : List Str := ["self", "event", "word", "body"]
abbrev P_Frames_come : List Str := ["self", "event"]
theorem sc_Frames_come : FnScope N_Frames_come P_Frames_come (defScope s_Frames_come) := ⟨rfl, rfl, rfl, by decide +kernel, rfl, by decide +kernel, by decide +kernel⟩
abbrev s_Pages___init__ : Stmt := inClass (topS 43) 0
abbrev N_Pages___init__ : List Str := ["self", "frames", "rule"]
abbrev P_Pages___init__ : List Str := ["self", "frames", "rule"]
theorem sc_Pages___init__ : FnScope N_Pages___init__ P_Pages___init__ (defScope s_Pages___init__) := ⟨rfl, rfl, rfl, by decide +kernel, rfl, by decide +kernel, by decide +kernel⟩
abbrev s_Pages_need_task : Stmt := inClass (topS 43) 1
abbrev N_Pages_need_task : List Str := ["self", "task"]
abbrev P_Pages_need_task : List Str := ["self", "task"]
theorem sc_Pages_need_task : FnScope N_Pages_need_task P_Pages_need_task (defScope s_Pages_need_task) := ⟨rfl, rfl, rfl, by decide +kernel, rfl, by decide +kernel, by decide +kernel⟩
abbrev s_Pages_need_cell : Stmt := inClass (topS 43) 2
abbrev N_Pages_need_cell : List Str := ["self", "task", "address"]
abbrev P_Pages_need_cell : List Str := ["self", "task", "address"]
theorem sc_Pages_need_cell : FnScope N_Pages_need_cell P_Pages_need_cell (defScope s_Pages_need_cell) := ⟨rfl, rfl, rfl, by decide +kernel, rfl, by decide +kernel, by decide +kernel⟩
abbrev s_Pages_come : Stmt := inClass (topS 43) 3
abbrev N_Pages_come : List Str := ["self", "events", "event"]
abbrev P_Pages_come : List Str := ["self", "events"]
theorem sc_Pages_come : FnScope N_Pages_come P_Pages_come (defScope s_Pages_come) := ⟨rfl, rfl, rfl, by decide +kernel, rfl, by decide +kernel, by decide +kernel⟩
abbrev s_Pages_keep : Stmt := inClass (topS 43) 4
abbrev N_Pages_keep : List Str := ["self", "call", "deed"]
abbrev P_Pages_keep : List Str := ["self", "call", "deed"]
theorem sc_Pages_keep : FnScope N_Pages_keep P_Pages_keep (defScope s_Pages_keep) := ⟨rfl, rfl, rfl, by decide +kernel, rfl, by decide +kernel, by decide +kernel⟩
abbrev s_Pages_load : Stmt := inClass (topS 43) 5
abbrev N_Pages_load : List Str := ["self", "task", "address", "sheet", "place", "body"]
abbrev P_Pages_load : List Str := ["self", "task", "address"]
theorem sc_Pages_load : FnScope N_Pages_load P_Pages_load (defScope s_Pages_load) := ⟨rfl, rfl, rfl, by decide +kernel, rfl, by decide +kernel, by decide +kernel⟩
abbrev s_Pages_store : Stmt := inClass (topS 43) 6
abbrev N_Pages_store : List Str := ["self", "task", "address", "figure", "sheet", "place", "old", "events", "word", "body", "own"]
abbrev P_Pages_store : List Str := ["self", "task", "address", "figure"]
theorem sc_Pages_store : FnScope N_Pages_store P_Pages_store (defScope s_Pages_store) := ⟨rfl, rfl, rfl, by decide +kernel, rfl, by decide +kernel, by decide +kernel⟩
abbrev s_Pages_fork : Stmt := inClass (topS 43) 7
abbrev N_Pages_fork : List Str := ["self", "task", "child"]
abbrev P_Pages_fork : List Str := ["self", "task", "child"]
theorem sc_Pages_fork : FnScope N_Pages_fork P_Pages_fork (defScope s_Pages_fork) := ⟨rfl, rfl, rfl, by decide +kernel, rfl, by decide +kernel, by decide +kernel⟩
abbrev s_Pages_end : Stmt := inClass (topS 43) 8
abbrev N_Pages_end : List Str := ["self", "task", "events", "word", "body"]
abbrev P_Pages_end : List Str := ["self", "task"]
theorem sc_Pages_end : FnScope N_Pages_end P_Pages_end (defScope s_Pages_end) := ⟨rfl, rfl, rfl, by decide +kernel, rfl, by decide +kernel, by decide +kernel⟩
abbrev s_Pages_memory : Stmt := inClass (topS 43) 9
abbrev N_Pages_memory : List Str := ["self", "task", "found", "sheet", "body", "cells", "place", "figure"]
abbrev P_Pages_memory : List Str := ["self", "task"]
theorem sc_Pages_memory : FnScope N_Pages_memory P_Pages_memory (defScope s_Pages_memory) := ⟨rfl, rfl, rfl, by decide +kernel, rfl, by decide +kernel, by decide +kernel⟩
abbrev s_Pages_deeds : Stmt := inClass (topS 43) 10
abbrev N_Pages_deeds : List Str := ["self"]
abbrev P_Pages_deeds : List Str := ["self"]
theorem sc_Pages_deeds : FnScope N_Pages_deeds P_Pages_deeds (defScope s_Pages_deeds) := ⟨rfl, rfl, rfl, by decide +kernel, rfl, by decide +kernel, by decide +kernel⟩
abbrev s_Pages_misses : Stmt := inClass (topS 43) 11
abbrev N_Pages_misses : List Str := ["self"]
abbrev P_Pages_misses : List Str := ["self"]
theorem sc_Pages_misses : FnScope N_Pages_misses P_Pages_misses (defScope s_Pages_misses) := ⟨rfl, rfl, rfl, by decide +kernel, rfl, by decide +kernel, by decide +kernel⟩
abbrev s_Pages_inside : Stmt := inClass (topS 43) 12
abbrev N_Pages_inside : List Str := ["self"]
abbrev P_Pages_inside : List Str := ["self"]
theorem sc_Pages_inside : FnScope N_Pages_inside P_Pages_inside (defScope s_Pages_inside) := ⟨rfl, rfl, rfl, by decide +kernel, rfl, by decide +kernel, by decide +kernel⟩
abbrev s_Pages_body : Stmt := inClass (topS 43) 13
abbrev N_Pages_body : List Str := ["self", "task", "sheet"]
abbrev P_Pages_body : List Str := ["self", "task", "sheet"]
theorem sc_Pages_body : FnScope N_Pages_body P_Pages_body (defScope s_Pages_body) := ⟨rfl, rfl, rfl, by decide +kernel, rfl, by decide +kernel, by decide +kernel⟩
abbrev s_Pages_redo : Stmt := inClass (topS 43) 14
abbrev N_Pages_redo : List Str := ["self", "deed"]
abbrev P_Pages_redo : List Str := ["self", "deed"]
theorem sc_Pages_redo : FnScope N_Pages_redo P_Pages_redo (defScope s_Pages_redo) := ⟨rfl, rfl, rfl, by decide +kernel, rfl, by decide +kernel, by decide +kernel⟩
abbrev s_Pages_undo : Stmt := inClass (topS 43) 15
abbrev N_Pages_undo : List Str := ["self"]
abbrev P_Pages_undo : List Str := ["self"]
theorem sc_Pages_undo : FnScope N_Pages_undo P_Pages_undo (defScope s_Pages_undo) := ⟨rfl, rfl, rfl, by decide +kernel, rfl, by decide +kernel, by decide +kernel⟩
abbrev s_Pages_cells_of : Stmt := inClass (topS 43) 17
abbrev N_Pages_cells_of : List Str := ["self", "task"]
abbrev P_Pages_cells_of : List Str := ["self", "task"]
theorem sc_Pages_cells_of : FnScope N_Pages_cells_of P_Pages_cells_of (defScope s_Pages_cells_of) := ⟨rfl, rfl, rfl, by decide +kernel, rfl, by decide +kernel, by decide +kernel⟩
abbrev s_Pages___len__ : Stmt := inClass (topS 43) 18
abbrev N_Pages___len__ : List Str := ["self"]
abbrev P_Pages___len__ : List Str := ["self"]
theorem sc_Pages___len__ : FnScope N_Pages___len__ P_Pages___len__ (defScope s_Pages___len__) := ⟨rfl, rfl, rfl, by decide +kernel, rfl, by decide +kernel, by decide +kernel⟩
abbrev s_Pages___eq__ : Stmt := inClass (topS 43) 19
abbrev N_Pages___eq__ : List Str := ["self", "other"]
abbrev P_Pages___eq__ : List Str := ["self", "other"]
theorem sc_Pages___eq__ : FnScope N_Pages___eq__ P_Pages___eq__ (defScope s_Pages___eq__) := ⟨rfl, rfl, rfl, by decide +kernel, rfl, by decide +kernel, by decide +kernel⟩
abbrev s_is_integer : Stmt := topS 45
abbrev N_is_integer : List Str := ["value", "least", "most"]
abbrev P_is_integer : List Str := ["value", "least", "most"]
theorem sc_is_integer : FnScope N_is_integer P_is_integer (defScope s_is_integer) := ⟨rfl, rfl, rfl, by decide +kernel, rfl, by decide +kernel, by decide +kernel⟩
abbrev s_misses : Stmt := topS 47
abbrev N_misses : List Str := ["deeds", "frames", "rule", "events", "present", "event"]
abbrev P_misses : List Str := ["deeds", "frames", "rule"]
theorem sc_misses : FnScope N_misses P_misses (defScope s_misses) := ⟨rfl, rfl, rfl, by decide +kernel, rfl, by decide +kernel, by decide +kernel⟩
abbrev s_owners : Stmt := topS 48
abbrev N_owners : List Str := ["deeds", "body", "bodies", "found", "task", "sheets", "sheet", "own"]
abbrev P_owners : List Str := ["deeds", "body"]
theorem sc_owners : FnScope N_owners P_owners (defScope s_owners) := ⟨rfl, rfl, rfl, by decide +kernel, rfl, by decide +kernel, by decide +kernel⟩
abbrev s__law_deck : Stmt := topS 50
abbrev N__law_deck : List Str := ["script", "k", "cell", "state", "number"]
abbrev P__law_deck : List Str := ["script", "k"]
theorem sc__law_deck : FnScope N__law_deck P__law_deck (defScope s__law_deck) := ⟨rfl, rfl, rfl, by decide +kernel, rfl, by decide +kernel, by decide +kernel⟩
abbrev s__law_draw : Stmt := topS 51
abbrev N__law_draw : List Str := ["deck", "many", "digit", "mixed"]
abbrev P__law_draw : List Str := ["deck", "many"]
theorem sc__law_draw : FnScope N__law_draw P__law_draw (defScope s__law_draw) := ⟨rfl, rfl, rfl, by decide +kernel, rfl, by decide +kernel, by decide +kernel⟩
abbrev s__law_pick : Stmt := topS 52
abbrev N__law_pick : List Str := ["deck", "items"]
abbrev P__law_pick : List Str := ["deck", "items"]
theorem sc__law_pick : FnScope N__law_pick P__law_pick (defScope s__law_pick) := ⟨rfl, rfl, rfl, by decide +kernel, rfl, by decide +kernel, by decide +kernel⟩
abbrev s__law_same : Stmt := topS 53
abbrev N__law_same : List Str := ["told", "due", "one", "other"]
abbrev P__law_same : List Str := ["told", "due"]
theorem sc__law_same : FnScope N__law_same P__law_same (defScope s__law_same) := ⟨rfl, rfl, rfl, by decide +kernel, rfl, by decide +kernel, by decide +kernel⟩
abbrev s__law_rule : Stmt := topS 54
abbrev N__law_rule : List Str := ["deck", "choices", "turn"]
abbrev P__law_rule : List Str := ["deck"]
theorem sc__law_rule : FnScope N__law_rule P__law_rule (defScope s__law_rule) := ⟨rfl, rfl, rfl, by decide +kernel, rfl, by decide +kernel, by decide +kernel⟩
abbrev s__law_address : Stmt := topS 55
abbrev N__law_address : List Str := ["deck"]
abbrev P__law_address : List Str := ["deck"]
theorem sc__law_address : FnScope N__law_address P__law_address (defScope s__law_address) := ⟨rfl, rfl, rfl, by decide +kernel, rfl, by decide +kernel, by decide +kernel⟩
abbrev s__law_rows : Stmt := topS 56
abbrev N__law_rows : List Str := ["cells", "address"]
abbrev P__law_rows : List Str := ["cells"]
theorem sc__law_rows : FnScope N__law_rows P__law_rows (defScope s__law_rows) := ⟨rfl, rfl, rfl, by decide +kernel, rfl, by decide +kernel, by decide +kernel⟩
abbrev s__law_call : Stmt := topS 57
abbrev N__law_call : List Str := ["deck", "there", "met", "way", "task", "figure", "child"]
abbrev P__law_call : List Str := ["deck", "there", "met"]
theorem sc__law_call : FnScope N__law_call P__law_call (defScope s__law_call) := ⟨rfl, rfl, rfl, by decide +kernel, rfl, by decide +kernel, by decide +kernel⟩
abbrev s__law_done : Stmt := topS 58
abbrev N__law_done : List Str := ["pages", "call"]
abbrev P__law_done : List Str := ["pages", "call"]
theorem sc__law_done : FnScope N__law_done P__law_done (defScope s__law_done) := ⟨rfl, rfl, rfl, by decide +kernel, rfl, by decide +kernel, by decide +kernel⟩
abbrev s__law_bodies_right : Stmt := topS 59
abbrev N__law_bodies_right : List Str := ["pages", "flat", "stored", "seen", "task", "sheet", "body", "figures", "at"]
abbrev P__law_bodies_right : List Str := ["pages", "flat", "stored"]
theorem sc__law_bodies_right : FnScope N__law_bodies_right P__law_bodies_right (defScope s__law_bodies_right) := ⟨rfl, rfl, rfl, by decide +kernel, rfl, by decide +kernel, by decide +kernel⟩
abbrev s__law_asked : Stmt := topS 60
abbrev N__law_asked : List Str := ["deck", "pages", "flat", "stored", "deeds", "frames", "rule", "first", "turn", "way", "told", "task"]
abbrev P__law_asked : List Str := ["deck", "pages", "flat", "stored", "deeds", "frames", "rule"]
theorem sc__law_asked : FnScope N__law_asked P__law_asked (defScope s__law_asked) := ⟨rfl, rfl, rfl, by decide +kernel, rfl, by decide +kernel, by decide +kernel⟩
abbrev s__law_owners_right : Stmt := topS 61
abbrev N__law_owners_right : List Str := ["pages", "flat", "deeds", "body", "having", "task", "sheet"]
abbrev P__law_owners_right : List Str := ["pages", "flat", "deeds"]
theorem sc__law_owners_right : FnScope N__law_owners_right P__law_owners_right (defScope s__law_owners_right) := ⟨rfl, rfl, rfl, by decide +kernel, rfl, by decide +kernel, by decide +kernel⟩
abbrev s_law : Stmt := topS 62
abbrev N_law : List Str := ["script", "k", "deck", "frames", "rule", "pages", "flat", "stored", "deeds", "there", "met", "turn", "call", "task", "due", "cells", "own", "sheet"]
abbrev P_law : List Str := ["script"]
theorem sc_law : FnScope N_law P_law (defScope s_law) := ⟨rfl, rfl, rfl, by decide +kernel, rfl, by decide +kernel, by decide +kernel⟩
end K13

namespace K13
open PySem PySem.Spec PyProof.Rows L2 DL Bo Fr Lw Dx Pg
local macro_rules | `(tactic| walk_at "g0") => `(tactic| first
  | ((with_reducible refine S.var (v := ?v) ?hv ?_); case hv => exact rfl)
  | (with_reducible refine S.c ?_) | (with_reducible refine S.nil ?_) | (with_reducible refine S.cons ?_) | (with_reducible refine S.cb ?_) | (with_reducible refine S.op ?_) | (with_reducible refine S.un ?_)
  | (with_reducible refine S.test ?_) | (with_reducible refine S.tbT ?_) | (with_reducible refine S.bl ?_) | (with_reducible refine S.and ?_) | (with_reducible refine S.or ?_) | (with_reducible refine S.not ?_)
  | (with_reducible refine S.andV ?_) | (with_reducible refine S.orV ?_) | (with_reducible refine S.notV ?_) | (with_reducible refine S.ifE ?_) | (with_reducible refine S.chain ?_)
  | (with_reducible refine S.tup ?_) | (with_reducible refine S.lst ?_) | (with_reducible refine S.call ?_) | (with_reducible refine S.callS ?_) | (with_reducible refine S.meth ?_) | (with_reducible refine S.make ?_)
  | (with_reducible refine S.fld ?_) | (with_reducible refine S.sl ?_) | (with_reducible refine S.noPart ?_) | (with_reducible refine S.part ?_) | (with_reducible refine S.intI ?_)
  | (with_reducible refine S.dget ?_) | (with_reducible refine S.din ?_) | (with_reducible refine S.dnotin ?_) | (with_reducible refine S.dget1 ?_) | (with_reducible refine S.bm0 ?_) | (with_reducible refine S.bm ?_)
  | (with_reducible refine S.ret ?_) | (with_reducible refine S.retN ?_) | (with_reducible refine S.drop ?_) | (with_reducible refine S.ifS ?_) | (with_reducible refine S.next ?_) | (with_reducible refine S.cont ?_)
  | (with_reducible refine S.asg ?_) | (with_reducible refine S.name ?_) | (with_reducible refine S.gsub ?_) | (with_reducible refine S.par ?_) | (with_reducible refine S.par3 ?_) | (with_reducible refine S.sfld ?_) | (with_reducible refine S.dput ?_) | (with_reducible refine S.daug ?_)
  | (with_reducible refine S.fldaug ?_) | (with_reducible refine S.dpop1 ?_) | (with_reducible refine S.dpop2 ?_) | (with_reducible refine S.sview ?_) | (with_reducible refine S.gCons ?_) | (with_reducible refine S.gNil ?_) | (with_reducible refine S.i0 ?_) | (with_reducible refine S.neg ?_) | (with_reducible refine S.addI ?_) | (with_reducible refine S.eqI ?_) | (with_reducible refine S.neI ?_) | (with_reducible refine S.eqS ?_)
  | (with_reducible refine S.isN ?_) | (with_reducible refine S.isNotN ?_) | (with_reducible refine S.isB ?_) | (with_reducible refine S.isNotB ?_)
  | (with_reducible refine S.vs1 ?_) | (with_reducible refine S.vs2 ?_))
local macro_rules | `(tactic| walk_at "g1") => `(tactic| first | walk_at "g0" | (with_reducible refine S.seq ?_))
local macro_rules | `(tactic| walk_at "gs") => `(tactic| repeat (walk_at "g0"))
local macro_rules | `(tactic| walk_at "go") => `(tactic| repeat (walk_at "g1"))

local macro_rules | `(tactic| walk_at "sq") => `(tactic| with_reducible refine S.seq ?_)
theorem ok_is_from {P : Program} {w : World} {K : PySem.W.Frag} {mg : Str → Option Value} {base : Heap} {f : Addr} {fd : FuncData} (F : Fun K "is_from" "is_from" s_is_from f fd) (B : Blt mg)
    : FnOk P w K mg base CX0 (0 + 1) f fd P_is_from (spIsFrom K) := by
  refine F.ok sc_is_from (fun vs H Q E h => ?_) (fun cdv A outer s H vs Q E hr h => ?_)
  · obtain ⟨F, v, d, lo, hi, rfl, _⟩ := h; rfl
  · have hu := hu_of hr
    have hu64 := Room.units hr
    obtain ⟨F, v, d, lo, hi, rfl, s, hd, k⟩ := h
    refine ⟨_, (pss_one (ps_ret (pe_and (pe_callB call_isi rfl B.m_isinstance (by first | exact PySem.boot_isinstance | decide +kernel) (pa_cons (pv 0) (pa_cons (pe_bltn (v := V.ty "int") rfl B.m_int (by decide +kernel : bootBuiltins "int" = some (.type "int")) rfl) pa_nil))) (pe_and (pe_not (pe_callB call_isi rfl B.m_isinstance (by first | exact PySem.boot_isinstance | decide +kernel) (pa_cons (pv 0) (pa_cons (pe_bltn (v := V.ty "bool") rfl B.m_bool (by decide +kernel : bootBuiltins "bool" = some (.type "bool")) rfl) pa_nil)))) (pe_one (pe_chain op_le op_le (pv 1) (pv 0) (pv 2))))))), ?_⟩
    try dsimp only [cxOf, Cx.nox, Cx.wish]
    walk_at "go"
    refine isi_int hd s ?_
    walk_at "go"
    cases hd with
    | int i =>
      refine S.iteT rfl ?_
      walk_at "go"
      refine isi_bool (.int i) s ?_
      walk_at "go"
      refine S.iteT rfl ?_
      walk_at "go"
      refine S.ite (fun e => ?_) (fun e => ?_)
      · walk_at "go"
        simpa [isFrom, e] using k
      · simpa [isFrom, e] using k
    | bl b =>
      refine S.iteT rfl ?_
      walk_at "go"
      refine isi_bool (.bl b) s ?_
      walk_at "go"
      exact S.iteF rfl k
    | non => exact S.iteF rfl k
    | str x => exact S.iteF rfl k
    | lst _ _ => exact S.iteF rfl k
    | tup _ _ => exact S.iteF rfl k

theorem ok_is_tuple {P : Program} {w : World} {K : PySem.W.Frag} {mg : Str → Option Value} {base : Heap} {f : Addr} {fd : FuncData} (F : Fun K "is_tuple" "is_tuple" s_is_tuple f fd) (B : Blt mg)
    : FnOk P w K mg base CX0 (0 + 1) f fd P_is_tuple (spIsTuple K) := by
  refine F.ok sc_is_tuple (fun vs H Q E h => ?_) (fun cdv A outer s H vs Q E hr h => ?_)
  · obtain ⟨F, v, d, lo, hi, rfl, _⟩ := h; rfl
  · have hu := hu_of hr
    have hu64 := Room.units hr
    obtain ⟨F, v, d, lo, hi, rfl, s, hd, k⟩ := h
    refine ⟨_, (pss_one (ps_ret (pe_and (pe_callB call_isi rfl B.m_isinstance (by first | exact PySem.boot_isinstance | decide +kernel) (pa_cons (pv 0) (pa_cons (pe_bltn (v := V.ty "tuple") rfl B.m_tuple (by decide +kernel : bootBuiltins "tuple" = some (.type "tuple")) rfl) pa_nil))) (pe_one (pe_chain op_le op_le (pv 1) (pe_callB call_lenU rfl B.m_len (by first | exact PySem.boot_len | decide +kernel) (pa_cons (pv 0) pa_nil)) (pv 2)))))), ?_⟩
    try dsimp only [cxOf, Cx.nox, Cx.wish]
    walk_at "go"
    refine isi_tup hd s ?_
    walk_at "go"
    cases d with
    | tuple ds =>
      refine S.iteT rfl ?_
      walk_at "go"
      refine S.lenT hd s ?_
      walk_at "go"
      refine S.ite (fun e => ?_) (fun e => ?_)
      · walk_at "go"
        simpa [isTuple, e] using k
      · simpa [isTuple, e] using k
    | _ => exact S.iteF rfl k

theorem ok_Bodies_is_there {P : Program} {w : World} {K : PySem.W.Frag} {mg : Str → Option Value} {base : Heap} {f : Addr} {fd : FuncData} (F : Fun K "is_there" "Bodies.is_there" s_Bodies_is_there f fd) (B : Blt mg)
    {C : Addr} (TB : BoC K C) (c_is_from : Cal P w K mg base CX0 1 "is_from" P_is_from (spIsFrom K)) (g_FIRST_TASK : GV mg "FIRST_TASK" (.int 1)) (g_MOST_TASKS : GV mg "MOST_TASKS" (.int 6))
    : FnOk P w K mg base CX0 (1 + 1) f fd P_Bodies_is_there (spThere K C) := by
  refine F.ok sc_Bodies_is_there (fun vs H Q E h => ?_) (fun cdv A outer s H vs Q E hr h => ?_)
  · obtain ⟨F, p, st, W, v, d, rfl, _⟩ := h; rfl
  · have hu := hu_of hr
    have hu64 := Room.units hr
    obtain ⟨F, p, st, W, v, d, rfl, s, hB, hd, k⟩ := h
    obtain ⟨a, b, m, T, rfl, P'⟩ := hB
    obtain ⟨dx, hp⟩ := P'.ob
    refine ⟨_, (pss_one (ps_ret (pe_and (pe_cal c_is_from (hr.mono (by first | decide | omega)) pass0 (pa_cons (pv 1) (pa_cons (pe_gv g_FIRST_TASK) (pa_cons (pe_gv g_MOST_TASKS) pa_nil)))) (pe_one (pe_cmp (pc_din hu (pv 1) (pe_fld (pv 0) rfl))))))), ?_⟩
    try dsimp only [cxOf, Cx.nox, Cx.wish]
    walk_at "go"
    refine ⟨F, v, d, 1, 6, rfl, s, hd, ?_⟩
    walk_at "go"
    refine S.ite (fun e => ?_) (fun e => ?_)
    · obtain ⟨i, rfl⟩ : ∃ i, d = .int i := by
        cases d <;> first | exact ⟨_, rfl⟩ | cases e
      obtain rfl := dp_int hd
      walk_at "go"
      refine fld_of hp TB.cl TB.n1 (lk_sheets _ _ _ _) ?_
      refine din_of (k := Sum.inl i) P'.tabs.tab ?_
      rw [valV_kM]
      have ez : thereD st (.int i) = (isFrom (.int i) 1 6 && (getA st.sheets i).isSome) := rfl
      rw [ez, e] at k
      rw [← P'.eq, getA_rows] at k
      simpa using k
    · have ez : thereD st d = false := by
        cases d <;> first | rfl | (show (_ && _) = false; rw [e]; rfl)
      rw [ez] at k
      exact k

theorem ok_Bodies_can_come {P : Program} {w : World} {K : PySem.W.Frag} {mg : Str → Option Value} {base : Heap} {f : Addr} {fd : FuncData} (F : Fun K "can_come" "Bodies.can_come" s_Bodies_can_come f fd) (B : Blt mg)
    {C : Addr} (TB : BoC K C) (c_is_from : Cal P w K mg base CX0 1 "is_from" P_is_from (spIsFrom K)) (g_FIRST_TASK : GV mg "FIRST_TASK" (.int 1)) (g_MOST_TASKS : GV mg "MOST_TASKS" (.int 6))
    : FnOk P w K mg base CX0 (1 + 1) f fd P_Bodies_can_come (spCome K C) := by
  refine F.ok sc_Bodies_can_come (fun vs H Q E h => ?_) (fun cdv A outer s H vs Q E hr h => ?_)
  · obtain ⟨F, p, st, W, v, d, rfl, _⟩ := h; rfl
  · have hu := hu_of hr
    have hu64 := Room.units hr
    obtain ⟨F, p, st, W, v, d, rfl, s, hB, hd, k⟩ := h
    obtain ⟨a, b, m, T, rfl, P'⟩ := hB
    obtain ⟨dx, hp⟩ := P'.ob
    refine ⟨_, (pss_one (ps_ret (pe_and (pe_cal c_is_from (hr.mono (by first | decide | omega)) pass0 (pa_cons (pv 1) (pa_cons (pe_gv g_FIRST_TASK) (pa_cons (pe_gv g_MOST_TASKS) pa_nil)))) (pe_one (pe_cmp (pc_dnotin hu (pv 1) (pe_fld (pv 0) rfl))))))), ?_⟩
    try dsimp only [cxOf, Cx.nox, Cx.wish]
    walk_at "go"
    refine ⟨F, v, d, 1, 6, rfl, s, hd, ?_⟩
    walk_at "go"
    refine S.ite (fun e => ?_) (fun e => ?_)
    · obtain ⟨i, rfl⟩ : ∃ i, d = .int i := by
        cases d <;> first | exact ⟨_, rfl⟩ | cases e
      obtain rfl := dp_int hd
      walk_at "go"
      refine fld_of hp TB.cl TB.n4 (lk_met _ _ _ _) ?_
      refine din_of (k := Sum.inl i) P'.mt ?_
      rw [valV_kM]
      have ez : comeD st (.int i) = (isFrom (.int i) 1 6 && !(getA st.met i).isSome) := rfl
      rw [ez, e] at k
      simpa using k
    · have ez : comeD st d = false := by
        cases d <;> first | rfl | (show (_ && _) = false; rw [e]; rfl)
      rw [ez] at k
      exact k

theorem ok_Bodies_body {P : Program} {w : World} {K : PySem.W.Frag} {mg : Str → Option Value} {base : Heap} {f : Addr} {fd : FuncData} (F : Fun K "body" "Bodies.body" s_Bodies_body f fd) (B : Blt mg)
    {C : Addr} (TB : BoC K C)
    : FnOk P w K mg base CX0 (0 + 1) f fd P_Bodies_body (spBody C) := by
  refine F.ok sc_Bodies_body (fun vs H Q E h => ?_) (fun cdv A outer s H vs Q E hr h => ?_)
  · obtain ⟨F, p, st, W, t, s, rfl, _⟩ := h; rfl
  · have hu := hu_of hr
    have hu64 := Room.units hr
    obtain ⟨F, p, st, W, t, s, rfl, hB, ht, k⟩ := h
    obtain ⟨a, b, m, T, rfl, P'⟩ := hB
    obtain ⟨dx, hp⟩ := P'.ob
    rw [← P'.eq, getA_rows, Option.isSome_map] at ht
    obtain ⟨⟨d, row⟩, hT⟩ := getA_len ht
    refine ⟨_, (pss_one (ps_ret (pe_dget1 hu (pe_dget hu (pe_fld (pv 0) rfl) (pv 1) (fun _ _ => rfl)) (pv 2) ⟨rfl, rfl, rfl, rfl⟩))), ?_⟩
    try dsimp only [cxOf, Cx.nox, Cx.wish]
    walk_at "go"
    refine fld_of hp TB.cl TB.n1 (lk_sheets _ _ _ _) ?_
    walk_at "go"
    refine dget_of (k := Sum.inl t) P'.tabs.tab (by rw [valV_kM, hT]; rfl) ?_
    have hr' := P'.tabs.rows _ (getA_mem hT)
    refine ⟨d, rfl, .inl ⟨_, .inl hr'⟩, ?_⟩
    walk_at "go"
    refine ⟨_, DGet.k (k := Sum.inl s) hr', ?_⟩
    rw [valV_kM]
    have e : bodyOf st t s = getA row s := by
      unfold bodyOf
      rw [← P'.eq, getA_rows, hT] <;> rfl
    rw [e] at k
    cases q : getA row s with
    | none => rw [q] at k; exact k
    | some x => rw [q] at k; exact k

theorem ok_Bodies_with_body {P : Program} {w : World} {K : PySem.W.Frag} {mg : Str → Option Value} {base : Heap} {f : Addr} {fd : FuncData} (F : Fun K "with_body" "Bodies.with_body" s_Bodies_with_body f fd) (B : Blt mg)
    {C : Addr} (TB : BoC K C) (g_MAKE : GV mg "MAKE" (.str "make"))
    : FnOk P w K mg base CX0 (0 + 1) f fd P_Bodies_with_body (spWith K C) := by
  refine F.ok sc_Bodies_with_body (fun vs H Q E h => ?_) (fun cdv A outer s H vs Q E hr h => ?_)
  · obtain ⟨F, p, st, W, t, s, rfl, _⟩ := h; rfl
  · have hu := hu_of hr
    have hu64 := Room.units hr
    obtain ⟨F, p, st, W, t, s, rfl, sm, hB, ht, hok, k⟩ := h
    obtain ⟨a, b, m, T, rfl, P'⟩ := hB
    obtain ⟨dx, hp⟩ := P'.ob
    have ht' := ht
    rw [← P'.eq, getA_rows, Option.isSome_map] at ht
    obtain ⟨⟨d, row⟩, hT⟩ := getA_len ht
    refine ⟨_, (pss_cons (ps_set (i := 3) sc_Bodies_with_body.nd rfl (Or.inl rfl) (pe_fld (pv 0) rfl))
      (pss_cons (ps_fldaug (pv 0) (pe_int) in_add)
      (pss_cons (ps_dput hu (pe_fld (pv 0) rfl) (pv 3) (pe_int) rfl)
      (pss_cons (ps_dput hu (pe_dget hu (pe_fld (pv 0) rfl) (pv 1) (fun _ _ => rfl)) (pv 2) (pv 3) rfl)
      (pss_one (ps_ret (pe_tup (pa_cons (pe_gv g_MAKE) (pa_cons (pv 3) pa_nil))))))))), ?_⟩
    try dsimp only [cxOf, Cx.nox, Cx.wish]
    walk_at "go"
    refine fld_of hp TB.cl TB.n3 (lk_next _ _ _ _) ?_
    walk_at "go"
    refine ⟨p, C, dx, _, _, rfl, hp, TB.cl, TB.n3, lk_next _ _ _ _, ?_⟩
    walk_at "go"
    refine ⟨_, _, rfl, rfl, dx, _, hp, (by show 4 < 1000; decide), ?_⟩
    rw [put_next]
    have g1 : Gr (p :: a :: b :: m :: addrsOf T) F H F _ := Gr.write (o := .ins C dx (flds a b m (st.next + 1))) sm (P'.off p (by simp)) (by simp)
    have P1 := P'.wNext dx (st.next + 1)
    obtain ⟨dx1, hp1⟩ := P1.ob
    generalize (upd H p (.ins C dx (flds a b m (st.next + 1)))) = H1 at *
    walk_at "go"
    refine fld_of hp1 TB.cl TB.n2 (lk_shares _ _ _ _) ?_
    walk_at "go"
    refine dput_of (k := Sum.inl st.next) P1.sh (by rw [kM_len]; exact size1000000 (Nat.le_trans hok.lh (by omega))) ?_
    rw [putK_kM]
    have g2 : Gr (p :: a :: b :: m :: addrsOf T) F H1 F _ := Gr.write (o := .dK (kM V.int (putA st.shares st.next 1))) g1.sub (P1.off b (by simp)) (by simp)
    have P2 := P1.wShares (putA st.shares st.next 1)
    obtain ⟨dx2, hp2⟩ := P2.ob
    generalize (upd H1 b (.dK (kM V.int (putA st.shares st.next 1)))) = H2 at *
    walk_at "go"
    refine fld_of hp2 TB.cl TB.n1 (lk_sheets _ _ _ _) ?_
    walk_at "go"
    refine dget_of (k := Sum.inl t) P2.tabs.tab (by rw [valV_kM, hT]; rfl) ?_
    walk_at "go"
    have hr' := P2.tabs.rows _ (getA_mem hT)
    have hrow : row = (getA st.sheets t).getD [] := by rw [← P'.eq, getA_rows, hT]; rfl
    refine dput_of (k := Sum.inl s) hr' (by rw [kM_len]; exact size1000000 (Nat.le_trans (hok.lr (t, row) (by rw [← P'.eq]; exact List.mem_map_of_mem (f := fun t : Int × (Addr × AL Int) => (t.1, t.2.2)) (getA_mem hT))) (by omega))) ?_
    rw [putK_kM]
    have hd : d ∈ p :: a :: b :: m :: addrsOf T := by simp [addr_mem (getA_mem hT)]
    have g3 : Gr (p :: a :: b :: m :: addrsOf T) F H2 F _ := Gr.write (o := .dK (kM V.int (putA row s st.next))) g2.sub (P2.off d hd) hd
    have P3 := P2.wRow hok.nds hT (putA row s st.next)
    generalize (upd H2 d (.dK (kM V.int (putA row s st.next)))) = H3 at *
    walk_at "go"
    have g := (g1.trans g2).trans g3
    refine new_tup (K := K) g.sub (ds := [.str "make", .int st.next]) (.cons (.str _) (.cons (.int _) .nil)) (by show 2 ≤ sizeLine; decide) fun q F' H' g4 hq hv => ?_
    walk_at "go"
    refine k _ F' H' ⟨g.trans g4.any, _, ⟨a, b, m, setRow T t (putA row s st.next), rfl, ?_⟩, fun x hx => ?_⟩ hv
    · have P4 := P3.gr g4 fun _ _ z => nomatch z
      unfold withBody
      rw [← hrow]
      exact P4
    · rw [setRow_addrs] at hx
      exact .inl hx

theorem ok_Bodies_load {P : Program} {w : World} {K : PySem.W.Frag} {mg : Str → Option Value} {base : Heap} {f : Addr} {fd : FuncData} (F : Fun K "load" "Bodies.load" s_Bodies_load f fd) (B : Blt mg)
    {C : Addr} (TB : BoC K C) (c_Bodies_body : MCal P w K mg base CX0 1 C "body" P_Bodies_body (spBody C)) (g_LOOK : GV mg "LOOK" (.str "look"))
    : FnOk P w K mg base CX0 (1 + 1) f fd P_Bodies_load (spLoad K C) := by
  refine F.ok sc_Bodies_load (fun vs H Q E h => ?_) (fun cdv A outer s H vs Q E hr h => ?_)
  · obtain ⟨F, p, st, W, t, s, rfl, _⟩ := h; rfl
  · have hu := hu_of hr
    have hu64 := Room.units hr
    have cl_Bodies := TB.cl
    obtain ⟨F, p, st, W, t, s, rfl, sm, hB, ht, k⟩ := h
    obtain ⟨a, b, m, T, rfl, P'⟩ := id hB
    obtain ⟨dx, hp⟩ := P'.ob
    refine ⟨_, (pss_cons (ps_set (i := 3) sc_Bodies_load.nd rfl (Or.inl rfl) (pe_mcal c_Bodies_body cl_Bodies (hr.mono (by first | decide | omega)) pass0 (pv 0) (pa_cons (pv 1) (pa_cons (pv 2) pa_nil))))
      (pss_one (ps_ret (pe_ifExp (pt_cmpR op_isU (pv 3) (pe_non) (nomark _)) (pe_lst pa_nil) (pe_lst (pa_cons (pe_tup (pa_cons (pe_gv g_LOOK) (pa_cons (pv 3) pa_nil))) pa_nil)))))), ?_⟩
    try dsimp only [cxOf, Cx.nox, Cx.wish]
    walk_at "go"
    refine meth_of hp rfl ?_
    walk_at "go"
    refine ⟨F, p, st, _, t, s, rfl, hB, ht, ?_⟩
    walk_at "go"
    have e0 : loadE st t s = (match bodyOf st t s with | none => [] | some b => [.look b]) := rfl
    rw [e0] at k
    cases q : bodyOf st t s with
    | none =>
      rw [q] at k
      refine S.iteT rfl ?_
      walk_at "go"
      exact own_lst sm (by show 0 ≤ sizeLine; decide) fun q H' g hq fq e => k q [] F H' g hq fq e .nil
    | some x =>
      rw [q] at k
      refine S.iteF rfl ?_
      dsimp only [optV]
      walk_at "go"
      refine new_tupG (K := K) sm (ds := [.str "look", .int x]) (.cons (.str _) (.cons (.int _) .nil)) (by show 2 ≤ sizeLine; decide) fun q F' g1 hq hv => ?_
      generalize upd H q _ = H1 at g1 ⊢
      walk_at "go"
      refine own_lst g1.sub (by show 1 ≤ sizeLine; decide) fun r H2 g2 hr fr e => k r _ F' H2 (g1.trans g2) (g1.free hr) fr e (.cons hv .nil)

theorem ok_Bodies_store {P : Program} {w : World} {K : PySem.W.Frag} {mg : Str → Option Value} {base : Heap} {f : Addr} {fd : FuncData} (F : Fun K "store" "Bodies.store" s_Bodies_store f fd) (B : Blt mg)
    {C : Addr} (TB : BoC K C) (c_Bodies_load : MCal P w K mg base CX0 2 C "load" P_Bodies_load (spLoad K C)) (c_Bodies_with_body : MCal P w K mg base CX0 1 C "with_body" P_Bodies_with_body (spWith K C))
    : FnOk P w K mg base CX0 (2 + 1) f fd P_Bodies_store (spStore K C) := by
  refine F.ok sc_Bodies_store (fun vs H Q E h => ?_) (fun cdv A outer s H vs Q E hr h => ?_)
  · obtain ⟨F, p, st, W, t, s, rfl, _⟩ := h; rfl
  · have hu := hu_of hr
    have hu64 := Room.units hr
    have cl_Bodies := TB.cl
    obtain ⟨F, p, st, W, t, s, rfl, sm, hB, ht, ⟨n, hn, hok⟩, k⟩ := h
    have hp : ∃ dx fs, H p = some (.ins C dx fs) ∧ fs.lookup ("load" : Str) = none ∧ fs.lookup ("with_body" : Str) = none := by
      obtain ⟨a, b, m, T, rfl, P'⟩ := hB
      obtain ⟨dx, hp⟩ := P'.ob
      exact ⟨dx, _, hp, rfl, rfl⟩
    obtain ⟨dx, fs, hp, hl1, hl2⟩ := hp
    refine ⟨_, (pss_cons (ps_set (i := 3) sc_Bodies_store.nd rfl (Or.inl rfl) (pe_mcal c_Bodies_load cl_Bodies (hr.mono (by first | decide | omega)) pass0 (pv 0) (pa_cons (pv 1) (pa_cons (pv 2) pa_nil))))
      (pss_cons (ps_if (pt_cmpR (op_eqU hu64) (pv 3) (pe_lst pa_nil) (nomark _)) (pss_one (ps_ret (pe_lst (pa_cons (pe_mcal c_Bodies_with_body cl_Bodies (hr.mono (by first | decide | omega)) pass0 (pv 0) (pa_cons (pv 1) (pa_cons (pv 2) pa_nil))) pa_nil)))) pss_nil)
      (pss_cons (ps_set (i := 4) sc_Bodies_store.nd rfl (Or.inl rfl) (pe_ix ix_seq (pe_ix ix_seq (pv 3) (pe_int) (fun _ _ => rfl)) (pe_int) (fun _ _ => rfl)))
      (pss_cons (ps_if (pt_cmpR op_gt (pe_dget hu (pe_fld (pv 0) rfl) (pv 4) (fun _ _ => rfl)) (pe_int) (nomark _)) (pss_cons (ps_daug hu (pe_fld (pv 0) rfl) (pv 4) (pe_int) in_sub (by intros; rfl))
      (pss_one (ps_expr (pe_bm PySem.F.plainAttrs_list PySem.F.slot_list_append PySem.F.type_list_append mt_append (pv 3) (pa_cons (pe_mcal c_Bodies_with_body cl_Bodies (hr.mono (by first | decide | omega)) pass0 (pv 0) (pa_cons (pv 1) (pa_cons (pv 2) pa_nil))) pa_nil))))) pss_nil)
      (pss_one (ps_ret (pv 3))))))), ?_⟩
    try dsimp only [cxOf, Cx.nox, Cx.wish]
    walk_at "go"
    refine meth_of hp hl1 ?_
    walk_at "go"
    refine ⟨F, p, st, _, t, s, rfl, sm, hB, ht, fun q xs F1 H1 g1 hq fq hq1 hx => ?_⟩
    walk_at "go"
    refine new_lstG (K := K) (ds := []) g1.sub .nil (by show 0 ≤ sizeLine; decide) fun r F2 g2 hr hv2 => ?_
    generalize upd H1 r _ = H2 at g2 ⊢
    have hB2 := hB.gr0 (g1.trans g2)
    have nq : q ∉ W := not_in_of_live hB.live hq
    have g12 := g1.trans g2
    have hx2 := hx.to g2.fs
    have hq2 := g2.at0 hq1
    have fq2 : F2 q = none := g2.own q fq (by rw [hq1]; exact fun z => nomatch z)
    walk_at "go"
    refine S.eqD (F := H2) (.lst (SqL.of hq2) (hx2.to g2.sub)) (hv2.to g2.sub) (Same.refl H2) (evs_shaped _) (evs_shaped []) ?_
    walk_at "go"
    have e0 : storeE st t s = (match bodyOf st t s with | none => ([.make st.next], withBody st t s) | some b => if 1 < cnt st b then ([.look b, .make st.next], withBody { st with shares := putA st.shares b (cnt st b - 1) } t s) else ([.look b], st)) := rfl
    have e1 : loadE st t s = (match bodyOf st t s with | none => [] | some b => [.look b]) := rfl
    rw [e0] at k
    rw [e1] at hx2 ⊢
    have hp2 := g12.at0 hp
    cases q6 : bodyOf st t s with
    | none =>
      rw [q6] at k
      refine S.iteT (by simp [PyData.eqv, PyData.eqvAll]) ?_
      walk_at "go"
      refine meth_of hp2 hl2 ?_
      walk_at "go"
      refine ⟨F2, p, st, W, t, s, rfl, g12.sub, hB2, ht, hok.sz hn, fun v F3 H3 hG hv => ?_⟩
      obtain ⟨g3, W', hB3, hW'⟩ := hG
      walk_at "go"
      refine own_lstG g3.sub (by show 1 ≤ sizeLine; decide) fun z g4 hz fz hzz => ?_
      generalize upd H3 z _ = H4 at g4 hzz ⊢
      have g := (g12.any.trans g3).trans g4.any
      exact k z _ F3 H4 W' g (hB3.gr0 g4) (fun x hx => (hW' x hx).imp id fun h => g12.free h) ((g12.any.trans g3).free hz) (not_in_of_live hB3.live hz) fz hzz (.cons hv .nil)
    | some x =>
      rw [q6] at k hx2
      dsimp only at k hx2
      obtain ⟨hc, hc0⟩ := shares_of hok q6
      refine S.iteF (by simp [PyData.eqv, PyData.eqvAll]) ?_
      obtain ⟨y, xs', rfl⟩ : ∃ y xs', xs = y :: xs' := by
        cases xs with
        | nil => cases hx2
        | cons y xs' => exact ⟨y, xs', rfl⟩
      have hx3 := hx2
      cases hx2 with
      | cons hy hrest =>
      cases hrest
      walk_at "go"
      refine S.ixO hq2 (w := y) rfl ?_
      walk_at "go"
      refine S.ixT (K := K) (ds := [.str "look", .int x]) (d := .int x) hy g12.sub rfl fun y' hy' => ?_
      obtain rfl := dp_int hy'
      walk_at "go"
      obtain ⟨a, b, m, T, rfl, P2⟩ := id hB2
      obtain ⟨dx2, hpp⟩ := P2.ob
      refine fld_of hpp TB.cl TB.n2 (lk_shares _ _ _ _) ?_
      walk_at "go"
      refine dget_of (k := Sum.inl x) P2.sh (by rw [valV_kM, hc]; rfl) ?_
      walk_at "go"
      refine S.ite (fun e => ?_) (fun e => ?_)
      · have e' : 1 < cnt st x := by simpa using e
        walk_at "go"
        refine fld_of hpp TB.cl TB.n2 (lk_shares _ _ _ _) ?_
        walk_at "go"
        refine ⟨b, _, rfl, dgetF (k := Sum.inl x) P2.sh (by rw [valV_kM, hc]; rfl), ?_⟩
        walk_at "go"
        refine ⟨_, _, rfl, rfl, _, DPut.k (k := Sum.inl x) P2.sh (by rw [kM_len]; exact size1000000 (Nat.le_trans hok.lh (by omega))), ?_⟩
        rw [putK_kM]
        have g3 : Gr (p :: a :: b :: m :: addrsOf T) F2 H2 F2 _ := Gr.write (o := .dK (kM V.int (putA st.shares x (cnt st x - 1)))) g12.sub (P2.off b (by simp)) (by simp)
        have P3 := P2.wShares (putA st.shares x (cnt st x - 1))
        generalize (upd H2 b (.dK (kM V.int (putA st.shares x (cnt st x - 1))))) = H3 at *
        obtain ⟨dx3, hpp3⟩ := P3.ob
        have hq3 : H3 q = _ := g3.at nq hq2
        walk_at "go"
        refine S.tyO hq3 ?_
        walk_at "go"
        refine meth_of hpp3 rfl ?_
        walk_at "go"
        refine ⟨F2, p, _, _, t, s, rfl, g3.sub, ⟨a, b, m, T, rfl, P3⟩, ht, ⟨hok.nds, fun r hr => Nat.le_trans (hok.lr r hr) hn, ?_⟩, fun v F4 H4 hG hv => ?_⟩
        · have : x ∈ keysA st.shares := Classical.byContradiction fun z => by rw [getA_none.mpr z] at hc; cases hc
          have e5 := congrArg List.length (keys_putA st.shares x (cnt st x - 1))
          rw [if_pos this] at e5
          simp only [keysA, List.length_map] at e5
          show (putA st.shares x (cnt st x - 1)).length ≤ 1000
          rw [e5]
          exact Nat.le_trans hok.lh hn
        obtain ⟨g4, W', hB4, hW'⟩ := hG
        have hq4 := g4.at nq hq3
        walk_at "go"
        refine S.appO hq4 (by show 1 < sizeLine; decide) ?_
        walk_at "go"
        have nq' : q ∉ W' := fun h => by
          rcases hW' q h with h | h
          · exact nq h
          · rw [hq3] at h; cases h
        have fq4 : F4 q = none := g4.own q fq2 (by rw [hq3]; exact fun z => nomatch z)
        have g := (g12.any.trans g3).trans g4
        rw [if_pos e'] at k
        refine k q _ F4 _ W' (g.poke hq fq4) (hB4.poke nq') (fun y hy => (hW' y hy).imp id fun h => (g12.any.trans g3).free h) hq nq' fq4 upd_same ?_
        exact dp_app (hx3.to (g3.trans g4).fs) (.cons hv .nil)
      · have e' : ¬ 1 < cnt st x := by simpa using e
        rw [if_neg e'] at k
        walk_at "go"
        exact k q _ F2 H2 _ g12.any hB2 (fun y hy => .inl hy) hq nq fq2 hq2 hx3

theorem ok_Bodies_fork {P : Program} {w : World} {K : PySem.W.Frag} {mg : Str → Option Value} {base : Heap} {f : Addr} {fd : FuncData} (F : Fun K "fork" "Bodies.fork" s_Bodies_fork f fd) (B : Blt mg)
    {C : Addr} (TB : BoC K C)
    : FnOk P w K mg base CX0 (0 + 1) f fd P_Bodies_fork (spFork K C) := by
  refine F.ok sc_Bodies_fork (fun vs H Q E h => ?_) (fun cdv A outer s H vs Q E hr h => ?_)
  · obtain ⟨F, p, st, W, t, s, rfl, _⟩ := h; rfl
  · have hu := hu_of hr
    have hu64 := Room.units hr
    have cl_Bodies := TB.cl
    obtain ⟨F, p, st, W, t, c, rfl, sm, hB, ht, hc, ⟨n, hn, hok⟩, k⟩ := h
    obtain ⟨a, b, m, T, rfl, P1⟩ := hB
    obtain ⟨dx, hp⟩ := P1.ob
    obtain ⟨row, hrow⟩ := getA_len ht
    have hT : ∃ d, getA T t = some (d, row) := by
      rw [← P1.eq, getA_rows] at hrow
      cases q : getA T t with
      | none => rw [q] at hrow; cases hrow
      | some x => rw [q] at hrow; exact ⟨x.1, by rw [← Option.some.inj hrow]⟩
    obtain ⟨d, hT⟩ := hT
    refine ⟨_, (pss_cons (ps_set (i := 3) sc_Bodies_fork.nd rfl (Or.inl rfl) (pe_callTy call_dictD rfl B.m_dict (by decide +kernel) (pa_cons (pe_dget hu (pe_fld (pv 0) rfl) (pv 1) (fun _ _ => rfl)) pa_nil)))
      (pss_cons (ps_dput hu (pe_fld (pv 0) rfl) (pv 2) (pv 3) rfl)
      (pss_cons (ps_dput hu (pe_fld (pv 0) rfl) (pv 2) (pe_bl) rfl)
      (pss_cons (ps_lock (ps_for PassesOwn.never rfl (pi_values (pv 3)) (pg_name (i := 4) sc_Bodies_fork.nd rfl (Or.inl rfl)) (pss_one (ps_daug hu (pe_fld (pv 0) rfl) (pv 4) (pe_int) in_add (by intros; rfl)))))
      (pss_one (ps_ret (pe_lst pa_nil))))))), ?_⟩
    try dsimp only [cxOf, Cx.nox, Cx.wish]
    walk_at "go"
    refine fld_of hp TB.cl TB.n1 (lk_sheets _ _ _ _) ?_
    walk_at "go"
    refine dget_of (k := Sum.inl t) P1.tabs.tab (by rw [valV_kM, hT]; rfl) ?_
    walk_at "go"
    refine ⟨d, _, rfl, .inl (P1.tabs.rows _ (getA_mem hT)), fun q hq => ?_⟩
    have g1 : Gr [] F H F _ := Gr.newOwn (o := .dK (kM V.int row)) sm hq
    have hq1 : upd H q (.dK (kM V.int row)) q = some (.dK (kM V.int row)) := upd_same
    have fq := sub_free sm hq
    have P2 := P1.gr g1 fun _ _ z => nomatch z
    have nq : q ∉ p :: a :: b :: m :: addrsOf T := not_in_of_live P1.live hq
    generalize upd H q _ = H1 at *
    obtain ⟨dx2, hp2⟩ := P2.ob
    walk_at "go"
    refine fld_of hp2 TB.cl TB.n1 (lk_sheets _ _ _ _) ?_
    walk_at "go"
    refine dput_of (k := Sum.inl c) P2.tabs.tab (by rw [kM_len]; have e5 := congrArg List.length P2.eq; simp only [sheetsOf, List.length_map] at e5; rw [e5]; exact size1000000 (Nat.le_trans hok.ls (by omega))) ?_
    have hcT : getA T c = none := by
      have := hc
      rw [← P2.eq, getA_rows] at this
      cases q6 : getA T c with
      | none => rfl
      | some x => rw [q6] at this; cases this
    rw [show V.ref q = (fun x : Addr × AL Int => V.ref x.1) (q, row) from rfl, putK_kM, putA_new _ hcT]
    have P3 := P2.wNew hq1 nq fq hc
    have hq3 : upd H1 a (.dK (kM (fun x : Addr × AL Int => V.ref x.1) (T ++ [(c, (q, row))]))) q = _ := (upd_ne (fun z => nq (by rw [z]; simp))).trans hq1
    have g3 := g1.any.put (W := p :: a :: b :: m :: addrsOf T) (q := a) (o := .dK (kM (fun x : Addr × AL Int => V.ref x.1) (T ++ [(c, (q, row))]))) (by simp) (P1.off a (by simp))
    generalize upd H1 a _ = H3 at *
    obtain ⟨dx3, hp3⟩ := P3.ob
    walk_at "go"
    refine fld_of hp3 TB.cl TB.n4 (lk_met _ _ _ _) ?_
    walk_at "go"
    refine dput_of (k := Sum.inl c) P3.mt (by rw [kM_len]; exact size1000000 (Nat.le_trans hok.lm (by omega))) ?_
    rw [show V.bl true = (fun _ : Unit => V.bl true) () from rfl, putK_kM]
    have P4 := P3.wMet (putA st.met c ())
    have hq4 : upd H3 m (.dK (kM (fun _ => V.bl true) (putA st.met c ()))) q = _ := (upd_ne (fun z => nq (by rw [z]; simp))).trans hq3
    have g4 := g3.put (q := m) (o := .dK (kM (fun _ => V.bl true) (putA st.met c ()))) (by simp) (P1.off m (by simp))
    generalize upd H3 m _ = H4 at *
    obtain ⟨dx4, hp4⟩ := P4.ob
    refine S.seq ?_
    refine S.lock ⟨q, _, hq4, trivial, fun od => ?_⟩
    refine S.forS (S.iVals (S.var (v := .ref q) rfl ?_))
    refine ⟨q, od, kM V.int row, rfl, upd_same, ?_⟩
    have hb4 := P4.sh
    have qb : q ≠ b := fun z => nq (by rw [z]; simp)
    have qp : q ≠ p := fun z => nq (by rw [z]; simp)
    have bp : p ≠ b := (apart P1.nd).pb
    generalize e9 : upd H4 q (.frz od (.dK (kM V.int row))) = H5
    have hb5 : H5 b = some (.dK (kM V.int st.shares)) := by rw [← e9, upd_ne qb.symm]; exact hb4
    have hp5 := (by rw [← e9]; exact upd_ne qp.symm : H5 p = H4 p).trans hp4
    have hq5 : H5 q = some (.frz od (.dK (kM V.int row))) := by rw [← e9]; exact upd_same
    refine for_it walk_valuesA (fun i σ H => H = upd H5 b (.dK (kM V.int (shareAll st.shares (row.take i)))) ∧ ∃ o, σ = ((L2.start N_Bodies_fork [V.ref p, V.int t, V.int c]).set 3 (some (V.ref q))).set 4 o) ?_ ?_ ?_ ?_
    · exact ⟨by rw [List.take_zero]; exact (upd_self hb5).symm, none, rfl⟩
    · rintro i σ H _ ⟨rfl, _⟩
      rw [upd_ne qb]; exact hq5
    · rintro i x σ H H' hi ⟨rfl, o, rfl⟩ ⟨rfl, pr, hpr, rfl⟩
      obtain ⟨y, hy⟩ := row_shares hok hrow pr (List.mem_of_getElem? hpr)
      have hsome := shareAll_in (row.take i) st.shares hy
      obtain ⟨z, hz⟩ := getA_len hsome
      have hl : (shareAll st.shares (row.take i)).length ≤ 1000 := by
        rw [shareAll_len]
        · exact Nat.le_trans hok.lh hn
        · intro p' hp'
          obtain ⟨y', hy'⟩ := row_shares hok hrow p' (List.mem_of_mem_take hp')
          rw [hy']; rfl
      walk_at "go"
      refine fld_of (by rw [upd_ne bp]; exact hp5) TB.cl TB.n2 (lk_shares _ _ _ _) ?_
      walk_at "go"
      refine ⟨b, _, rfl, dgetF (k := Sum.inl pr.2) upd_same (by rw [valV_kM, hz]; rfl), ?_⟩
      walk_at "go"
      refine ⟨_, _, rfl, rfl, _, DPut.k (k := Sum.inl pr.2) upd_same (by rw [kM_len]; exact size1000000 (by omega)), ?_⟩
      rw [putK_kM, upd_upd]
      refine S.next ⟨?_, _, List.set_set ..⟩
      rw [take_succ_get hpr, shareAll_app, hz]; rfl
    · rintro σ H ⟨rfl, _⟩
      rw [List.take_length]
      refine ⟨by rw [upd_ne qb]; exact hq5, ?_⟩
      have e : upd (upd H5 b (.dK (kM V.int (shareAll st.shares row)))) q (.dK (kM V.int row)) = upd H4 b (.dK (kM V.int (shareAll st.shares row))) := by
        rw [← e9, upd_comm qb, upd_upd]
        exact upd_self (by rw [upd_ne qb]; exact hq4)
      rw [e]
      have P6 := P4.wShares (shareAll st.shares row)
      have g6 := g4.put (q := b) (o := .dK (kM V.int (shareAll st.shares row))) (by simp) (P1.off b (by simp))
      generalize upd H4 b _ = H6 at *
      walk_at "go"
      refine own_lstG g6.sub (by show 0 ≤ sizeLine; decide) fun z g7 hz fz hzz => ?_
      generalize upd H6 z _ = H7 at g7 hzz ⊢
      have P7 := P6.gr g7 fun _ _ z => nomatch z
      have hf : forkS st t c = ⟨putA st.sheets c row, shareAll st.shares row, st.next, putA st.met c ()⟩ := by
        unfold forkS; rw [hrow]; rfl
      refine k z [] F H7 _ (g6.trans g7.any) ⟨a, b, m, _, rfl, by rw [hf]; exact P7⟩ (fun x hx => ?_) (g6.free hz) (not_in_of_live P6.live hz) fz hzz .nil
      have ea : addrsOf (T ++ [(c, (q, row))]) = addrsOf T ++ [q] := by simp [addrsOf]
      rw [ea] at hx
      simp only [List.mem_cons, List.mem_append, List.not_mem_nil, or_false] at hx ⊢
      rcases hx with h | h | h | h | h | h
      · simp [h]
      · simp [h]
      · simp [h]
      · simp [h]
      · simp [h]
      · exact .inr (by rw [h]; exact hq)

theorem ok_Bodies_end {P : Program} {w : World} {K : PySem.W.Frag} {mg : Str → Option Value} {base : Heap} {f : Addr} {fd : FuncData} (F : Fun K "end" "Bodies.end" s_Bodies_end f fd) (B : Blt mg)
    {C : Addr} (TB : BoC K C) (g_GONE : GV mg "GONE" (.str "gone"))
    : FnOk P w K mg base CX0 (0 + 1) f fd P_Bodies_end (spEnd K C) := by
  refine F.ok sc_Bodies_end (fun vs H Q E h => ?_) (fun cdv A outer s H vs Q E hr h => ?_)
  · obtain ⟨F, p, st, W, t, rfl, _⟩ := h; rfl
  · have hu := hu_of hr
    have hu64 := Room.units hr
    have cl_Bodies := TB.cl
    obtain ⟨F, p, st, W, t, rfl, sm, hB, ht, ⟨n, hn, hok⟩, k⟩ := h
    obtain ⟨a, b, m, T, rfl, P1⟩ := hB
    obtain ⟨dx, hp⟩ := P1.ob
    obtain ⟨row, hrow⟩ := getA_len ht
    have hT : ∃ d, getA T t = some (d, row) := by
      rw [← P1.eq, getA_rows] at hrow
      cases q : getA T t with
      | none => rw [q] at hrow; cases hrow
      | some x => rw [q] at hrow; exact ⟨x.1, by rw [← Option.some.inj hrow]⟩
    obtain ⟨d, hT⟩ := hT
    have A1 := apart P1.nd
    refine ⟨_, (pss_cons (ps_set (i := 2) sc_Bodies_end.nd rfl (Or.inl rfl) (pe_lst pa_nil))
      (pss_cons (ps_for PassesOwn.never rfl (pi_seq (pe_sortedVals rfl (pe_dpop1 (pe_fld (pv 0) rfl) (pv 1) ⟨rfl, rfl, rfl, rfl⟩) rfl B.m_sorted)) (pg_name (i := 3) sc_Bodies_end.nd rfl (Or.inl rfl)) (pss_cons (ps_daug hu (pe_fld (pv 0) rfl) (pv 3) (pe_int) in_sub (by intros; rfl))
      (pss_one (ps_if (pt_cmpR (op_eqU hu64) (pe_dget hu (pe_fld (pv 0) rfl) (pv 3) (fun _ _ => rfl)) (pe_int) (nomark _)) (pss_cons (ps_expr (pe_dpop1 (pe_fld (pv 0) rfl) (pv 3) ⟨rfl, rfl, rfl, rfl⟩))
      (pss_one (ps_expr (pe_bm PySem.F.plainAttrs_list PySem.F.slot_list_append PySem.F.type_list_append mt_append (pv 2) (pa_cons (pe_tup (pa_cons (pe_gv g_GONE) (pa_cons (pv 3) pa_nil))) pa_nil))))) pss_nil))))
      (pss_one (ps_ret (pv 2))))), ?_⟩
    try dsimp only [cxOf, Cx.nox, Cx.wish]
    walk_at "go"
    refine own_lstG sm (by show 0 ≤ sizeLine; decide) fun gl g1 hgl fgl hgl1 => ?_
    generalize upd H gl _ = H1 at g1 hgl1 ⊢
    have P2 := P1.gr g1 fun _ _ z => nomatch z
    have ngl : gl ∉ p :: a :: b :: m :: addrsOf T := not_in_of_live P1.live hgl
    obtain ⟨dx2, hp2⟩ := P2.ob
    walk_at "go"
    refine S.forS (S.iSeqL ?_)
    refine S.sview ?_
    walk_at "go"
    refine fld_of hp2 TB.cl TB.n1 (lk_sheets _ _ _ _) ?_
    refine ⟨a, rfl, .inl ⟨_, .inl P2.tabs.tab⟩, ?_⟩
    walk_at "go"
    refine ⟨_, Sum.inl t, _, P2.tabs.tab, rfl, (by rw [valV_kM, hT]; rfl), ?_⟩
    rw [dropK_kM]
    have P3 := P2.wDrop t
    have g3 := g1.any.put (W := p :: a :: b :: m :: addrsOf T) (q := a) (o := .dK (kM (fun x : Addr × AL Int => V.ref x.1) (dropA T t))) (by simp) (P1.off a (by simp))
    have hd3 : upd H1 a (.dK (kM (fun x : Addr × AL Int => V.ref x.1) (dropA T t))) d = some (.dK (kM V.int row)) := by
      rw [upd_ne fun z => A1.al (by rw [← z]; exact addr_mem (getA_mem hT))]
      exact P2.tabs.rows _ (getA_mem hT)
    have hgl3 : upd H1 a (.dK (kM (fun x : Addr × AL Int => V.ref x.1) (dropA T t))) gl = some (.lst []) := by
      rw [upd_ne fun z => ngl (by rw [z]; simp)]; exact hgl1
    generalize upd H1 a _ = H3 at *
    refine sorted_vals (ns := row.map (·.2)) hd3 (by unfold kM; rw [List.map_map, List.map_map]; rfl) fun ys L H4 hperm hpw sm4 hL hL4 => ?_
    obtain rfl := sortI_uniq hperm hpw
    have g34 : Gr [] F H3 _ H4 := Gr.ofSameF g3.sub sm4 hL hL4
    have P4 := P3.gr g34 fun _ _ z => nomatch z
    have g4 := g3.trans g34.any
    have hgl4 := sm4 _ _ hgl3
    have fL4 : upd F L (.lst ((sortI (row.map (·.2))).map V.int)) L = some (.lst ((sortI (row.map (·.2))).map V.int)) := upd_same
    have fgl4 : upd F L (.lst ((sortI (row.map (·.2))).map V.int)) gl = none := by
      rw [upd_ne fun z => by rw [← z, hgl3] at hL; cases hL]; exact fgl
    generalize upd F L _ = F4 at *
    have hnd : (sortI (row.map (·.2))).Nodup := (sortI_perm _).symm.nodup_iff.mp (hok.ndv (t, row) (getA_mem hrow))
    have hmem : ∀ x ∈ sortI (row.map (·.2)), ∃ c, getA st.shares x = some c := fun x hx => by
      obtain ⟨pr, hpr, e⟩ := List.mem_map.mp ((sortI_perm _).subset hx)
      obtain ⟨c, hc⟩ := row_shares hok hrow pr hpr
      exact ⟨c, by rw [← e]; exact hc⟩
    have hlen : (sortI (row.map (·.2))).length ≤ 1000 := by
      rw [(sortI_perm _).length_eq, List.length_map]
      exact Nat.le_trans (hok.lr (t, row) (getA_mem hrow)) hn
    have hend : endE st t = (((sortI (row.map (·.2))).foldl endTurn ([], st.shares)).1, { st with sheets := dropA st.sheets t, shares := ((sortI (row.map (·.2))).foldl endTurn ([], st.shares)).2 }) := by
      unfold endE; rw [hrow]; rfl
    rw [hend] at k
    generalize sortI (row.map (·.2)) = ys at *
    refine ⟨L, rfl, ⟨_, SqL.of hL4⟩, ?_⟩
    refine for_it (walk_list (K := K) (a := L) (xs := ys.map V.int)) (fun i σ H' => ∃ F' xs o, Gr (p :: a :: b :: m :: addrsOf T) F H F' H' ∧ BParts C F' H' p { st with sheets := dropA st.sheets t, shares := ((ys.take i).foldl endTurn ([], st.shares)).2 } a b m (dropA T t) ∧ H' gl = some (.lst xs) ∧ DpAll K F' xs (((ys.take i).foldl endTurn ([], st.shares)).1.map evD) ∧
      F' gl = none ∧ F' L = some (.lst (ys.map V.int)) ∧ ((ys.take i).foldl endTurn ([], st.shares)).1.length ≤ i ∧ ((ys.take i).foldl endTurn ([], st.shares)).2.length ≤ 1000 ∧ σ = ((L2.start N_Bodies_end [V.ref p, V.int t]).set 2 (some (V.ref gl))).set 3 o) ?_ ?_ ?_ ?_
    · exact ⟨F4, [], none, g4, P4, hgl4, .nil, fgl4, fL4, Nat.le_refl _, Nat.le_trans hok.lh hn, rfl⟩
    · rintro i σ H' _ ⟨F', xs, o, g, _, _, _, _, fL, _⟩
      exact SqL.of (g.sub _ _ fL)
    · rintro i v σ H' H'' hi ⟨F', xs, o, g, PP, hgx, hx, fg, fL, hl1, hl2, rfl⟩ ⟨rfl, hv⟩
      rw [List.getElem?_map] at hv
      obtain ⟨x, hx0⟩ : ∃ x, ys[i]? = some x := by
        cases q : ys[i]? with
        | none => rw [q] at hv; cases hv
        | some x => exact ⟨x, rfl⟩
      rw [hx0] at hv
      obtain rfl : V.int x = v := Option.some.inj hv
      obtain ⟨c, hc⟩ := hmem x (List.mem_of_getElem? hx0)
      have hc2 : getA ((ys.take i).foldl endTurn ([], st.shares)).2 x = some c := by
        rw [endFold_other (nodup_take hnd hx0)]; exact hc
      have hstep := take_succ_fold (f := endTurn) (z := ([], st.shares)) hx0
      generalize hz : (ys.take i).foldl endTurn ([], st.shares) = z at *
      have hturn : endTurn z x = if c - 1 = 0 then (z.1 ++ [.gone x], dropA (putA z.2 x (c - 1)) x) else (z.1, putA z.2 x (c - 1)) := by
        unfold endTurn; rw [hc2]; rfl
      rw [hturn] at hstep
      have hlp : (putA z.2 x (c - 1)).length ≤ 1000 := by rw [putA_len_in hc2]; exact hl2
      obtain ⟨dx5, hp5⟩ := PP.ob
      walk_at "go"
      refine fld_of hp5 TB.cl TB.n2 (lk_shares _ _ _ _) ?_
      walk_at "go"
      refine ⟨b, _, rfl, dgetF (k := Sum.inl x) PP.sh (by rw [valV_kM, hc2]; rfl), ?_⟩
      walk_at "go"
      refine ⟨_, _, rfl, rfl, _, DPut.k (k := Sum.inl x) PP.sh (by rw [kM_len]; exact size1000000 (Nat.le_trans hl2 (by omega))), ?_⟩
      rw [putK_kM]
      have P6 := PP.wShares (putA z.2 x (c - 1))
      have g6 := g.put (q := b) (o := .dK (kM V.int (putA z.2 x (c - 1)))) (by simp) (PP.off b (by simp))
      have hg6 : upd H'' b (.dK (kM V.int (putA z.2 x (c - 1)))) gl = some (.lst xs) := by
        rw [upd_ne fun z => ngl (by rw [z]; simp)]; exact hgx
      generalize upd H'' b _ = H6 at *
      obtain ⟨dx6, hp6⟩ := P6.ob
      walk_at "go"
      refine fld_of hp6 TB.cl TB.n2 (lk_shares _ _ _ _) ?_
      walk_at "go"
      refine ⟨b, _, rfl, dgetF (k := Sum.inl x) P6.sh (by rw [valV_kM, getA_putA, if_pos rfl]; rfl), ?_⟩
      walk_at "go"
      refine S.ite (fun e => ?_) (fun e => ?_)
      · have e' : c - 1 = 0 := by simpa using e
        rw [if_pos e'] at hstep
        walk_at "go"
        refine fld_of hp6 TB.cl TB.n2 (lk_shares _ _ _ _) ?_
        refine ⟨b, rfl, .inl ⟨_, .inl P6.sh⟩, ?_⟩
        walk_at "go"
        refine ⟨_, Sum.inl x, _, P6.sh, rfl, (by rw [valV_kM, getA_putA, if_pos rfl]; rfl), ?_⟩
        rw [dropK_kM]
        have P7 := P6.wShares (dropA (putA z.2 x (c - 1)) x)
        have g7 := g6.put (q := b) (o := .dK (kM V.int (dropA (putA z.2 x (c - 1)) x))) (by simp) (PP.off b (by simp))
        have hg7 : upd H6 b (.dK (kM V.int (dropA (putA z.2 x (c - 1)) x))) gl = some (.lst xs) := by
          rw [upd_ne fun z => ngl (by rw [z]; simp)]; exact hg6
        generalize upd H6 b _ = H7 at *
        walk_at "go"
        refine S.tyO hg7 ?_
        walk_at "go"
        refine new_tupG (K := K) g7.sub (ds := [.str "gone", .int x]) (.cons (.str _) (.cons (.int _) .nil)) (by show 2 ≤ sizeLine; decide) fun r F8 g8 hr hv => ?_
        have P8 := P7.gr g8 fun _ _ z => nomatch z
        generalize upd H7 r _ = H8 at *
        have hg8 := g8.at0 hg7
        have fg8 : F8 gl = none := g8.own gl fg (by rw [hg7]; exact fun z => nomatch z)
        walk_at "go"
        have hxl := dp_len hx
        rw [List.length_map] at hxl
        refine S.appO hg8 (by rw [hxl]; exact size1000000 (by have : ys.length ≤ 1000 := hlen; rw [List.length_map] at hi; omega)) ?_
        refine S.next ⟨F8, _, _, (g7.trans g8.any).poke hgl fg8, ?_, upd_same, ?_, fg8, g8.fs _ _ fL, ?_, ?_, List.set_set ..⟩
        · rw [hstep]
          refine P8.step (fun y hy u e => ?_) P8.off
          rw [upd_ne fun z => by rw [z, hg8] at e; exact absurd hy (by rw [z]; exact fun h => not_in_of_live P1.live hgl (by
            simp only [List.mem_cons] at h ⊢
            rcases h with h | h | h | h | h
            · simp [h]
            · simp [h]
            · simp [h]
            · simp [h]
            · obtain ⟨w, hw, e3⟩ := List.mem_map.mp h
              have := addr_mem (List.mem_filter.mp hw).1
              rw [e3] at this
              simp [this]))]
          exact e
        · rw [hstep]
          show DpAll K F8 _ ((z.1 ++ [Ev.gone x]).map evD)
          rw [List.map_append]
          exact dp_app (hx.to g8.fs) (.cons hv .nil)
        · rw [hstep]
          show (z.1 ++ [Ev.gone x]).length ≤ i + 1
          rw [List.length_append]
          show z.1.length + 1 ≤ i + 1
          omega
        · rw [hstep]
          exact Nat.le_trans (List.length_filter_le _ _) hlp
      · have e' : ¬ c - 1 = 0 := by simpa using e
        rw [if_neg e'] at hstep
        refine S.next ⟨F', xs, _, g6, ?_, hg6, ?_, fg, fL, ?_, ?_, List.set_set ..⟩
        · rw [hstep]; exact P6
        · rw [hstep]; exact hx
        · rw [hstep]; show z.1.length ≤ i + 1; omega
        · rw [hstep]; exact hlp
    · rintro σ H' ⟨F', xs, o, g, PP, hgx, hx, fg, fL, hl1, hl2, rfl⟩
      rw [List.length_map, List.take_length] at *
      walk_at "go"
      have sub : ∀ x ∈ p :: a :: b :: m :: addrsOf (dropA T t), x ∈ p :: a :: b :: m :: addrsOf T := fun x h => by
        simp only [List.mem_cons] at h ⊢
        rcases h with h | h | h | h | h
        · simp [h]
        · simp [h]
        · simp [h]
        · simp [h]
        · obtain ⟨w, hw, e3⟩ := List.mem_map.mp h
          have := addr_mem (List.mem_filter.mp hw).1
          rw [e3] at this
          simp [this]
      exact k gl xs F' H' _ g ⟨a, b, m, _, rfl, PP⟩ (fun x hx => .inl (sub x hx)) hgl (fun h => ngl (sub _ h)) fg hgx hx

theorem ok_Bodies_done {P : Program} {w : World} {K : PySem.W.Frag} {mg : Str → Option Value} {base : Heap} {f : Addr} {fd : FuncData} (F : Fun K "done" "Bodies.done" s_Bodies_done f fd) (B : Blt mg)
    {C : Addr} (TB : BoC K C) (c_Bodies_load : MCal P w K mg base CX0 2 C "load" P_Bodies_load (spLoad K C)) (c_Bodies_store : MCal P w K mg base CX0 3 C "store" P_Bodies_store (spStore K C)) (c_Bodies_fork : MCal P w K mg base CX0 1 C "fork" P_Bodies_fork (spFork K C)) (c_Bodies_end : MCal P w K mg base CX0 1 C "end" P_Bodies_end (spEnd K C))
    : FnOk P w K mg base CX0 (3 + 1) f fd P_Bodies_done (spDone K C) := by
  refine F.ok sc_Bodies_done (fun vs H Q E h => ?_) (fun cdv A outer s H vs Q E hr h => ?_)
  · obtain ⟨F, p, st, W, v, d, rfl, _⟩ := h; rfl
  · have hu := hu_of hr
    have hu64 := Room.units hr
    have cl_Bodies := TB.cl
    obtain ⟨F, p, st, W, v, d, rfl, sm, hB, hd, hcan, hok, k⟩ := h
    have hp : ∃ dx fs, H p = some (.ins C dx fs) ∧ fs.lookup ("load" : Str) = none ∧ fs.lookup ("store" : Str) = none ∧ fs.lookup ("fork" : Str) = none ∧ fs.lookup ("end" : Str) = none := by
      obtain ⟨a, b, m, T, rfl, P'⟩ := hB
      obtain ⟨dx, hp⟩ := P'.ob
      exact ⟨dx, _, hp, rfl, rfl, rfl, rfl⟩
    obtain ⟨dx, fs, hp, hl1, hl2, hl3, hl4⟩ := hp
    refine ⟨_, (pss_cons (ps_asg (pe_slice sl_U (pv 1) po_none (po_some (pe_int))) (pg_tup rfl (pgs_cons (pg_name (i := 2) sc_Bodies_done.nd rfl (Or.inl rfl) (by first | exact Or.inl rfl | exact Or.inr rfl)) (pgs_cons (pg_name (i := 3) sc_Bodies_done.nd rfl (Or.inl rfl) (by first | exact Or.inl rfl | exact Or.inr rfl)) pgs_nil))))
      (pss_cons (ps_if (pt_cmpR (op_eqU hu64) (pv 2) (pe_str) (nomark _)) (pss_one (ps_ret (pe_mcal c_Bodies_end cl_Bodies (hr.mono (by first | decide | omega)) pass0 (pv 0) (pa_cons (pv 3) pa_nil)))) pss_nil)
      (pss_cons (ps_if (pt_cmpR (op_eqU hu64) (pv 2) (pe_str) (nomark _)) (pss_one (ps_ret (pe_mcal c_Bodies_fork cl_Bodies (hr.mono (by first | decide | omega)) pass0 (pv 0) (pa_cons (pv 3) (pa_cons (pe_ix ix_seq (pv 1) (pe_int) (fun _ _ => rfl)) pa_nil))))) pss_nil)
      (pss_one (ps_ret (pe_ifExp (pt_cmpR (op_eqU hu64) (pv 2) (pe_str) (nomark _)) (pe_mcal c_Bodies_load cl_Bodies (hr.mono (by first | decide | omega)) pass0 (pv 0) (pa_cons (pv 3) (pa_cons (pe_ix ix_seq (pv 1) (pe_int) (fun _ _ => rfl)) pa_nil))) (pe_mcal c_Bodies_store cl_Bodies (hr.mono (by first | decide | omega)) pass0 (pv 0) (pa_cons (pv 3) (pa_cons (pe_ix ix_seq (pv 1) (pe_int) (fun _ _ => rfl)) pa_nil))))))))), ?_⟩
    try dsimp only [cxOf, Cx.nox, Cx.wish]
    walk_at "go"
    cases d with
    | load t s =>
      refine S.slTo (ds := [.str "load", .int t, .int s]) (e := 2) hd sm fun u F1 H1 g1 hu1 => ?_
      refine S.gTup2 (K := K) (d1 := .str "load") (d2 := .int t) hu1 g1.sub fun x y hx hy => ?_
      obtain rfl := dp_str hx
      obtain rfl := dp_int hy
      walk_at "go"
      refine S.iteF (by decide) ?_
      walk_at "go"
      refine S.iteF (by decide) ?_
      walk_at "go"
      refine S.iteT (by decide) ?_
      walk_at "go"
      refine meth_of (g1.at0 hp) hl1 ?_
      walk_at "go"
      refine S.ixT (K := K) (ds := [.str "load", .int t, .int s]) (d := .int s) hd (g1.fs.trans g1.sub) rfl fun y hy => ?_
      obtain rfl := dp_int hy
      walk_at "go"
      refine ⟨F1, p, st, W, t, s, rfl, g1.sub, hB.gr0 g1, hcan, fun q xs F2 H2 g2 hq fq hqq hx => ?_⟩
      have g := g1.trans g2
      exact k q xs F2 H2 W g.any (hB.gr0 g) (fun b hb => .inl hb) (g1.free hq) (not_in_of_live (hB.gr0 g1).live hq) fq hqq hx
    | store t s =>
      refine S.slTo (ds := [.str "store", .int t, .int s]) (e := 2) hd sm fun u F1 H1 g1 hu1 => ?_
      refine S.gTup2 (K := K) (d1 := .str "store") (d2 := .int t) hu1 g1.sub fun x y hx hy => ?_
      obtain rfl := dp_str hx
      obtain rfl := dp_int hy
      walk_at "go"
      refine S.iteF (by decide) ?_
      walk_at "go"
      refine S.iteF (by decide) ?_
      walk_at "go"
      refine S.iteF (by decide) ?_
      walk_at "go"
      refine meth_of (g1.at0 hp) hl2 ?_
      walk_at "go"
      refine S.ixT (K := K) (ds := [.str "store", .int t, .int s]) (d := .int s) hd (g1.fs.trans g1.sub) rfl fun y hy => ?_
      obtain rfl := dp_int hy
      walk_at "go"
      refine ⟨F1, p, st, W, t, s, rfl, g1.sub, hB.gr0 g1, hcan, hok, fun q xs F2 H2 W' g2 hB' hW hq nq fq hqq hx => ?_⟩
      exact k q xs F2 H2 W' (g1.any.trans g2) hB' (fun b hb => (hW b hb).imp id g1.free) (g1.free hq) nq fq hqq hx
    | fork t c =>
      refine S.slTo (ds := [.str "fork", .int t, .int c]) (e := 2) hd sm fun u F1 H1 g1 hu1 => ?_
      refine S.gTup2 (K := K) (d1 := .str "fork") (d2 := .int t) hu1 g1.sub fun x y hx hy => ?_
      obtain rfl := dp_str hx
      obtain rfl := dp_int hy
      walk_at "go"
      refine S.iteF (by decide) ?_
      walk_at "go"
      refine S.iteT (by decide) ?_
      walk_at "go"
      refine meth_of (g1.at0 hp) hl3 ?_
      walk_at "go"
      refine S.ixT (K := K) (ds := [.str "fork", .int t, .int c]) (d := .int c) hd (g1.fs.trans g1.sub) rfl fun y hy => ?_
      obtain rfl := dp_int hy
      walk_at "go"
      refine ⟨F1, p, st, W, t, c, rfl, g1.sub, hB.gr0 g1, hcan.1, hcan.2, hok, fun q xs F2 H2 W' g2 hB' hW hq nq fq hqq hx => ?_⟩
      exact k q xs F2 H2 W' (g1.any.trans g2) hB' (fun b hb => (hW b hb).imp id g1.free) (g1.free hq) nq fq hqq hx
    | fin t =>
      refine S.slTo (ds := [.str "end", .int t]) (e := 2) hd sm fun u F1 H1 g1 hu1 => ?_
      refine S.gTup2 (K := K) (d1 := .str "end") (d2 := .int t) hu1 g1.sub fun x y hx hy => ?_
      obtain rfl := dp_str hx
      obtain rfl := dp_int hy
      walk_at "go"
      refine S.iteT (by decide) ?_
      walk_at "go"
      refine meth_of (g1.at0 hp) hl4 ?_
      walk_at "go"
      refine ⟨F1, p, st, W, t, rfl, g1.sub, hB.gr0 g1, hcan, hok, fun q xs F2 H2 W' g2 hB' hW hq nq fq hqq hx => ?_⟩
      exact k q xs F2 H2 W' (g1.any.trans g2) hB' (fun b hb => (hW b hb).imp id g1.free) (g1.free hq) nq fq hqq hx

theorem ok_Bodies___init__ {P : Program} {w : World} {K : PySem.W.Frag} {mg : Str → Option Value} {base : Heap} {f : Addr} {fd : FuncData} (F : Fun K "__init__" "Bodies.__init__" s_Bodies___init__ f fd) (B : Blt mg)
    {C : Addr} (TB : BoC K C) (g_FIRST_TASK : GV mg "FIRST_TASK" (.int 1))
    : FnOk P w K mg base CX0 (0 + 1) f fd P_Bodies___init__ (spInit C) := by
  refine F.ok sc_Bodies___init__ (fun vs H Q E h => ?_) (fun cdv A outer s H vs Q E hr h => ?_)
  · obtain ⟨F, p, dx, rfl, _⟩ := h; rfl
  · have hu := hu_of hr
    have hu64 := Room.units hr
    obtain ⟨F, p, dx, rfl, sm, fp, hp, k⟩ := h
    refine ⟨_, (pss_cons (ps_fld (pv 0) (pe_disp (pps_cons (pe_gv g_FIRST_TASK) (pe_dnewK) pps_nil) rfl rfl (by simp) (by simp)) rfl)
      (pss_cons (ps_fld (pv 0) (pe_dnewK) rfl)
      (pss_cons (ps_fld (pv 0) (pe_int) rfl)
      (pss_one (ps_fld (pv 0) (pe_disp (pps_cons (pe_gv g_FIRST_TASK) (pe_bl) pps_nil) rfl rfl (by simp) (by simp)) rfl))))), ?_⟩
    try dsimp only [cxOf, Cx.nox, Cx.wish]
    walk_at "go"
    refine S.disp fun a ha => ?_
    have g1 : Gr [p] F H F _ := Gr.newOwn (o := .dK []) sm ha
    have na : a ≠ p := fun z => by rw [z, hp] at ha; cases ha
    have hp1 := (upd_ne (o := .dK []) (a := a) (H := H) na.symm).trans hp
    have ha1 : upd H a (.dK []) a = some (.dK []) := upd_same
    have fa := sub_free sm ha
    generalize upd H a _ = H1 at *
    refine S.pairsC ?_
    walk_at "go"
    refine S.dnewK fun d hd => ?_
    have fd' := sub_free g1.sub hd
    have g2 : Gr [p] F H F _ := g1.poke (q := d) (o := .dK []) (g1.free hd) fd'
    have nda : d ≠ a := fun z => by rw [z, ha1] at hd; cases hd
    have ndp : d ≠ p := fun z => by rw [z, hp1] at hd; cases hd
    have hp2 := (upd_ne (o := .dK []) (a := d) (H := H1) ndp.symm).trans hp1
    have ha2 := (upd_ne (o := .dK []) (a := d) (H := H1) nda.symm).trans ha1
    have hd2 : upd H1 d (.dK []) d = some (.dK []) := upd_same
    have hHd := g1.free hd
    generalize upd H1 d _ = H2 at *
    refine S.pairsN ⟨ha2, [(Sum.inl 1, .ref d)], rfl, (by show 1 ≤ 15; decide), ?_⟩
    rw [show mergeK [] [((Sum.inl 1 : Key), V.ref d)] = kM (fun x : Addr × AL Int => V.ref x.1) [(1, (d, []))] from rfl]
    have g3 : Gr [p] F H F _ := g2.poke (q := a) (o := .dK (kM (fun x : Addr × AL Int => V.ref x.1) [(1, (d, []))])) ha fa
    have hp3 := (upd_ne (o := .dK (kM (fun x : Addr × AL Int => V.ref x.1) [(1, (d, []))])) (a := a) (H := H2) na.symm).trans hp2
    have hd3 := (upd_ne (o := .dK (kM (fun x : Addr × AL Int => V.ref x.1) [(1, (d, []))])) (a := a) (H := H2) nda).trans hd2
    have ha3 : upd H2 a (.dK (kM (fun x : Addr × AL Int => V.ref x.1) [(1, (d, []))])) a = _ := upd_same
    generalize upd H2 a _ = H3 at *
    walk_at "go"
    refine ⟨p, C, dx, _, rfl, hp3, TB.cl, TB.n1, (by show 1 - 1 < 1000; decide), ?_⟩
    rw [show putF "sheets" (V.ref a) [] = [(("sheets" : Str), V.ref a)] from rfl]
    have g4 : Gr [p] F H F _ := g3.put (q := p) (o := .ins C dx [(("sheets" : Str), V.ref a)]) (by simp) fp
    have hp4 : upd H3 p (.ins C dx [(("sheets" : Str), V.ref a)]) p = _ := upd_same
    have ha4 := (upd_ne (o := .ins C dx [(("sheets" : Str), V.ref a)]) (a := p) (H := H3) na).trans ha3
    have hd4 := (upd_ne (o := .ins C dx [(("sheets" : Str), V.ref a)]) (a := p) (H := H3) ndp).trans hd3
    generalize upd H3 p _ = H4 at *
    walk_at "go"
    refine S.dnewK fun b hb => ?_
    have nba : b ≠ a := fun z => by rw [z, ha4] at hb; cases hb
    have nbp : b ≠ p := fun z => by rw [z, hp4] at hb; cases hb
    have nbd : b ≠ d := fun z => by rw [z, hd4] at hb; cases hb
    have fb := sub_free g4.sub hb
    have hHb := g4.free hb
    have g5 : Gr [p] F H F _ := g4.poke (q := b) (o := .dK []) hHb fb
    have hp5 := (upd_ne (o := .dK []) (a := b) (H := H4) nbp.symm).trans hp4
    have ha5 := (upd_ne (o := .dK []) (a := b) (H := H4) nba.symm).trans ha4
    have hd5 := (upd_ne (o := .dK []) (a := b) (H := H4) nbd.symm).trans hd4
    have hb5 : upd H4 b (.dK []) b = some (.dK []) := upd_same
    generalize upd H4 b _ = H5 at *
    walk_at "go"
    refine ⟨p, C, dx, _, rfl, hp5, TB.cl, TB.n2, (by show 2 - 1 < 1000; decide), ?_⟩
    rw [show putF "shares" (V.ref b) [(("sheets" : Str), V.ref a)] = [(("sheets" : Str), V.ref a), (("shares" : Str), V.ref b)] from rfl]
    have g6 : Gr [p] F H F _ := g5.put (q := p) (o := .ins C dx [(("sheets" : Str), V.ref a), (("shares" : Str), V.ref b)]) (by simp) fp
    have hp6 : upd H5 p (.ins C dx [(("sheets" : Str), V.ref a), (("shares" : Str), V.ref b)]) p = _ := upd_same
    have ha6 := (upd_ne (o := .ins C dx [(("sheets" : Str), V.ref a), (("shares" : Str), V.ref b)]) (a := p) (H := H5) na).trans ha5
    have hd6 := (upd_ne (o := .ins C dx [(("sheets" : Str), V.ref a), (("shares" : Str), V.ref b)]) (a := p) (H := H5) ndp).trans hd5
    have hb6 := (upd_ne (o := .ins C dx [(("sheets" : Str), V.ref a), (("shares" : Str), V.ref b)]) (a := p) (H := H5) nbp).trans hb5
    generalize upd H5 p _ = H6 at *
    walk_at "go"
    refine ⟨p, C, dx, _, rfl, hp6, TB.cl, TB.n3, (by show 3 - 1 < 1000; decide), ?_⟩
    rw [show putF "next_body" (V.int 0) [(("sheets" : Str), V.ref a), (("shares" : Str), V.ref b)] = [(("sheets" : Str), V.ref a), (("shares" : Str), V.ref b), (("next_body" : Str), V.int 0)] from rfl]
    have g7 : Gr [p] F H F _ := g6.put (q := p) (o := .ins C dx [(("sheets" : Str), V.ref a), (("shares" : Str), V.ref b), (("next_body" : Str), V.int 0)]) (by simp) fp
    have hp7 : upd H6 p (.ins C dx [(("sheets" : Str), V.ref a), (("shares" : Str), V.ref b), (("next_body" : Str), V.int 0)]) p = _ := upd_same
    have ha7 := (upd_ne (o := .ins C dx [(("sheets" : Str), V.ref a), (("shares" : Str), V.ref b), (("next_body" : Str), V.int 0)]) (a := p) (H := H6) na).trans ha6
    have hd7 := (upd_ne (o := .ins C dx [(("sheets" : Str), V.ref a), (("shares" : Str), V.ref b), (("next_body" : Str), V.int 0)]) (a := p) (H := H6) ndp).trans hd6
    have hb7 := (upd_ne (o := .ins C dx [(("sheets" : Str), V.ref a), (("shares" : Str), V.ref b), (("next_body" : Str), V.int 0)]) (a := p) (H := H6) nbp).trans hb6
    generalize upd H6 p _ = H7 at *
    walk_at "go"
    refine S.disp fun m hm => ?_
    have nma : m ≠ a := fun z => by rw [z, ha7] at hm; cases hm
    have nmp : m ≠ p := fun z => by rw [z, hp7] at hm; cases hm
    have nmd : m ≠ d := fun z => by rw [z, hd7] at hm; cases hm
    have nmb : m ≠ b := fun z => by rw [z, hb7] at hm; cases hm
    have fm := sub_free g7.sub hm
    have hHm := g7.free hm
    refine S.pairsC ?_
    walk_at "go"
    refine S.pairsN ⟨upd_same, [(Sum.inl 1, .bl true)], rfl, (by show 1 ≤ 15; decide), ?_⟩
    rw [upd_upd, show mergeK [] [((Sum.inl 1 : Key), V.bl true)] = kM (fun _ : Unit => V.bl true) [(1, ())] from rfl]
    have g8 : Gr [p] F H F _ := g7.poke (q := m) (o := .dK (kM (fun _ : Unit => V.bl true) [(1, ())])) hHm fm
    have hp8 := (upd_ne (o := .dK (kM (fun _ : Unit => V.bl true) [(1, ())])) (a := m) (H := H7) nmp.symm).trans hp7
    have ha8 := (upd_ne (o := .dK (kM (fun _ : Unit => V.bl true) [(1, ())])) (a := m) (H := H7) nma.symm).trans ha7
    have hd8 := (upd_ne (o := .dK (kM (fun _ : Unit => V.bl true) [(1, ())])) (a := m) (H := H7) nmd.symm).trans hd7
    have hb8 := (upd_ne (o := .dK (kM (fun _ : Unit => V.bl true) [(1, ())])) (a := m) (H := H7) nmb.symm).trans hb7
    have hm8 : upd H7 m (.dK (kM (fun _ : Unit => V.bl true) [(1, ())])) m = _ := upd_same
    generalize upd H7 m _ = H8 at *
    walk_at "go"
    refine ⟨p, C, dx, _, rfl, hp8, TB.cl, TB.n4, (by show 4 - 1 < 1000; decide), ?_⟩
    rw [show putF "met" (V.ref m) [(("sheets" : Str), V.ref a), (("shares" : Str), V.ref b), (("next_body" : Str), V.int 0)] = flds a b m 0 from rfl]
    have g9 : Gr [p] F H F _ := g8.put (q := p) (o := .ins C dx (flds a b m 0)) (by simp) fp
    have ha9 := (upd_ne (o := .ins C dx (flds a b m 0)) (a := p) (H := H8) na).trans ha8
    have hd9 := (upd_ne (o := .ins C dx (flds a b m 0)) (a := p) (H := H8) ndp).trans hd8
    have hb9 := (upd_ne (o := .ins C dx (flds a b m 0)) (a := p) (H := H8) nbp).trans hb8
    have hm9 := (upd_ne (o := .ins C dx (flds a b m 0)) (a := p) (H := H8) nmp).trans hm8
    have hp9 : upd H8 p (.ins C dx (flds a b m 0)) p = _ := upd_same
    generalize upd H8 p _ = H9 at *
    refine S.next ?_
    refine k F H9 _ g9 ⟨a, b, m, [(1, (d, []))], rfl, ⟨dx, hp9⟩, ⟨ha9, fun t ht => ?_⟩, hb9, hm9, rfl, ?_, ?_⟩ ?_
    · simp only [List.mem_singleton] at ht
      subst ht
      exact hd9
    · refine Apart.nd ⟨na.symm, nbp.symm, nmp.symm, ?_, nba.symm, nma.symm, ?_, nmb.symm, ?_, ?_, ?_⟩
      · simp [addrsOf, ndp.symm]
      · simp [addrsOf, nda.symm]
      · simp [addrsOf, nbd]
      · simp [addrsOf, nmd]
      · simp [addrsOf]
    · intro x hx
      simp only [addrsOf, List.map_cons, List.map_nil, List.mem_cons, List.not_mem_nil, or_false] at hx
      rcases hx with rfl | rfl | rfl | rfl | rfl <;> assumption
    · intro x hx
      simp only [addrsOf, List.map_cons, List.map_nil, List.mem_cons, List.not_mem_nil, or_false] at hx
      rcases hx with rfl | rfl | rfl | rfl | rfl
      · exact .inl rfl
      all_goals exact .inr (by assumption)

theorem ok_is_deed {P : Program} {w : World} {K : PySem.W.Frag} {mg : Str → Option Value} {base : Heap} {f : Addr} {fd : FuncData} (F : Fun K "is_deed" "is_deed" s_is_deed f fd) (B : Blt mg)
    {C : Addr} (TB : BoC K C) (c_is_tuple : Cal P w K mg base CX0 1 "is_tuple" P_is_tuple (spIsTuple K)) (c_is_from : Cal P w K mg base CX0 1 "is_from" P_is_from (spIsFrom K)) (c_Bodies_is_there : MCal P w K mg base CX0 2 C "is_there" P_Bodies_is_there (spThere K C)) (c_Bodies_can_come : MCal P w K mg base CX0 2 C "can_come" P_Bodies_can_come (spCome K C)) (g_SHEETS : GV mg "SHEETS" (.int 64))
    : FnOk P w K mg base CX0 (2 + 1) f fd P_is_deed (spIsDeed K C) := by
  refine F.ok sc_is_deed (fun vs H Q E h => ?_) (fun cdv A outer s H vs Q E hr h => ?_)
  · obtain ⟨F, p, st, W, v, d, rfl, _⟩ := h; rfl
  · have hu := hu_of hr
    have hu64 := Room.units hr
    have cl_Bodies := TB.cl
    obtain ⟨F, p, st, W, v, d, rfl, sm, hB, hd, k⟩ := h
    have hp : ∃ dx fs, H p = some (.ins C dx fs) ∧ fs.lookup ("is_there" : Str) = none ∧ fs.lookup ("can_come" : Str) = none := by
      obtain ⟨a, b, m, T, rfl, P'⟩ := hB
      obtain ⟨dx, hp⟩ := P'.ob
      exact ⟨dx, _, hp, rfl, rfl⟩
    obtain ⟨dx, fs, hp, hl1, hl2⟩ := hp
    refine ⟨_, (pss_cons (ps_if (PW.pt (pw_or (pt_not (pt_val (pe_cal c_is_tuple (hr.mono (by first | decide | omega)) pass0 (pa_cons (pv 1) (pa_cons (pe_int) (pa_cons (pe_int) pa_nil)))))) (pw_or (pt_not (pt_val (pe_callB call_isi rfl B.m_isinstance (by first | exact PySem.boot_isinstance | decide +kernel) (pa_cons (pe_ix ix_seq (pv 1) (pe_int) (fun _ _ => rfl)) (pa_cons (pe_bltn (v := V.ty "str") rfl B.m_str (by decide +kernel : bootBuiltins "str" = some (.type "str")) rfl) pa_nil))))) (pw_or1 (pt_not (pt_val (pe_mcal c_Bodies_is_there cl_Bodies (hr.mono (by first | decide | omega)) pass0 (pv 0) (pa_cons (pe_ix ix_seq (pv 1) (pe_int) (fun _ _ => rfl)) pa_nil)))))))) (pss_one (ps_ret (pe_bl))) pss_nil)
      (pss_cons (ps_if (pt_cmpR (op_eqU hu64) (pe_callB call_lenU rfl B.m_len (by first | exact PySem.boot_len | decide +kernel) (pa_cons (pv 1) pa_nil)) (pe_int) (nomark _)) (pss_one (ps_ret (pe_cmpR (op_eqU hu64) (pe_ix ix_seq (pv 1) (pe_int) (fun _ _ => rfl)) (pe_str) (nomark _)))) pss_nil)
      (pss_cons (ps_if (pt_cmpR (op_eqU hu64) (pe_ix ix_seq (pv 1) (pe_int) (fun _ _ => rfl)) (pe_str) (nomark _)) (pss_one (ps_ret (pe_mcal c_Bodies_can_come cl_Bodies (hr.mono (by first | decide | omega)) pass0 (pv 0) (pa_cons (pe_ix ix_seq (pv 1) (pe_int) (fun _ _ => rfl)) pa_nil)))) pss_nil)
      (pss_one (ps_ret (pe_and (pe_cmpR op_in_seq (pe_ix ix_seq (pv 1) (pe_int) (fun _ _ => rfl)) (pe_tup (pa_cons (pe_str) (pa_cons (pe_str) pa_nil))) (by first | rfl | exact nomark _)) (pe_one (pe_cal c_is_from (hr.mono (by first | decide | omega)) pass0 (pa_cons (pe_ix ix_seq (pv 1) (pe_int) (fun _ _ => rfl)) (pa_cons (pe_int) (pa_cons (pe_op op_sub (pe_gv g_SHEETS) (pe_int)) pa_nil))))))))))), ?_⟩
    try dsimp only [cxOf, Cx.nox, Cx.wish]
    walk_at "go"
    refine ⟨F, v, d, 2, 3, rfl, sm, hd, ?_⟩
    walk_at "go"
    refine S.ite (fun e => ?_) (fun e => ?_)
    · have e' : isTuple d 2 3 = false := by simpa using e
      have : deedOk st d = false := by
        unfold deedOk
        split
        · rename_i w t rest
          match rest with
          | [] => simp [isTuple] at e'
          | [x] => simp [isTuple] at e'
          | _ :: _ :: _ => simp
        · rfl
      rw [this] at k
      refine S.iteT rfl ?_
      walk_at "go"
      exact k F H (Gr.refl sm)
    · have e' : isTuple d 2 3 = true := by simpa using e
      obtain ⟨ds, rfl, hlo, hhi⟩ : ∃ ds, d = .tuple ds ∧ 2 ≤ ds.length ∧ ds.length ≤ 3 := by
        cases d with
        | tuple ds =>
          refine ⟨ds, rfl, ?_⟩
          have e9 : (decide ((2 : Int) ≤ (ds.length : Int)) && decide ((ds.length : Int) ≤ 3)) = true := e'
          rw [Bool.and_eq_true_iff, decide_eq_true_iff, decide_eq_true_iff] at e9
          omega
        | _ => cases e'
      obtain ⟨d0, d1, rest, rfl⟩ : ∃ d0 d1 rest, ds = d0 :: d1 :: rest := by
        match ds, hlo with
        | d0 :: d1 :: rest, _ => exact ⟨d0, d1, rest, rfl⟩
        | [_], h => simp at h
        | [], h => simp at h
      have hr3 : rest.length ≤ 1 := by simp at hhi; omega
      walk_at "go"
      refine S.ixT (K := K) hd sm (d := d0) S.atI_0 fun y0 hy0 => ?_
      walk_at "go"
      refine isi_str hy0 sm ?_
      walk_at "go"
      refine S.ite (fun e2 => ?_) (fun e2 => ?_)
      · have e3 : isStr d0 = false := by simpa using e2
        have : deedOk st (.tuple (d0 :: d1 :: rest)) = false := by
          cases d0 <;> first | rfl | (simp [isStr] at e3)
        rw [this] at k
        refine S.iteT rfl ?_
        walk_at "go"
        exact k F H (Gr.refl sm)
      · obtain ⟨w0, rfl⟩ : ∃ w0, d0 = .str w0 := by
          have e3 : isStr d0 = true := by simpa using e2
          cases d0 <;> first | exact ⟨_, rfl⟩ | (simp [isStr] at e3)
        obtain rfl := dp_str hy0
        walk_at "go"
        refine meth_of hp hl1 ?_
        walk_at "go"
        refine S.ixT (K := K) hd sm (d := d1) S.atI_1 fun y1 hy1 => ?_
        walk_at "go"
        refine ⟨F, p, st, W, y1, d1, rfl, sm, hB, hy1, ?_⟩
        walk_at "go"
        have hdo : deedOk st (.tuple (.str w0 :: d1 :: rest)) = (thereD st d1 && (match (generalizing := false) rest with
          | [] => decide (w0 = "end")
          | [x] => if w0 = "fork" then comeD st x else (decide (w0 = "load") || decide (w0 = "store")) && isFrom x 0 63
          | _ => false)) := rfl
        rw [hdo] at k
        refine S.ite (fun e4 => ?_) (fun e4 => ?_)
        · have e5 : thereD st d1 = false := by simpa using e4
          rw [e5, Bool.false_and] at k
          walk_at "go"
          exact k F H (Gr.refl sm)
        · have e5 : thereD st d1 = true := by simpa using e4
          rw [e5, Bool.true_and] at k
          walk_at "go"
          refine S.lenT (K := K) hd sm ?_
          walk_at "go"
          match rest, hr3 with
          | [], _ =>
            refine S.iteT (by simp) ?_
            walk_at "go"
            refine S.ixT (K := K) hd sm (d := .str w0) rfl fun y hy => ?_
            obtain rfl := dp_str hy
            walk_at "go"
            exact k F H (Gr.refl sm)
          | [x], _ =>
            refine S.iteF (by simp) ?_
            walk_at "go"
            refine S.ixT (K := K) hd sm (d := .str w0) rfl fun y hy => ?_
            obtain rfl := dp_str hy
            walk_at "go"
            refine S.ite (fun e6 => ?_) (fun e6 => ?_)
            · have e7 : w0 = "fork" := by simpa using e6
              dsimp only at k
              rw [if_pos e7] at k
              walk_at "go"
              refine meth_of hp hl2 ?_
              walk_at "go"
              refine S.ixT (K := K) hd sm (d := x) rfl fun y2 hy2 => ?_
              walk_at "go"
              exact ⟨F, p, st, W, y2, x, rfl, sm, hB, hy2, k F H (Gr.refl sm)⟩
            · have e7 : ¬ w0 = "fork" := by simpa using e6
              dsimp only at k
              rw [if_neg e7] at k
              walk_at "go"
              refine S.ixT (K := K) hd sm (d := .str w0) rfl fun y hy => ?_
              obtain rfl := dp_str hy
              walk_at "go"
              refine new_tupG (K := K) sm (ds := [.str "load", .str "store"]) (.cons (.str _) (.cons (.str _) .nil)) (by show 2 ≤ sizeLine; decide) fun q F1 g1 hq hv => ?_
              have hqq : upd H q (.tup [.str "load", .str "store"]) q = _ := upd_same
              generalize upd H q _ = H1 at *
              refine S.inT (K := K) hqq rfl rfl ?_
              have ei : inV (V.str w0) [V.str "load", V.str "store"] = (decide (w0 = "load") || decide (w0 = "store")) := by
                have h1 : ∀ a : Str, eqV (.str a) (.str w0) = decide (w0 = a) := fun a => by
                  show (a == w0) = _
                  by_cases z : w0 = a
                  · subst z; simp
                  · rw [decide_eq_false z]; exact beq_eq_false_iff_ne.mpr (Ne.symm z)
                unfold inV
                rw [List.any_cons, List.any_cons, List.any_nil, h1, h1, Bool.or_false]
              rw [ei]
              walk_at "go"
              refine S.ite (fun e8 => ?_) (fun e8 => ?_)
              · rw [e8, Bool.true_and] at k
                walk_at "go"
                refine S.ixT (K := K) hd (g1.fs.trans g1.sub) (d := x) rfl fun y2 hy2 => ?_
                walk_at "go"
                exact ⟨F1, y2, x, 0, 63, rfl, g1.sub, hy2.to g1.fs, k F1 H1 g1⟩
              · rw [e8, Bool.false_and] at k
                exact k F1 H1 g1

theorem ok_gone_through {P : Program} {w : World} {K : PySem.W.Frag} {mg : Str → Option Value} {base : Heap} {f : Addr} {fd : FuncData} (F : Fun K "gone_through" "gone_through" s_gone_through f fd) (B : Blt mg)
    {C : Addr} (TB : BoC K C) (c_is_tuple : Cal P w K mg base CX0 1 "is_tuple" P_is_tuple (spIsTuple K)) (c_is_deed : Cal P w K mg base CX0 3 "is_deed" P_is_deed (spIsDeed K C)) (c_Bodies : CCal P w K mg base CX0 1 C "Bodies" P_Bodies___init__ (spInit C)) (c_Bodies_done : MCal P w K mg base CX0 4 C "done" P_Bodies_done (spDone K C)) (g_MOST_DEEDS : GV mg "MOST_DEEDS" (.int 400))
    : FnOk P w K mg base CX0 (4 + 1) f fd P_gone_through (spGone K C) := by
  refine F.ok sc_gone_through (fun vs H Q E h => ?_) (fun cdv A outer s H vs Q E hr h => ?_)
  · obtain ⟨F, v, ds, rfl, _⟩ := h; rfl
  · have hu := hu_of hr
    have hu64 := Room.units hr
    have cl_Bodies := TB.cl
    obtain ⟨F, v, ds, rfl, sm, hd, hlen, ok, k⟩ := h
    refine ⟨_, (pss_cons (ps_if (pt_not (pt_val (pe_cal c_is_tuple (hr.mono (by first | decide | omega)) pass0 (pa_cons (pv 0) (pa_cons (pe_int) (pa_cons (pe_gv g_MOST_DEEDS) pa_nil)))))) (pss_one (ps_never)) pss_nil)
      (pss_cons (ps_par (i := 1) (j := 2) rfl sc_gone_through.nd rfl rfl (by decide) rfl rfl (pa_cons (pe_ccal0 c_Bodies (hr.mono (by first | decide | omega)) pass0) (pa_cons (pe_lst pa_nil) pa_nil)) rfl)
      (pss_cons (ps_for PassesOwn.never rfl (pi_enumT rfl B.m_enumerate (pa_cons (pv 0) pa_nil)) (pg_tup rfl (pgs_cons (pg_name (i := 3) sc_gone_through.nd rfl (Or.inl rfl) (by first | exact Or.inl rfl | exact Or.inr rfl)) (pgs_cons (pg_name (i := 4) sc_gone_through.nd rfl (Or.inl rfl) (by first | exact Or.inl rfl | exact Or.inr rfl)) pgs_nil))) (pss_cons (ps_if (pt_not (pt_val (pe_cal c_is_deed (hr.mono (by first | decide | omega)) pass0 (pa_cons (pv 1) (pa_cons (pv 4) pa_nil))))) (pss_one (ps_never)) pss_nil)
      (pss_one (ps_expr (pe_bm PySem.F.plainAttrs_list PySem.F.slot_list_extend PySem.F.type_list_extend mt_extend (pv 2) (pa_cons (pe_mcal c_Bodies_done cl_Bodies (hr.mono (by first | decide | omega)) pass0 (pv 1) (pa_cons (pv 4) pa_nil)) pa_nil))))))
      (pss_one (ps_ret (pe_tup (pa_cons (pv 2) (pa_cons (pv 1) pa_nil)))))))), ?_⟩
    try dsimp only [cxOf, Cx.nox, Cx.wish]
    walk_at "go"
    refine ⟨F, v, _, 0, 400, rfl, sm, hd, ?_⟩
    have e1 : isTuple (.tuple (ds.map deedD)) 0 400 = true := by
      show (decide ((0 : Int) ≤ ((ds.map deedD).length : Int)) && decide (((ds.map deedD).length : Int) ≤ 400)) = true
      rw [List.length_map, Bool.and_eq_true_iff, decide_eq_true_iff, decide_eq_true_iff]
      omega
    rw [e1]
    walk_at "go"
    refine S.iteF rfl ?_
    walk_at "go"
    intro p dx hp0 hdx0 ndx
    have g1 : Gr [] F H F _ := (Gr.newOwn (o := .own p) sm hdx0).poke (q := p) (o := .ins C dx []) hp0 (sub_free sm hp0)
    have hp1 : upd (upd H dx (.own p)) p (.ins C dx []) p = _ := upd_same
    generalize upd (upd H dx (.own p)) p (.ins C dx []) = H1 at *
    refine ⟨F, p, dx, rfl, g1.sub, sub_free sm hp0, hp1, fun F2 H2 W2 g2 hB2 hW2 => ⟨rfl, ?_⟩⟩
    have g02 : Gr [] F H F2 H2 := g1.fresh g2 fun x hx => by rw [List.mem_singleton.mp hx]; exact hp0
    have hW2' : ∀ b ∈ W2, H b = none := fun b hb => (hW2 b hb).elim (fun e => by rw [e]; exact hp0) g1.free
    walk_at "go"
    refine own_lstG g02.sub (by show 0 ≤ sizeLine; decide) fun q g3 hq fq hqq => ?_
    have hB3 := hB2.gr0 g3
    have nq := not_in_of_live hB2.live hq
    have hHq := g02.free hq
    have g03 := g02.trans g3
    generalize upd H2 q _ = H3 at *
    walk_at "go"
    refine ⟨_, _, rfl, ?_⟩
    walk_at "go"
    refine S.forS (S.iEnumT ?_)
    walk_at "go"
    obtain ⟨va, xs0, rfl, hva, hds⟩ := dp_tuple hd
    refine ⟨va, xs0, rfl, same_tup (g03.fs.trans g03.sub) hva, ?_⟩
    have hxl := dp_len hds
    rw [List.length_map] at hxl
    refine for_it (walk_enumT (K := K) (a := va) (xs := xs0)) (fun i σ H' => ∃ F' xs W' o1 o2, Gr [] F H F' H' ∧ BAt C F' H' p (runAll ([], st0) (ds.take i)).2 W' ∧ (∀ b ∈ W', H b = none) ∧ q ∉ W' ∧ F' q = none ∧ H' q = some (.lst xs) ∧ DpAll K F' xs ((runAll ([], st0) (ds.take i)).1.map evD) ∧
      σ = ((((L2.start N_gone_through [V.ref va]).set 1 (some (V.ref p))).set 2 (some (V.ref q))).set 3 o1).set 4 o2) ?_ ?_ ?_ ?_
    · exact ⟨F2, [], W2, none, none, g03, hB3, hW2', nq, fq, hqq, .nil, rfl⟩
    · rintro i σ H' _ ⟨F', xs, W', o1, o2, g, _⟩
      exact same_tup (g.fs.trans g.sub) hva
    · rintro i v σ H' H'' hi ⟨F', xs, W', o1, o2, g, hB, hW, nq', fq', hq', hx, rfl⟩ ⟨T, x, y, rfl, hT, rfl, ex, ey⟩
      obtain rfl : V.int (i : Nat) = x := Option.some.inj ex
      obtain ⟨dy, hdy, hy⟩ := dp_getV hds ey
      rw [List.getElem?_map] at hdy
      obtain ⟨d, hd0⟩ : ∃ d, ds[i]? = some d := by
        cases z : ds[i]? with
        | none => rw [z] at hdy; cases hdy
        | some d => exact ⟨d, rfl⟩
      rw [hd0] at hdy
      obtain rfl : deedD d = dy := Option.some.inj hdy
      have hil : i ≤ ds.length := by omega
      obtain ⟨hok, hel⟩ := run_ok ok i hil
      have hokd := okAll_at (es := []) ok hd0
      have hstep : runAll ([], st0) (ds.take (i + 1)) = runStep (runAll ([], st0) (ds.take i)) d := take_succ_fold hd0
      obtain ⟨hok', hel'⟩ := run_ok ok (i + 1) (by omega)
      rw [hstep] at hel'
      obtain ⟨_, hdl⟩ := hok.step (by omega) (can_of hok hokd)
      rw [hstep]
      generalize runAll ([], st0) (ds.take i) = z at *
      have g4 : Gr [] F' H' F' _ := Gr.newOwn (o := .tup [.int (i : Nat), y]) g.sub hT
      have hB4 := hB.gr0 g4
      have hq4 := g4.at0 hq'
      have hTT : upd H' T (.tup [.int (i : Nat), y]) T = _ := upd_same
      generalize upd H' T _ = H4 at *
      refine S.gTupO hTT rfl ?_
      walk_at "go"
      refine ⟨F', p, z.2, W', y, deedD d, rfl, g4.sub, hB4, hy.to g.fs, fun F5 H5 g5 => ?_⟩
      rw [show deedOk z.2 (deedD d) = true from hokd]
      have hB5 := hB4.gr0 g5
      have hq5 := g5.at0 hq4
      have fq5 : F5 q = none := g5.own q fq' (by rw [hq4]; exact fun z => nomatch z)
      walk_at "go"
      refine S.iteF rfl ?_
      walk_at "go"
      refine S.tyO hq5 ?_
      walk_at "go"
      have hp5 : ∃ dx fs, H5 p = some (.ins C dx fs) ∧ fs.lookup ("done" : Str) = none := by
        obtain ⟨a, b, m, T, rfl, P'⟩ := hB5
        obtain ⟨dx, hp⟩ := P'.ob
        exact ⟨dx, _, hp, rfl⟩
      obtain ⟨dx5, fs5, hp5, hl5⟩ := hp5
      refine meth_of hp5 hl5 ?_
      walk_at "go"
      have g05 := (g.trans g4).trans g5
      refine ⟨F5, p, z.2, W', y, d, rfl, g5.sub, hB5, hy.to g05.fs, can_of hok hokd, ⟨i, by omega, hok⟩, fun q2 xs2 F6 H6 W6 g6 hB6 hW6 hq2 nq2 fq2 hqq2 hx2 => ?_⟩
      have g06 := g05.fresh g6 hW
      have hq6 := g6.at nq' hq5
      have fq6 : F6 q = none := g6.own q fq5 (by rw [hq5]; exact fun z => nomatch z)
      have l1 := dp_len hx
      have l2 := dp_len hx2
      rw [List.length_map] at l1 l2
      walk_at "go"
      refine S.extO hq6 hqq2 ?_ ?_
      · refine app_len (n := i * (i + 2)) (m := i + 2) (by omega) (by omega) ?_
        have : i * (i + 2) ≤ 400 * 402 := Nat.mul_le_mul (by omega) (by omega)
        omega
      walk_at "go"
      have nq6 : q ∉ W6 := fun h => by
        rcases hW6 q h with h | h
        · exact nq' h
        · rw [hq5] at h; cases h
      refine S.next ⟨F6, _, W6, some (.int (i : Nat)), some y, g06.poke hHq fq6, hB6.poke nq6, fun b hb => ?_, nq6, fq6, upd_same, ?_, ?_⟩
      · rcases hW6 b hb with h | h
        · exact hW b h
        · exact g05.free h
      · show DpAll K F6 _ ((z.1 ++ (doneE z.2 d).1).map evD)
        rw [List.map_append]
        exact dp_app (hx.to (g4.fs.trans (g5.fs.trans g6.fs))) hx2
      · rfl
    · rintro σ H' ⟨F', xs, W', o1, o2, g, hB, hW, nq', fq', hq', hx, rfl⟩
      rw [hxl, List.take_length] at *
      walk_at "go"
      refine ⟨by show 2 ≤ sizeLine; decide, fun r hr => ?_⟩
      have g7 : Gr [] F' H' F' _ := Gr.newOwn (o := .tup [.ref q, .ref p]) g.sub hr
      exact k r q p xs F' _ W' (g.trans g7) (hB.gr0 g7) hW hHq nq' fq' (g7.at0 hq') hx (g.free hr) upd_same

theorem ok_need_frames {P : Program} {w : World} {K : PySem.W.Frag} {mg : Str → Option Value} {base : Heap} {f : Addr} {fd : FuncData} (F : Fun K "need_frames" "need_frames" s_need_frames f fd) (B : Blt mg)
    (c_is_from : Cal P w K mg base CX0 1 "is_from" P_is_from (spIsFrom K)) (g_MOST_FRAMES : GV mg "MOST_FRAMES" (.int 16))
    : FnOk P w K mg base CX0 (1 + 1) f fd P_need_frames (spNeedFrames K) := by
  refine F.ok sc_need_frames (fun vs H Q E h => ?_) (fun cdv A outer s H vs Q E hr h => ?_)
  · obtain ⟨n, rfl, _⟩ := h; rfl
  · have hu := hu_of hr
    have hu64 := Room.units hr
    obtain ⟨n, rfl, h1, h2, k⟩ := h
    refine ⟨_, (pss_one (ps_if (pt_not (pt_val (pe_cal c_is_from (hr.mono (by first | decide | omega)) pass0 (pa_cons (pv 0) (pa_cons (pe_int) (pa_cons (pe_gv g_MOST_FRAMES) pa_nil)))))) (pss_one (ps_never)) pss_nil)), ?_⟩
    try dsimp only [cxOf, Cx.nox, Cx.wish]
    walk_at "go"
    refine ⟨fun _ => none, .int n, .int n, 1, 16, rfl, fun _ _ z => by (cases z), .int n, ?_⟩
    walk_at "go"
    have e : isFrom (.int n) 1 16 = true := by
      show (decide (1 ≤ n) && decide (n ≤ 16)) = true
      rw [decide_eq_true h1, decide_eq_true h2] <;> rfl
    refine S.iteF (by rw [e]; rfl) ?_
    exact k

theorem ok_are_choices {P : Program} {w : World} {K : PySem.W.Frag} {mg : Str → Option Value} {base : Heap} {f : Addr} {fd : FuncData} (F : Fun K "are_choices" "are_choices" s_are_choices f fd) (B : Blt mg)
    (c_is_tuple : Cal P w K mg base CX0 1 "is_tuple" P_is_tuple (spIsTuple K)) (c_is_from : Cal P w K mg base CX0 1 "is_from" P_is_from (spIsFrom K)) (g_MOST_FRAMES : GV mg "MOST_FRAMES" (.int 16)) (g_MOST_CHOICES : GV mg "MOST_CHOICES" (.int 800))
    : FnOk P w K mg base CX0 (1 + 1) f fd P_are_choices (spChoices K) := by
  refine F.ok sc_are_choices (fun vs H Q E h => ?_) (fun cdv A outer s H vs Q E hr h => ?_)
  · obtain ⟨F, v, cs, rfl, _⟩ := h; rfl
  · have hu := hu_of hr
    have hu64 := Room.units hr
    obtain ⟨F, v, cs, rfl, sm, hd, hl, hc, k⟩ := h
    refine ⟨_, (pss_one (ps_ret (pe_and (pe_cal c_is_tuple (hr.mono (by first | decide | omega)) pass0 (pa_cons (pv 0) (pa_cons (pe_int) (pa_cons (pe_gv g_MOST_CHOICES) pa_nil)))) (pe_one (pe_callB (cr_all rfl) rfl B.m_all (by first | exact PySem.boot_all | decide +kernel) (pa_cons (pe_lc (own := [("choice", 1)]) rfl sc_are_choices.nd (pi_seq (pv 0)) (blkOk_by (N := N_are_choices) (sc := defScope s_are_choices) (by decide +kernel)) (fun _ _ _ _ _ => (pg_name (i := 1) sc_are_choices.nd rfl (Or.inl rfl))) (fun _ _ _ _ _ => pts_nil) (fun _ _ _ _ _ => (pe_cal c_is_from (hr.mono (by first | decide | omega)) pass0 (pa_cons (pv 1) (pa_cons (pe_int) (pa_cons (pe_op op_sub (pe_gv g_MOST_FRAMES) (pe_int)) pa_nil)))))) pa_nil)))))), ?_⟩
    try dsimp only [cxOf, Cx.nox, Cx.wish]
    walk_at "go"
    refine ⟨F, v, _, 0, 800, rfl, sm, hd, ?_⟩
    have e1 : isTuple (.tuple (cs.map PyData.int)) 0 800 = true := by
      show (decide ((0 : Int) ≤ ((cs.map PyData.int).length : Int)) && decide (((cs.map PyData.int).length : Int) ≤ 800)) = true
      rw [List.length_map, Bool.and_eq_true_iff, decide_eq_true_iff, decide_eq_true_iff]
      omega
    rw [e1]
    walk_at "go"
    refine S.iteT rfl ?_
    walk_at "go"
    refine S.lcS (S.iSeqT ?_)
    walk_at "go"
    obtain ⟨va, xs, rfl, hva, hds⟩ := dp_tuple hd
    obtain rfl := dp_ints_inv hds
    refine ⟨va, rfl, ⟨_, same_tup sm hva⟩, fun D hD => ?_⟩
    refine lc_it (walk_tup (K := K) (a := va) (xs := cs.map V.int)) (fun i H' => H' = upd H D (.lst ((List.replicate i true).map V.bl)) ∧ i ≤ cs.length) ⟨rfl, Nat.zero_le _⟩ ?_ ?_ ?_
    · rintro i H' _ ⟨rfl, _⟩
      exact same_tup (Gr.newOwn (W := []) sm hD).sub hva
    · rintro i x H' H'' hi ⟨rfl, hil⟩ ⟨rfl, hx⟩
      rw [List.getElem?_map] at hx
      obtain ⟨c, hc0⟩ : ∃ c, cs[i]? = some c := by
        cases q : cs[i]? with
        | none => rw [q] at hx; cases hx
        | some c => exact ⟨c, rfl⟩
      rw [hc0] at hx
      obtain rfl : V.int c = x := Option.some.inj hx
      obtain ⟨hc1, hc2⟩ := hc c (List.mem_of_getElem? hc0)
      walk_at "go"
      refine ⟨rfl, ?_⟩
      refine S.yes ?_
      walk_at "go"
      refine S.iteT rfl ?_
      walk_at "go"
      refine ⟨fun _ => none, .int c, .int c, 0, 15, rfl, fun _ _ z => by (cases z), .int c, ?_⟩
      have e : isFrom (.int c) 0 15 = true := by
        show (decide (0 ≤ c) && decide (c ≤ 15)) = true
        rw [decide_eq_true hc1, decide_eq_true hc2] <;> rfl
      rw [e]
      refine ⟨_, upd_same, ?_, ?_, ?_⟩
      · rw [List.length_map, List.length_replicate]; exact size1000000 (by omega)
      · rw [upd_upd]
        congr 2
        rw [show V.bl true = (fun b : Bool => V.bl b) true from rfl]
        simp [List.replicate_succ']
      · rw [List.length_map] at hi; omega
    · rintro H' ⟨rfl, _⟩
      walk_at "go"
      rw [List.length_map]
      refine ⟨D, List.replicate cs.length true, rfl, SqL.of upd_same, ?_⟩
      rw [show (List.replicate cs.length true).all id = true by rw [List.all_eq_true]; intro b hb; rw [(List.mem_replicate.mp hb).2]; rfl]
      exact k F _ (Gr.newOwn sm hD)

theorem ok_is_rule {P : Program} {w : World} {K : PySem.W.Frag} {mg : Str → Option Value} {base : Heap} {f : Addr} {fd : FuncData} (F : Fun K "is_rule" "is_rule" s_is_rule f fd) (B : Blt mg)
    (c_is_tuple : Cal P w K mg base CX0 1 "is_tuple" P_is_tuple (spIsTuple K)) (c_are_choices : Cal P w K mg base CX0 2 "are_choices" P_are_choices (spChoices K)) (g_FIRST : GV mg "FIRST" (.str "first")) (g_LONGEST : GV mg "LONGEST" (.str "longest")) (g_CLOCK : GV mg "CLOCK" (.str "clock")) (g_TOLD : GV mg "TOLD" (.str "told"))
    : FnOk P w K mg base CX0 (2 + 1) f fd P_is_rule (spIsRule K) := by
  refine F.ok sc_is_rule (fun vs H Q E h => ?_) (fun cdv A outer s H vs Q E hr h => ?_)
  · obtain ⟨F, v, R, rfl, _⟩ := h; rfl
  · have hu := hu_of hr
    have hu64 := Room.units hr
    obtain ⟨F, v, R, rfl, sm, hd, hR, k⟩ := h
    refine ⟨_, (pss_cons (ps_if (pt_val (pe_callB call_isi rfl B.m_isinstance (by first | exact PySem.boot_isinstance | decide +kernel) (pa_cons (pv 0) (pa_cons (pe_bltn (v := V.ty "str") rfl B.m_str (by decide +kernel : bootBuiltins "str" = some (.type "str")) rfl) pa_nil)))) (pss_one (ps_ret (pe_cmpR op_in_seq (pv 0) (pe_tup (pa_cons (pe_gv g_FIRST) (pa_cons (pe_gv g_LONGEST) (pa_cons (pe_gv g_CLOCK) pa_nil)))) (by first | rfl | exact nomark _)))) pss_nil)
      (pss_one (ps_ret (pe_and (pe_cal c_is_tuple (hr.mono (by first | decide | omega)) pass0 (pa_cons (pv 0) (pa_cons (pe_int) (pa_cons (pe_int) pa_nil)))) (pe_and (pe_callB call_isi rfl B.m_isinstance (by first | exact PySem.boot_isinstance | decide +kernel) (pa_cons (pe_ix ix_seq (pv 0) (pe_int) (fun _ _ => rfl)) (pa_cons (pe_bltn (v := V.ty "str") rfl B.m_str (by decide +kernel : bootBuiltins "str" = some (.type "str")) rfl) pa_nil))) (pe_and (pe_cmpR (op_eqU hu64) (pe_ix ix_seq (pv 0) (pe_int) (fun _ _ => rfl)) (pe_gv g_TOLD) (nomark _)) (pe_one (pe_cal c_are_choices (hr.mono (by first | decide | omega)) pass0 (pa_cons (pe_ix ix_seq (pv 0) (pe_int) (fun _ _ => rfl)) pa_nil))))))))), ?_⟩
    try dsimp only [cxOf, Cx.nox, Cx.wish]
    walk_at "go"
    refine isi_str hd sm ?_
    rw [isStr_rule]
    walk_at "go"
    have simple : ∀ x : Str, v = .str x → inV (.str x) [.str "first", .str "longest", .str "clock"] = true → tOp (rIn K false) (tVar 0) (tTup (tCons (tC (.str "first")) (tCons (tC (.str "longest")) (tCons (tC (.str "clock")) tNil)))) (L2.start N_is_rule [v]) H Q := by
      intro x hx hi
      subst hx
      walk_at "go"
      refine new_tupG (K := K) sm (ds := [.str "first", .str "longest", .str "clock"]) (.cons (.str _) (.cons (.str _) (.cons (.str _) .nil))) (by show 3 ≤ sizeLine; decide) fun q F1 g1 hq hv => ?_
      have hqq : upd H q (.tup [.str "first", .str "longest", .str "clock"]) q = _ := upd_same
      generalize upd H q _ = H1 at *
      refine S.inT (K := K) hqq rfl rfl ?_
      rw [hi]
      exact k F1 H1 g1
    cases R with
    | first =>
      refine S.iteT rfl ?_
      exact simple "first" (dp_str hd) (by decide +kernel)
    | longest =>
      refine S.iteT rfl ?_
      exact simple "longest" (dp_str hd) (by decide +kernel)
    | clock =>
      refine S.iteT rfl ?_
      exact simple "clock" (dp_str hd) (by decide +kernel)
    | told cs =>
      refine S.iteF rfl ?_
      walk_at "go"
      refine ⟨F, v, _, 2, 2, rfl, sm, hd, ?_⟩
      rw [show isTuple (ruleD (.told cs)) 2 2 = true from rfl]
      walk_at "go"
      refine S.iteT rfl ?_
      walk_at "go"
      refine S.ixT (K := K) (ds := [.str "told", .tuple (cs.map PyData.int)]) (d := .str "told") hd sm rfl fun u hu' => ?_
      obtain rfl := dp_str hu'
      walk_at "go"
      refine isi_str (.str _) sm ?_
      walk_at "go"
      refine S.iteT rfl ?_
      walk_at "go"
      refine S.ixT (K := K) (ds := [.str "told", .tuple (cs.map PyData.int)]) (d := .str "told") hd sm rfl fun u hu' => ?_
      obtain rfl := dp_str hu'
      walk_at "go"
      refine S.iteT (by decide) ?_
      walk_at "go"
      refine S.ixT (K := K) (ds := [.str "told", .tuple (cs.map PyData.int)]) (d := .tuple (cs.map PyData.int)) hd sm rfl fun u hu' => ?_
      walk_at "go"
      exact ⟨F, u, cs, rfl, sm, hu', hR.1, hR.2, k⟩

theorem ok_need_rule {P : Program} {w : World} {K : PySem.W.Frag} {mg : Str → Option Value} {base : Heap} {f : Addr} {fd : FuncData} (F : Fun K "need_rule" "need_rule" s_need_rule f fd) (B : Blt mg)
    (c_is_rule : Cal P w K mg base CX0 3 "is_rule" P_is_rule (spIsRule K))
    : FnOk P w K mg base CX0 (3 + 1) f fd P_need_rule (spNeedRule K) := by
  refine F.ok sc_need_rule (fun vs H Q E h => ?_) (fun cdv A outer s H vs Q E hr h => ?_)
  · obtain ⟨F, v, R, rfl, _⟩ := h; rfl
  · have hu := hu_of hr
    have hu64 := Room.units hr
    obtain ⟨F, v, R, rfl, sm, hd, hR, k⟩ := h
    refine ⟨_, (pss_one (ps_if (pt_not (pt_val (pe_cal c_is_rule (hr.mono (by first | decide | omega)) pass0 (pa_cons (pv 0) pa_nil)))) (pss_one (ps_never)) pss_nil)), ?_⟩
    try dsimp only [cxOf, Cx.nox, Cx.wish]
    walk_at "go"
    refine ⟨F, v, R, rfl, sm, hd, hR, fun F' H' g => ?_⟩
    walk_at "go"
    refine S.iteF rfl ?_
    exact k F' H' g

theorem ok_Frames___init__ {P : Program} {w : World} {K : PySem.W.Frag} {mg : Str → Option Value} {base : Heap} {f : Addr} {fd : FuncData} (F : Fun K "__init__" "Frames.__init__" s_Frames___init__ f fd) (B : Blt mg)
    {C : Addr} (TB : FrC K C)
    : FnOk P w K mg base CX0 (0 + 1) f fd P_Frames___init__ (spFInit K C) := by
  refine F.ok sc_Frames___init__ (fun vs H Q E h => ?_) (fun cdv A outer s H vs Q E hr h => ?_)
  · obtain ⟨F, p, dx, n, v, R, rfl, _⟩ := h; rfl
  · have hu := hu_of hr
    have hu64 := Room.units hr
    obtain ⟨F, p, dx, n, v, R, rfl, sm, fp, hp, hd, k⟩ := h
    refine ⟨_, (pss_cons (ps_fld (pv 0) (pv 1) rfl)
      (pss_cons (ps_fld (pv 0) (pv 2) rfl)
      (pss_cons (ps_fld (pv 0) (pe_lst pa_nil) rfl)
      (pss_cons (ps_fld (pv 0) (pe_dnewK) rfl)
      (pss_cons (ps_fld (pv 0) (pe_int) rfl)
      (pss_one (ps_fld (pv 0) (pe_int) rfl))))))), ?_⟩
    try dsimp only [cxOf, Cx.nox, Cx.wish]
    walk_at "go"
    refine ⟨p, C, dx, _, rfl, hp, TB.cl, TB.n1, (by show 0 < 1000; decide), ?_⟩
    rw [show putF "places" (V.int n) [] = [(("places" : Str), V.int n)] from rfl]
    walk_at "go"
    refine ⟨p, C, dx, _, rfl, upd_same, TB.cl, TB.n2, (by show 1 < 1000; decide), ?_⟩
    rw [upd_upd, show putF "rule" v [(("places" : Str), V.int n)] = [(("places" : Str), V.int n), (("rule" : Str), v)] from rfl]
    have g1 : Gr [p] F H F _ := (Gr.refl sm).put (q := p) (o := .ins C dx [(("places" : Str), V.int n), (("rule" : Str), v)]) (by simp) fp
    have hp1 : upd H p (.ins C dx [(("places" : Str), V.int n), (("rule" : Str), v)]) p = _ := upd_same
    generalize upd H p _ = H1 at *
    walk_at "go"
    refine ⟨by show 0 ≤ sizeLine; decide, fun r hr => ?_⟩
    have nrp : r ≠ p := fun z => by rw [z, hp1] at hr; cases hr
    have fr := sub_free g1.sub hr
    have hHr := g1.free hr
    have g2 := g1.poke (q := r) (o := .lst []) hHr fr
    have hp2 := (upd_ne (o := .lst []) (a := r) (H := H1) nrp.symm).trans hp1
    have hr2 : upd H1 r (.lst []) r = _ := upd_same
    generalize upd H1 r _ = H2 at *
    walk_at "go"
    refine ⟨p, C, dx, _, rfl, hp2, TB.cl, TB.n3, (by show 2 < 1000; decide), ?_⟩
    rw [show putF "row" (V.ref r) [(("places" : Str), V.int n), (("rule" : Str), v)] = [(("places" : Str), V.int n), (("rule" : Str), v), (("row" : Str), V.ref r)] from rfl]
    have g3 := g2.put (q := p) (o := .ins C dx [(("places" : Str), V.int n), (("rule" : Str), v), (("row" : Str), V.ref r)]) (by simp) fp
    have hp3 : upd H2 p (.ins C dx [(("places" : Str), V.int n), (("rule" : Str), v), (("row" : Str), V.ref r)]) p = _ := upd_same
    have hr3 := (upd_ne (o := .ins C dx [(("places" : Str), V.int n), (("rule" : Str), v), (("row" : Str), V.ref r)]) (a := p) (H := H2) nrp).trans hr2
    generalize upd H2 p _ = H3 at *
    walk_at "go"
    refine S.dnewK fun m hm => ?_
    have nmp : m ≠ p := fun z => by rw [z, hp3] at hm; cases hm
    have nmr : m ≠ r := fun z => by rw [z, hr3] at hm; cases hm
    have fm := sub_free g3.sub hm
    have hHm := g3.free hm
    have g4 := g3.poke (q := m) (o := .dK []) hHm fm
    have hp4 := (upd_ne (o := .dK []) (a := m) (H := H3) nmp.symm).trans hp3
    have hr4 := (upd_ne (o := .dK []) (a := m) (H := H3) nmr.symm).trans hr3
    have hm4 : upd H3 m (.dK []) m = _ := upd_same
    generalize upd H3 m _ = H4 at *
    walk_at "go"
    refine ⟨p, C, dx, _, rfl, hp4, TB.cl, TB.n4, (by show 3 < 1000; decide), ?_⟩
    rw [show putF "marked" (V.ref m) [(("places" : Str), V.int n), (("rule" : Str), v), (("row" : Str), V.ref r)] = [(("places" : Str), V.int n), (("rule" : Str), v), (("row" : Str), V.ref r), (("marked" : Str), V.ref m)] from rfl]
    walk_at "go"
    refine ⟨p, C, dx, _, rfl, upd_same, TB.cl, TB.n5, (by show 4 < 1000; decide), ?_⟩
    rw [upd_upd, show putF "missed" (V.int 0) [(("places" : Str), V.int n), (("rule" : Str), v), (("row" : Str), V.ref r), (("marked" : Str), V.ref m)] = [(("places" : Str), V.int n), (("rule" : Str), v), (("row" : Str), V.ref r), (("marked" : Str), V.ref m), (("missed" : Str), V.int 0)] from rfl]
    walk_at "go"
    refine ⟨p, C, dx, _, rfl, upd_same, TB.cl, TB.n6, (by show 5 < 1000; decide), ?_⟩
    rw [upd_upd, show putF "left" (V.int 0) [(("places" : Str), V.int n), (("rule" : Str), v), (("row" : Str), V.ref r), (("marked" : Str), V.ref m), (("missed" : Str), V.int 0)] = fflds n v r m 0 0 from rfl]
    have g5 := g4.put (q := p) (o := .ins C dx (fflds n v r m 0 0)) (by simp) fp
    have hp5 : upd H4 p (.ins C dx (fflds n v r m 0 0)) p = _ := upd_same
    have hr5 := (upd_ne (o := .ins C dx (fflds n v r m 0 0)) (a := p) (H := H4) nrp).trans hr4
    have hm5 := (upd_ne (o := .ins C dx (fflds n v r m 0 0)) (a := p) (H := H4) nmp).trans hm4
    generalize upd H4 p _ = H5 at *
    refine S.next ?_
    refine k F H5 _ g5 ⟨v, r, m, rfl, ⟨dx, hp5⟩, hr5, hm5, hd, nrp.symm, nmp.symm, nmr.symm, fp, fr, fm⟩ ?_
    intro x hx
    simp only [List.mem_cons, List.not_mem_nil, or_false] at hx
    rcases hx with rfl | rfl | rfl
    · exact .inl rfl
    · exact .inr hHr
    · exact .inr hHm

theorem ok_Frames_inside {P : Program} {w : World} {K : PySem.W.Frag} {mg : Str → Option Value} {base : Heap} {f : Addr} {fd : FuncData} (F : Fun K "inside" "Frames.inside" s_Frames_inside f fd) (B : Blt mg)
    {C : Addr} (TB : FrC K C)
    : FnOk P w K mg base CX0 (0 + 1) f fd P_Frames_inside (spInside K C) := by
  refine F.ok sc_Frames_inside (fun vs H Q E h => ?_) (fun cdv A outer s H vs Q E hr h => ?_)
  · obtain ⟨F, p, st, W, rfl, _⟩ := h; rfl
  · have hu := hu_of hr
    have hu64 := Room.units hr
    obtain ⟨F, p, st, W, rfl, sm, ⟨v, r, m, rfl, P1⟩, k⟩ := h
    obtain ⟨dx, hp⟩ := P1.ob
    refine ⟨_, (pss_one (ps_ret (pe_callTy call_tuple_of rfl B.m_tuple (by decide +kernel) (pa_cons (pe_callB cr_sortedI rfl B.m_sorted (by first | exact PySem.boot_sorted | decide +kernel) (pa_cons (pe_fld (pv 0) rfl) pa_nil)) pa_nil)))), ?_⟩
    try dsimp only [cxOf, Cx.nox, Cx.wish]
    walk_at "go"
    refine fld_of hp TB.cl TB.n3 (lk_row ..) ?_
    walk_at "go"
    refine ⟨r, st.row, rfl, SqL.of P1.rwd, fun ys q hperm hpw hq => ?_⟩
    obtain rfl := sortI_uniq hperm hpw
    have g1 : Gr [] F H F _ := Gr.newOwn (o := .lst ((sortI st.row).map V.int)) sm hq
    have hqq : upd H q (.lst ((sortI st.row).map V.int)) q = _ := upd_same
    generalize upd H q _ = H1 at *
    walk_at "go"
    refine ⟨q, _, rfl, .inl ⟨SqL.of hqq, ?_⟩⟩
    refine made_tupG (K := K) (ds := (sortI st.row).map PyData.int) g1.sub (dp_ints _) fun t F2 g2 ht hv => ?_
    exact k _ _ _ (g1.trans g2) hv

theorem ok_Frames_chosen {P : Program} {w : World} {K : PySem.W.Frag} {mg : Str → Option Value} {base : Heap} {f : Addr} {fd : FuncData} (F : Fun K "chosen" "Frames.chosen" s_Frames_chosen f fd) (B : Blt mg)
    {C : Addr} (TB : FrC K C)
    : FnOk P w K mg base CX0 (0 + 1) f fd P_Frames_chosen (spChosen K C) := by
  refine F.ok sc_Frames_chosen (fun vs H Q E h => ?_) (fun cdv A outer s H vs Q E hr h => ?_)
  · obtain ⟨F, p, st, W, rfl, _⟩ := h; rfl
  · have hu := hu_of hr
    have hu64 := Room.units hr
    obtain ⟨F, p, st, W, rfl, sm, ⟨v, r, m, rfl, P1⟩, hR, hpl, hlen, k⟩ := h
    obtain ⟨dx, hp⟩ := P1.ob
    obtain ⟨cs, hcs⟩ : ∃ cs, st.rule = .told cs := by
      cases q : st.rule with
      | told cs => exact ⟨cs, rfl⟩
      | _ => rw [q] at hR; cases hR
    have hrl := P1.rl
    rw [hcs] at hrl
    refine ⟨_, (pss_cons (ps_set (i := 1) sc_Frames_chosen.nd rfl (Or.inl rfl) (pe_ix ix_seq (pe_fld (pv 0) rfl) (pe_int) (fun _ _ => rfl)))
      (pss_cons (ps_set (i := 2) sc_Frames_chosen.nd rfl (Or.inl rfl) (pe_ifExp (pt_cmpR op_lt (pe_fld (pv 0) rfl) (pe_callB call_lenU rfl B.m_len (by first | exact PySem.boot_len | decide +kernel) (pa_cons (pv 1) pa_nil)) (nomark _)) (pe_ix ix_seq (pv 1) (pe_fld (pv 0) rfl) (fun _ _ => rfl)) (pe_int)))
      (pss_one (ps_ret (pe_ix ix_seq (pe_callB cr_sortedI rfl B.m_sorted (by first | exact PySem.boot_sorted | decide +kernel) (pa_cons (pe_fld (pv 0) rfl) pa_nil)) (pe_op op_mod (pe_callTy call_int1 rfl B.m_int (by decide +kernel) (pa_cons (pv 2) pa_nil)) (pe_fld (pv 0) rfl)) (fun _ _ => rfl)))))), ?_⟩
    try dsimp only [cxOf, Cx.nox, Cx.wish]
    walk_at "go"
    refine fld_of hp TB.cl TB.n2 (lk_rule ..) ?_
    walk_at "go"
    refine S.ixT (K := K) (ds := [.str "told", .tuple (cs.map PyData.int)]) (d := .tuple (cs.map PyData.int)) hrl sm rfl fun u hu' => ?_
    walk_at "go"
    refine fld_of hp TB.cl TB.n6 (lk_left ..) ?_
    walk_at "go"
    refine S.lenT (K := K) hu' sm ?_
    walk_at "go"
    have hch : choiceF st = (cs[st.left]?).getD 0 := by unfold choiceF; rw [hcs]
    have fin : ∀ c : Int, c = choiceF st → ∀ σ, σ = ((L2.start N_Frames_chosen [V.ref p]).set 1 (some u)).set 2 (some (V.int c)) → tRet
        (tOp (rIx K) (tCB (rSortedI K) (tCons (tFld K (tVar 0) "row") tNil)) (tOp (rI (fun _ j => 0 < j) fun i j => V.int (i % j)) (tCB (fun xs H Q => (∃ i, xs = [V.int i] ∧ Q (.int i) H) ∨ ∃ k, xs = [V.bl k] ∧ Q (.int (if k then 1 else 0)) H) (tCons (tVar 2) tNil)) (tFld K (tVar 0) "places"))) { nx := fun x H' => Q V.non H', rt := Q } σ H := by
      intro c hcc σ hσ
      subst hσ
      walk_at "go"
      refine fld_of hp TB.cl TB.n3 (lk_row ..) ?_
      walk_at "go"
      refine ⟨r, st.row, rfl, SqL.of P1.rwd, fun ys q hperm hpw hq => ?_⟩
      obtain rfl := sortI_uniq hperm hpw
      have g1 : Gr [] F H F _ := Gr.newOwn (o := .lst ((sortI st.row).map V.int)) sm hq
      have hqq : upd H q (.lst ((sortI st.row).map V.int)) q = _ := upd_same
      have P2 := P1.gr0 g1
      generalize upd H q _ = H1 at *
      obtain ⟨dx2, hp2⟩ := P2.ob
      walk_at "go"
      refine .inl ⟨c, rfl, ?_⟩
      walk_at "go"
      refine fld_of hp2 TB.cl TB.n1 (lk_places ..) ?_
      refine S.rI (show 0 < st.places by omega) ?_
      have hm1 := Int.emod_nonneg c (show st.places ≠ 0 by omega)
      have hm2 := Int.emod_lt_of_pos c (show 0 < st.places by omega)
      have hl2 : (sortI st.row).length = st.row.length := (sortI_perm _).length_eq
      have hj : (c % st.places).toNat < (sortI st.row).length := by omega
      have ej : c % st.places = (((c % st.places).toNat : Nat) : Int) := by omega
      have ee : atI ((sortI st.row).map V.int) (c % st.places) = some (.int (chosenF st)) := by
        rw [ej]
        apply S.atI_nat
        rw [List.getElem?_map]
        unfold chosenF
        rw [← hcc, List.getElem?_eq_getElem hj]
        rfl
      refine S.ixO hqq ee ?_
      exact k F H1 g1
    refine S.ite (fun e => ?_) (fun e => ?_)
    · have e' : st.left < (cs.map PyData.int).length := by simpa using e
      walk_at "go"
      refine fld_of hp TB.cl TB.n6 (lk_left ..) ?_
      have e2 : atI (cs.map PyData.int) (st.left : Int) = some (.int (choiceF st)) := by
        apply S.atI_nat
        rw [List.length_map] at e'
        rw [hch, List.getElem?_map, List.getElem?_eq_getElem e']
        rfl
      refine S.ixT (K := K) hu' sm e2 fun c hc => ?_
      obtain rfl := dp_int hc
      exact fin _ rfl _ rfl
    · have e' : ¬ st.left < (cs.map PyData.int).length := by simpa using e
      refine S.c ?_
      refine fin 0 ?_ _ rfl
      rw [List.length_map] at e'
      rw [hch, List.getElem?_eq_none (by omega)]
      rfl

theorem ok_Frames_put_out {P : Program} {w : World} {K : PySem.W.Frag} {mg : Str → Option Value} {base : Heap} {f : Addr} {fd : FuncData} (F : Fun K "put_out" "Frames.put_out" s_Frames_put_out f fd) (B : Blt mg)
    {C : Addr} (TB : FrC K C) (c_Frames_chosen : MCal P w K mg base CX0 1 C "chosen" P_Frames_chosen (spChosen K C)) (g_CLOCK : GV mg "CLOCK" (.str "clock"))
    : FnOk P w K mg base CX0 (1 + 1) f fd P_Frames_put_out (spPutOut K C) := by
  refine F.ok sc_Frames_put_out (fun vs H Q E h => ?_) (fun cdv A outer s H vs Q E hr h => ?_)
  · obtain ⟨F, p, st, W, rfl, _⟩ := h; rfl
  · have hu := hu_of hr
    have hu64 := Room.units hr
    have cl_Frames := TB.cl
    obtain ⟨F, p, st, W, rfl, sm, ⟨v, r, m, rfl, P1⟩, ⟨n, hn, hok⟩, hlen, k⟩ := h
    obtain ⟨dx, hp⟩ := P1.ob
    refine ⟨_, (pss_cons (ps_if (pt_cmpR (op_eqU hu64) (pe_fld (pv 0) rfl) (pe_gv g_CLOCK) (nomark _)) (pss_one (ps_while PassesOwn.never (pt_cmp (pc_din hu (pe_ix ix_seq (pe_fld (pv 0) rfl) (pe_int) (fun _ _ => rfl)) (pe_fld (pv 0) rfl))) (pss_cons (ps_set (i := 1) sc_Frames_put_out.nd rfl (Or.inl rfl) (pe_bm PySem.F.plainAttrs_list PySem.F.slot_list_pop PySem.F.type_list_pop mt_popAt (pe_fld (pv 0) rfl) (pa_cons (pe_int) pa_nil)))
      (pss_cons (ps_expr (pe_dpop1 (pe_fld (pv 0) rfl) (pv 1) ⟨rfl, rfl, rfl, rfl⟩))
      (pss_one (ps_expr (pe_bm PySem.F.plainAttrs_list PySem.F.slot_list_append PySem.F.type_list_append mt_append (pe_fld (pv 0) rfl) (pa_cons (pv 1) pa_nil)))))))) pss_nil)
      (pss_cons (ps_if (pt_val (pe_callB call_isi rfl B.m_isinstance (by first | exact PySem.boot_isinstance | decide +kernel) (pa_cons (pe_fld (pv 0) rfl) (pa_cons (pe_bltn (v := V.ty "str") rfl B.m_str (by decide +kernel : bootBuiltins "str" = some (.type "str")) rfl) pa_nil)))) (pss_one (ps_expr (pe_bm PySem.F.plainAttrs_list PySem.F.slot_list_pop PySem.F.type_list_pop mt_popAt (pe_fld (pv 0) rfl) (pa_cons (pe_int) pa_nil)))) (pss_one (ps_expr (pe_bm PySem.F.plainAttrs_list PySem.F.slot_list_remove PySem.F.type_list_remove mt_remove (pe_fld (pv 0) rfl) (pa_cons (pe_mcal0 c_Frames_chosen cl_Frames (hr.mono (by first | decide | omega)) pass0 (pv 0)) pa_nil)))))
      (pss_one (ps_fldaug (pv 0) (pe_int) in_add)))), ?_⟩
    try dsimp only [cxOf, Cx.nox, Cx.wish]
    have fin : ∀ (st1 : FSt) (H1 : Hp) (o : Option V), st1.rule = st.rule → st1.places = st.places → st1.left = st.left → (st1.row.length : Int) = st.places → Gr [p, r, m] F H F H1 → FParts K C F H1 p st1 v r m →
        (putOutF st = { (if st.rule.isStr then { st1 with row := st1.row.drop 1 } else { st1 with row := st1.row.erase (chosenF st1) }) with left := st.left + 1 }) →
        tSeq (tIfS (tB (tCB (rIsi K) (tCons (tFld K (tVar 0) "rule") (tCons (tC (.ty "str")) tNil)))) (tDrop (tBM K "list" rPopAt (tFld K (tVar 0) "row") (tCons (tC (.int 0)) tNil)))
          (tDrop (tBM K "list" rRemI (tFld K (tVar 0) "row") (tCons (tMeth C "chosen" (spChosen K C) [] E0 (tVar 0) tNil) tNil)))) (sFldAug K (tVar 0) (tC (.int 1)) rAdd "left") { nx := fun x H' => Q V.non H', rt := Q } ((L2.start N_Frames_put_out [V.ref p]).set 1 o) H1 := by
      intro st1 H1 o hr1 hpl1 hle1 hlen1 g1 P2 hF
      have h16 := hok.p1
      obtain ⟨dx1, hp1⟩ := P2.ob
      have fin2 : ∀ (row : List Int) (F2 : Hp) (H2 : Hp), Gr [p, r, m] F H F2 H2 → FParts K C F2 H2 p { st1 with row := row } v r m → putOutF st = { st1 with row := row, left := st.left + 1 } →
          sFldAug K (tVar 0) (tC (.int 1)) rAdd "left" { nx := fun x H' => Q V.non H', rt := Q } ((L2.start N_Frames_put_out [V.ref p]).set 1 o) H2 := by
        intro row F2 H2 g2 P3 hF3
        obtain ⟨dx2, hp2⟩ := P3.ob
        walk_at "go"
        refine ⟨p, C, dx2, _, _, rfl, hp2, TB.cl, TB.n6, lk_left .., ?_⟩
        walk_at "go"
        refine ⟨_, _, rfl, rfl, dx2, _, hp2, (by show 6 < 1000; decide), ?_⟩
        rw [put_left]
        refine k F2 _ (g2.put (by simp) P3.fp) ⟨v, r, m, rfl, ?_⟩
        rw [hF3]
        have P4 := P3.wLeft dx2 (st.left + 1)
        rw [show ({ st1 with row := row } : FSt).left = st.left from hle1]
        exact P4
      walk_at "go"
      refine fld_of hp1 TB.cl TB.n2 (lk_rule ..) ?_
      walk_at "go"
      refine isi_str P2.rl g1.sub ?_
      rw [isStr_rule, hr1]
      walk_at "go"
      refine S.ite (fun e => ?_) (fun e => ?_)
      · rw [if_pos e] at hF
        walk_at "go"
        refine fld_of hp1 TB.cl TB.n3 (lk_row ..) ?_
        refine S.tyO P2.rwd ?_
        walk_at "go"
        obtain ⟨b, row, hb⟩ : ∃ b row, st1.row = b :: row := by
          cases q : st1.row with
          | nil => rw [q] at hlen1; simp at hlen1; omega
          | cons b row => exact ⟨b, row, rfl⟩
        refine pop0 (b := b) (l := row) (by rw [← hb]; exact P2.rwd) ?_
        have P3 := P2.wRow row
        refine fin2 row F _ (g1.put (by simp) P2.fr) P3 ?_
        rw [hF, hb]; rfl
      · rw [if_neg (show ¬ st.rule.isStr = true by rw [e]; simp)] at hF
        walk_at "go"
        refine fld_of hp1 TB.cl TB.n3 (lk_row ..) ?_
        refine S.tyO P2.rwd ?_
        walk_at "go"
        refine meth_of hp1 rfl ?_
        walk_at "go"
        refine ⟨F, p, st1, _, rfl, g1.sub, ⟨v, r, m, rfl, P2⟩, by rw [hr1]; exact e, by omega, by omega, fun F3 H3 g3 => ?_⟩
        have P3 := P2.gr0 g3
        have hmem : chosenF st1 ∈ st1.row := by
          have hm1 := Int.emod_nonneg (choiceF st1) (show st1.places ≠ 0 by omega)
          have hm2 := Int.emod_lt_of_pos (choiceF st1) (show 0 < st1.places by omega)
          have hl2 : (sortI st1.row).length = st1.row.length := (sortI_perm _).length_eq
          have hj : (choiceF st1 % st1.places).toNat < (sortI st1.row).length := by omega
          unfold chosenF
          rw [List.getElem?_eq_getElem hj]
          exact (sortI_perm _).subset (List.getElem_mem hj)
        walk_at "go"
        refine remO P3.rwd hmem ?_
        have P4 := P3.wRow (st1.row.erase (chosenF st1))
        exact fin2 _ F3 _ ((g1.trans g3.any).put (by simp) P3.fr) P4 hF
    walk_at "go"
    refine fld_of hp TB.cl TB.n2 (lk_rule ..) ?_
    walk_at "go"
    refine S.eqD (F := F) P1.rl (.str _) sm (shaped_rule _) shaped_clock ?_
    rw [eqv_clock]
    walk_at "go"
    refine S.ite (fun e => ?_) (fun e => ?_)
    · have hF : ∀ (row : List Int) (mk : AL Unit), turnC st.marked.length st.row st.marked = (row, mk) → putOutF st = { (if st.rule.isStr then { ({ st with row := row, marked := mk } : FSt) with row := row.drop 1 } else { ({ st with row := row, marked := mk } : FSt) with row := row.erase (chosenF { st with row := row, marked := mk }) } : FSt) with left := st.left + 1 } := by
        intro row mk h
        have hs : st.rule.isStr = true := by
          cases q : st.rule <;> rw [q] at e <;> first | rfl | cases e
        unfold putOutF
        rw [if_pos e, h]
        simp [hs]
      refine ⟨fun μ σ H' => ∃ row mk o, μ = mk.length ∧ turnC mk.length row mk = turnC st.marked.length st.row st.marked ∧ (row.length : Int) = st.places ∧ Gr [p, r, m] F H F H' ∧ FParts K C F H' p { st with row := row, marked := mk } v r m ∧ σ = (L2.start N_Frames_put_out [V.ref p]).set 1 o, ⟨_, st.row, st.marked, none, rfl, rfl, hlen, Gr.refl sm, P1, rfl⟩, ?_⟩
      rintro μ σ H' ⟨row, mk, o, rfl, hturn, hl, g, PP, rfl⟩
      obtain ⟨dx5, hp5⟩ := PP.ob
      have h16 := hok.p1
      obtain ⟨b, row, rfl⟩ : ∃ b row', row = b :: row' := by
        cases row with
        | nil => simp at hl; omega
        | cons b row => exact ⟨b, row, rfl⟩
      walk_at "go"
      refine fld_of hp5 TB.cl TB.n3 (lk_row ..) ?_
      walk_at "go"
      refine S.ixO PP.rwd (w := .int b) S.atI_0 ?_
      walk_at "go"
      refine fld_of hp5 TB.cl TB.n4 (lk_marked ..) ?_
      refine din_of (k := Sum.inl b) PP.mkd ?_
      rw [valV_kM, Option.isSome_map]
      walk_at "go"
      refine S.ite (fun e2 => ?_) (fun e2 => ?_)
      · have e3 : (getA mk b).isSome = true := e2
        refine ⟨fun σ' H'' => ∃ m', m' < mk.length ∧ ∃ row mk o, m' = mk.length ∧ turnC mk.length row mk = turnC st.marked.length st.row st.marked ∧ (row.length : Int) = st.places ∧ Gr [p, r, m] F H F H'' ∧ FParts K C F H'' p { st with row := row, marked := mk } v r m ∧ σ' = (L2.start N_Frames_put_out [V.ref p]).set 1 o, fun _ _ h => h, ?_⟩
        walk_at "go"
        refine fld_of hp5 TB.cl TB.n3 (lk_row ..) ?_
        refine S.tyO PP.rwd ?_
        walk_at "go"
        refine pop0 (b := b) (l := row) PP.rwd ?_
        have P6 := PP.wRow row
        have g6 := g.put (q := r) (o := .lst (row.map V.int)) (by simp) PP.fr
        generalize upd H' r _ = H6 at *
        obtain ⟨dx6, hp6⟩ := P6.ob
        walk_at "go"
        refine fld_of hp6 TB.cl TB.n4 (lk_marked ..) ?_
        refine ⟨m, rfl, .inl ⟨_, .inl P6.mkd⟩, ?_⟩
        walk_at "go"
        refine ⟨_, Sum.inl b, _, P6.mkd, rfl, (by rw [valV_kM]; obtain ⟨x, hx⟩ := getA_len e3; rw [show ({ ({ st with row := b :: row, marked := mk } : FSt) with row := row } : FSt).marked = mk from rfl, hx]; rfl), ?_⟩
        rw [dropK_kM]
        have P7 := P6.wMark (dropA mk b)
        have g7 := g6.put (q := m) (o := .dK (kM (fun _ => V.bl true) (dropA mk b))) (by simp) PP.fm
        generalize upd H6 m _ = H7 at *
        obtain ⟨dx7, hp7⟩ := P7.ob
        walk_at "go"
        refine fld_of hp7 TB.cl TB.n3 (lk_row ..) ?_
        refine S.tyO P7.rwd ?_
        walk_at "go"
        have hl2 : (row.length : Int) + 1 = st.places := by rw [← hl, List.length_cons]; omega
        have h17 := hok.p2
        refine S.appO P7.rwd (by rw [List.length_map]; exact size1000000 (by show row.length ≤ 1000000; omega)) ?_
        rw [show (row.map V.int ++ [V.int b] : List V) = (row ++ [b]).map V.int by simp]
        have P8 := P7.wRow (row ++ [b])
        refine S.next ⟨(dropA mk b).length, getA_some_len e3, row ++ [b], dropA mk b, some (.int b), rfl, ?_, ?_, g7.put (by simp) PP.fr, P8, ?_⟩
        · rw [← hturn]
          have h5 := getA_some_len e3
          rw [turnC_fuel (dropA mk b).length (mk.length - 1) _ _ (Nat.le_refl _) (by omega)]
          obtain ⟨l, hl5⟩ : ∃ l, mk.length = l + 1 := ⟨mk.length - 1, by omega⟩
          rw [hl5]
          conv => rhs; unfold turnC
          rw [if_pos e3]; rfl
        · rw [List.length_append]; show ((row.length + 1 : Nat) : Int) = _; omega
        · exact List.set_set ..
      · have e3 : ¬ (getA mk b).isSome = true := by rw [show (getA mk b).isSome = false from e2]; simp
        refine fin { st with row := b :: row, marked := mk } H' o rfl rfl rfl hl g PP (hF _ _ ?_)
        rw [← hturn]
        cases hm : mk.length with
        | zero => rfl
        | succ l => unfold turnC; rw [if_neg e3]
    · have hF : putOutF st = { (if st.rule.isStr then { st with row := st.row.drop 1 } else { st with row := st.row.erase (chosenF st) }) with left := st.left + 1 } := by
        have e' : ¬ st.rule.isClock = true := by rw [e]; simp
        unfold putOutF
        rw [if_neg e']
        by_cases z : st.rule.isStr = true
        · simp [z]
        · simp [z]
      refine S.next ?_
      exact fin st H none rfl rfl rfl hlen (Gr.refl sm) P1 hF

theorem ok_Frames_look {P : Program} {w : World} {K : PySem.W.Frag} {mg : Str → Option Value} {base : Heap} {f : Addr} {fd : FuncData} (F : Fun K "look" "Frames.look" s_Frames_look f fd) (B : Blt mg)
    {C : Addr} (TB : FrC K C) (g_LONGEST : GV mg "LONGEST" (.str "longest")) (g_CLOCK : GV mg "CLOCK" (.str "clock"))
    : FnOk P w K mg base CX0 (0 + 1) f fd P_Frames_look (spLook K C) := by
  refine F.ok sc_Frames_look (fun vs H Q E h => ?_) (fun cdv A outer s H vs Q E hr h => ?_)
  · obtain ⟨F, p, st, W, b, rfl, _⟩ := h; rfl
  · have hu := hu_of hr
    have hu64 := Room.units hr
    obtain ⟨F, p, st, W, b, rfl, sm, ⟨v, r, m, rfl, P1⟩, ⟨n, hn, hok⟩, hb, k⟩ := h
    obtain ⟨dx, hp⟩ := P1.ob
    refine ⟨_, (pss_cons (ps_if (pt_cmpR (op_eqU hu64) (pe_fld (pv 0) rfl) (pe_gv g_LONGEST) (nomark _)) (pss_cons (ps_expr (pe_bm PySem.F.plainAttrs_list PySem.F.slot_list_remove PySem.F.type_list_remove mt_remove (pe_fld (pv 0) rfl) (pa_cons (pv 1) pa_nil)))
      (pss_one (ps_expr (pe_bm PySem.F.plainAttrs_list PySem.F.slot_list_append PySem.F.type_list_append mt_append (pe_fld (pv 0) rfl) (pa_cons (pv 1) pa_nil))))) pss_nil)
      (pss_one (ps_if (pt_cmpR (op_eqU hu64) (pe_fld (pv 0) rfl) (pe_gv g_CLOCK) (nomark _)) (pss_one (ps_dput hu (pe_fld (pv 0) rfl) (pv 1) (pe_bl) rfl)) pss_nil))), ?_⟩
    try dsimp only [cxOf, Cx.nox, Cx.wish]
    have fin : ∀ (st1 : FSt) (H1 : Hp), st1.rule = st.rule → st1.marked = st.marked → Gr [p, r, m] F H F H1 → FParts K C F H1 p st1 v r m → (lookF st b = if st.rule.isClock then { st1 with marked := putA st1.marked b () } else st1) →
        tIfS (tTest (tOp (rEqU K) (tFld K (tVar 0) "rule") (tC (.str "clock")))) (sDPut (tFld K (tVar 0) "marked") (tVar 1) (tC (.bl true))) tNext { nx := fun x H' => Q V.non H', rt := Q } (L2.start N_Frames_look [V.ref p, V.int b]) H1 := by
      intro st1 H1 hr1 hm1 g1 P2 hl
      obtain ⟨dx1, hp1⟩ := P2.ob
      walk_at "go"
      refine fld_of hp1 TB.cl TB.n2 (lk_rule ..) ?_
      walk_at "go"
      refine S.eqD (F := F) P2.rl (.str _) g1.sub (shaped_rule _) shaped_clock ?_
      rw [eqv_clock, hr1]
      walk_at "go"
      refine S.ite (fun e => ?_) (fun e => ?_)
      · rw [if_pos e] at hl
        walk_at "go"
        refine fld_of hp1 TB.cl TB.n4 (lk_marked ..) ?_
        walk_at "go"
        refine dput_of (k := Sum.inl b) P2.mkd (by rw [kM_len, hm1]; exact size1000000 (Nat.le_trans hok.ml (by omega))) ?_
        rw [show V.bl true = (fun _ : Unit => V.bl true) () from rfl, putK_kM]
        refine k F _ (g1.put (by simp) P2.fm) ⟨v, r, m, rfl, ?_⟩
        rw [hl]
        exact P2.wMark _
      · rw [if_neg (show ¬ st.rule.isClock = true by rw [e]; simp)] at hl
        refine S.next ?_
        exact k F H1 g1 ⟨v, r, m, rfl, by rw [hl]; exact P2⟩
    walk_at "go"
    refine fld_of hp TB.cl TB.n2 (lk_rule ..) ?_
    walk_at "go"
    refine S.eqD (F := F) P1.rl (.str _) sm (shaped_rule _) shaped_longest ?_
    rw [eqv_longest]
    walk_at "go"
    have hlf : lookF st b = if st.rule.isClock then { (if st.rule.isLongest then { st with row := st.row.erase b ++ [b] } else st : FSt) with marked := putA (if st.rule.isLongest then { st with row := st.row.erase b ++ [b] } else st : FSt).marked b () } else (if st.rule.isLongest then { st with row := st.row.erase b ++ [b] } else st) := rfl
    refine S.ite (fun e => ?_) (fun e => ?_)
    · rw [if_pos e] at hlf
      walk_at "go"
      refine fld_of hp TB.cl TB.n3 (lk_row ..) ?_
      refine S.tyO P1.rwd ?_
      walk_at "go"
      refine remO P1.rwd hb ?_
      have P2 := P1.wRow (st.row.erase b)
      have g2 := (Gr.refl (W := [p, r, m]) sm).put (q := r) (o := .lst ((st.row.erase b).map V.int)) (by simp) P1.fr
      generalize upd H r _ = H2 at *
      obtain ⟨dx2, hp2⟩ := P2.ob
      walk_at "go"
      refine fld_of hp2 TB.cl TB.n3 (lk_row ..) ?_
      refine S.tyO P2.rwd ?_
      walk_at "go"
      have hel : (st.row.erase b).length ≤ 16 := by
        have h1 := List.length_erase_le (a := b) (l := st.row)
        have h2 := hok.rl
        have h3 := hok.p2
        omega
      refine S.appO P2.rwd (by rw [List.length_map]; exact size1000000 (Nat.le_trans hel (by omega))) ?_
      rw [show (st.row.erase b).map V.int ++ [V.int b] = (st.row.erase b ++ [b]).map V.int by simp]
      have P3 := P2.wRow (st.row.erase b ++ [b])
      have g3 := g2.put (q := r) (o := .lst ((st.row.erase b ++ [b]).map V.int)) (by simp) P1.fr
      generalize upd H2 r _ = H3 at *
      exact fin { st with row := st.row.erase b ++ [b] } H3 rfl rfl g3 P3 hlf
    · rw [if_neg (show ¬ st.rule.isLongest = true by rw [e]; simp)] at hlf
      refine S.next ?_
      exact fin st H rfl rfl (Gr.refl sm) P1 hlf

theorem ok_Frames_leave {P : Program} {w : World} {K : PySem.W.Frag} {mg : Str → Option Value} {base : Heap} {f : Addr} {fd : FuncData} (F : Fun K "leave" "Frames.leave" s_Frames_leave f fd) (B : Blt mg)
    {C : Addr} (TB : FrC K C)
    : FnOk P w K mg base CX0 (0 + 1) f fd P_Frames_leave (spLeave K C) := by
  refine F.ok sc_Frames_leave (fun vs H Q E h => ?_) (fun cdv A outer s H vs Q E hr h => ?_)
  · obtain ⟨F, p, st, W, b, rfl, _⟩ := h; rfl
  · have hu := hu_of hr
    have hu64 := Room.units hr
    obtain ⟨F, p, st, W, b, rfl, sm, ⟨v, r, m, rfl, P1⟩, k⟩ := h
    obtain ⟨dx, hp⟩ := P1.ob
    refine ⟨_, (pss_cons (ps_if (pt_cmpR op_in_seq (pv 1) (pe_fld (pv 0) rfl) (by first | rfl | exact nomark _)) (pss_one (ps_expr (pe_bm PySem.F.plainAttrs_list PySem.F.slot_list_remove PySem.F.type_list_remove mt_remove (pe_fld (pv 0) rfl) (pa_cons (pv 1) pa_nil)))) pss_nil)
      (pss_one (ps_expr (pe_dpop2 (pe_fld (pv 0) rfl) (pv 1) (pe_non) ⟨rfl, rfl, rfl, rfl⟩)))), ?_⟩
    try dsimp only [cxOf, Cx.nox, Cx.wish]
    have fin : ∀ (H1 : Hp), Gr [p, r, m] F H F H1 → FParts K C F H1 p { st with row := st.row.erase b } v r m →
        tDrop (tDPop2 (tFld K (tVar 0) "marked") (tVar 1) (tC .non)) { nx := fun x H' => Q V.non H', rt := Q } (L2.start N_Frames_leave [V.ref p, V.int b]) H1 := by
      intro H1 g1 P2
      obtain ⟨dx1, hp1⟩ := P2.ob
      walk_at "go"
      refine fld_of hp1 TB.cl TB.n4 (lk_marked ..) ?_
      refine ⟨m, rfl, .inl ⟨_, .inl P2.mkd⟩, ?_⟩
      walk_at "go"
      refine ⟨_, Sum.inl b, P2.mkd, rfl, fun w hw => ?_, fun hw => ?_⟩
      · rw [dropK_kM]
        exact k F _ (g1.put (by simp) P2.fm) ⟨v, r, m, rfl, P2.wMark _⟩
      · rw [valV_kM] at hw
        have hg : getA st.marked b = none := by
          cases q : getA st.marked b with
          | none => rfl
          | some x => rw [show ({ st with row := st.row.erase b } : FSt).marked = st.marked from rfl, q] at hw; cases hw
        have hd : dropA st.marked b = st.marked := by
          unfold dropA
          rw [List.filter_eq_self]
          intro x hx
          refine decide_eq_true fun z => ?_
          exact getA_none.mp hg (by rw [← z]; exact List.mem_map_of_mem (f := fun p : Int × Unit => p.1) hx)
        refine k F _ g1 ⟨v, r, m, rfl, ?_⟩
        unfold leaveF
        rw [hd]
        exact P2
    walk_at "go"
    refine fld_of hp TB.cl TB.n3 (lk_row ..) ?_
    refine ⟨r, _, rfl, .inl (SqL.of P1.rwd), rfl, flat_ints _, ?_⟩
    rw [inV_ints]
    walk_at "go"
    refine S.ite (fun e => ?_) (fun e => ?_)
    · have hb : b ∈ st.row := by simpa using e
      walk_at "go"
      refine fld_of hp TB.cl TB.n3 (lk_row ..) ?_
      refine S.tyO P1.rwd ?_
      walk_at "go"
      refine remO P1.rwd hb ?_
      have P2 := P1.wRow (st.row.erase b)
      have g2 := (Gr.refl (W := [p, r, m]) sm).put (q := r) (o := .lst ((st.row.erase b).map V.int)) (by simp) P1.fr
      generalize upd H r _ = H2 at *
      exact fin _ g2 P2
    · have hb : b ∉ st.row := by simpa using e
      refine S.next ?_
      refine fin H (Gr.refl sm) ?_
      rw [List.erase_of_not_mem hb]
      exact P1

theorem ok_Frames_come {P : Program} {w : World} {K : PySem.W.Frag} {mg : Str → Option Value} {base : Heap} {f : Addr} {fd : FuncData} (F : Fun K "come" "Frames.come" s_Frames_come f fd) (B : Blt mg)
    {C : Addr} (TB : FrC K C) (c_Frames_leave : MCal P w K mg base CX0 1 C "leave" P_Frames_leave (spLeave K C)) (c_Frames_look : MCal P w K mg base CX0 1 C "look" P_Frames_look (spLook K C)) (c_Frames_put_out : MCal P w K mg base CX0 2 C "put_out" P_Frames_put_out (spPutOut K C)) (g_GONE : GV mg "GONE" (.str "gone"))
    : FnOk P w K mg base CX0 (2 + 1) f fd P_Frames_come (spComeF K C) := by
  refine F.ok sc_Frames_come (fun vs H Q E h => ?_) (fun cdv A outer s H vs Q E hr h => ?_)
  · obtain ⟨F, p, st, W, v, e, rfl, _⟩ := h; rfl
  · have hu := hu_of hr
    have hu64 := Room.units hr
    have cl_Frames := TB.cl
    obtain ⟨F, p, st, W, ve, e, rfl, sm, hA, hd, hok, k⟩ := h
    obtain ⟨v, r, m, rfl, P1⟩ := id hA
    obtain ⟨dx, hp⟩ := P1.ob
    refine ⟨_, (pss_cons (ps_asg (pv 1) (pg_tup rfl (pgs_cons (pg_name (i := 2) sc_Frames_come.nd rfl (Or.inl rfl) (by first | exact Or.inl rfl | exact Or.inr rfl)) (pgs_cons (pg_name (i := 3) sc_Frames_come.nd rfl (Or.inl rfl) (by first | exact Or.inl rfl | exact Or.inr rfl)) pgs_nil))))
      (pss_one (ps_if (pt_cmpR (op_eqU hu64) (pv 2) (pe_gv g_GONE) (nomark _)) (pss_one (ps_expr (pe_mcal c_Frames_leave cl_Frames (hr.mono (by first | decide | omega)) pass0 (pv 0) (pa_cons (pv 3) pa_nil)))) (pss_one (ps_if (pt_cmpR op_in_seq (pv 3) (pe_fld (pv 0) rfl) (by first | rfl | exact nomark _)) (pss_one (ps_expr (pe_mcal c_Frames_look cl_Frames (hr.mono (by first | decide | omega)) pass0 (pv 0) (pa_cons (pv 3) pa_nil)))) (pss_cons (ps_if (pt_cmpR (op_eqU hu64) (pe_callB call_lenU rfl B.m_len (by first | exact PySem.boot_len | decide +kernel) (pa_cons (pe_fld (pv 0) rfl) pa_nil)) (pe_fld (pv 0) rfl) (nomark _)) (pss_one (ps_expr (pe_mcal0 c_Frames_put_out cl_Frames (hr.mono (by first | decide | omega)) pass0 (pv 0)))) pss_nil)
      (pss_cons (ps_expr (pe_bm PySem.F.plainAttrs_list PySem.F.slot_list_append PySem.F.type_list_append mt_append (pe_fld (pv 0) rfl) (pa_cons (pv 3) pa_nil)))
      (pss_one (ps_fldaug (pv 0) (pe_int) in_add))))))))), ?_⟩
    try dsimp only [cxOf, Cx.nox, Cx.wish]
    have rest : ∀ (b : Int) (x : Str), FSet K C F H p [p, r, m] (if b ∈ st.row then lookF st b else
        { (if (st.row.length : Int) = st.places then putOutF st else st) with row := (if (st.row.length : Int) = st.places then putOutF st else st).row ++ [b], missed := (if (st.row.length : Int) = st.places then putOutF st else st).missed + 1 }) Q →
        tIfS (tTest (tOp (rIn K false) (tVar 3) (tFld K (tVar 0) "row"))) (tDrop (tMeth C "look" (spLook K C) [] E0 (tVar 0) (tCons (tVar 3) tNil)))
          (tSeq (tIfS (tTest (tOp (rEqU K) (tCB (rLenU K) (tCons (tFld K (tVar 0) "row") tNil)) (tFld K (tVar 0) "places"))) (tDrop (tMeth C "put_out" (spPutOut K C) [] E0 (tVar 0) tNil)) tNext)
            (tSeq (tDrop (tBM K "list" rAppend (tFld K (tVar 0) "row") (tCons (tVar 3) tNil))) (sFldAug K (tVar 0) (tC (.int 1)) rAdd "missed")))
          { nx := fun x H' => Q V.non H', rt := Q } (((L2.start N_Frames_come [V.ref p, ve]).set 2 (some (.str x))).set 3 (some (.int b))) H := by
      intro b x k
      walk_at "go"
      refine fld_of hp TB.cl TB.n3 (lk_row ..) ?_
      refine ⟨r, _, rfl, .inl (SqL.of P1.rwd), rfl, flat_ints _, ?_⟩
      rw [inV_ints]
      walk_at "go"
      refine S.ite (fun e2 => ?_) (fun e2 => ?_)
      · have hb : b ∈ st.row := by simpa using e2
        rw [if_pos hb] at k
        walk_at "go"
        refine meth_of hp rfl ?_
        walk_at "go"
        exact ⟨F, p, st, _, b, rfl, sm, hA, hok, hb, k⟩
      · have hb : ¬ b ∈ st.row := by simpa using e2
        rw [if_neg hb] at k
        have fin : ∀ (st1 : FSt) (F1 H1 : Hp), Gr [p, r, m] F H F1 H1 → FAt K C F1 H1 p st1 [p, r, m] → st1.row.length ≤ 1000 → st1 = (if (st.row.length : Int) = st.places then putOutF st else st) →
            tSeq (tDrop (tBM K "list" rAppend (tFld K (tVar 0) "row") (tCons (tVar 3) tNil))) (sFldAug K (tVar 0) (tC (.int 1)) rAdd "missed") { nx := fun x H' => Q V.non H', rt := Q } (((L2.start N_Frames_come [V.ref p, ve]).set 2 (some (.str x))).set 3 (some (.int b))) H1 := by
          intro st1 F1 H1 g1 hA1 hl1 he
          rw [← he] at k
          obtain ⟨v1, r1, m1, ew, P2⟩ := hA1
          cases ew
          obtain ⟨dx1, hp1⟩ := P2.ob
          walk_at "go"
          refine fld_of hp1 TB.cl TB.n3 (lk_row ..) ?_
          refine S.tyO P2.rwd ?_
          walk_at "go"
          refine S.appO P2.rwd (by rw [List.length_map]; exact size1000000 (Nat.le_trans hl1 (by omega))) ?_
          rw [show (st1.row.map V.int ++ [V.int b] : List V) = (st1.row ++ [b]).map V.int by simp]
          have P3 := P2.wRow (st1.row ++ [b])
          have g3 := g1.put (q := r) (o := .lst ((st1.row ++ [b]).map V.int)) (by simp) P2.fr
          generalize upd H1 r _ = H3 at *
          obtain ⟨dx3, hp3⟩ := P3.ob
          walk_at "go"
          refine ⟨p, C, dx3, _, _, rfl, hp3, TB.cl, TB.n5, lk_missed .., ?_⟩
          walk_at "go"
          refine ⟨_, _, rfl, rfl, dx3, _, hp3, (by show 6 < 1000; decide), ?_⟩
          rw [put_missed]
          exact k F1 _ (g3.put (by simp) P3.fp) ⟨v1, r, m, rfl, P3.wMissed dx3 _⟩
        obtain ⟨n, hn, ho⟩ := hok
        have h2 := ho.p2
        have h3 := ho.rl
        have hlen : (putOutF st).row.length ≤ 1000 ∧ st.row.length ≤ 1000 := ⟨by have := putOut_len st; omega, by omega⟩
        walk_at "go"
        refine fld_of hp TB.cl TB.n3 (lk_row ..) ?_
        walk_at "go"
        refine S.lenO P1.rwd ?_
        walk_at "go"
        refine fld_of hp TB.cl TB.n1 (lk_places ..) ?_
        walk_at "go"
        rw [List.length_map]
        refine S.ite (fun e4 => ?_) (fun e4 => ?_)
        · have e5 : (st.row.length : Int) = st.places := by simpa using e4
          walk_at "go"
          refine meth_of hp rfl ?_
          walk_at "go"
          refine ⟨F, p, st, _, rfl, sm, hA, ⟨n, hn, ho⟩, e5, fun F1 H1 g1 hA1 => ?_⟩
          exact fin _ F1 H1 g1 hA1 hlen.1 (by rw [if_pos e5])
        · have e5 : ¬ (st.row.length : Int) = st.places := by simpa using e4
          refine S.next ?_
          exact fin st F H (Gr.refl sm) hA hlen.2 (by rw [if_neg e5])
    walk_at "go"
    cases e with
    | gone b =>
      refine S.gTup2 (K := K) (d1 := .str "gone") (d2 := .int b) hd sm fun x y hx hy => ?_
      obtain rfl := dp_str hx
      obtain rfl := dp_int hy
      walk_at "go"
      refine S.iteT (by decide) ?_
      walk_at "go"
      refine meth_of hp rfl ?_
      walk_at "go"
      exact ⟨F, p, st, _, b, rfl, sm, hA, k⟩
    | look b =>
      refine S.gTup2 (K := K) (d1 := .str "look") (d2 := .int b) hd sm fun x y hx hy => ?_
      obtain rfl := dp_str hx
      obtain rfl := dp_int hy
      walk_at "go"
      refine S.iteF (by decide) ?_
      exact rest b "look" k
    | make b =>
      refine S.gTup2 (K := K) (d1 := .str "make") (d2 := .int b) hd sm fun x y hx hy => ?_
      obtain rfl := dp_str hx
      obtain rfl := dp_int hy
      walk_at "go"
      refine S.iteF (by decide) ?_
      exact rest b "make" k

theorem ok_misses {P : Program} {w : World} {K : PySem.W.Frag} {mg : Str → Option Value} {base : Heap} {f : Addr} {fd : FuncData} (F : Fun K "misses" "misses" s_misses f fd) (B : Blt mg)
    {C C2 : Addr} (TB : FrC K C2) (c_gone_through : Cal P w K mg base CX0 5 "gone_through" P_gone_through (spGone K C)) (c_need_frames : Cal P w K mg base CX0 2 "need_frames" P_need_frames (spNeedFrames K)) (c_need_rule : Cal P w K mg base CX0 4 "need_rule" P_need_rule (spNeedRule K)) (c_Frames : CCal P w K mg base CX0 1 C2 "Frames" P_Frames___init__ (spFInit K C2)) (c_Frames_come : MCal P w K mg base CX0 3 C2 "come" P_Frames_come (spComeF K C2)) (c_Frames_inside : MCal P w K mg base CX0 1 C2 "inside" P_Frames_inside (spInside K C2))
    : FnOk P w K mg base CX0 (5 + 1) f fd P_misses (spMisses K) := by
  refine F.ok sc_misses (fun vs H Q E h => ?_) (fun cdv A outer s H vs Q E hr h => ?_)
  · obtain ⟨F, v, u, ds, n, R, rfl, _⟩ := h; rfl
  · have hu := hu_of hr
    have hu64 := Room.units hr
    have cl_Frames := TB.cl
    obtain ⟨F, v, u, ds, n, R, rfl, sm, hd, hlen, ok, hn1, hn2, hu', hR, k⟩ := h
    refine ⟨_, (pss_cons (ps_set (i := 3) sc_misses.nd rfl (Or.inl rfl) (pe_ix ix_seq (pe_cal c_gone_through (hr.mono (by first | decide | omega)) pass0 (pa_cons (pv 0) pa_nil)) (pe_int) (fun _ _ => rfl)))
      (pss_cons (ps_expr (pe_cal c_need_frames (hr.mono (by first | decide | omega)) pass0 (pa_cons (pv 1) pa_nil)))
      (pss_cons (ps_expr (pe_cal c_need_rule (hr.mono (by first | decide | omega)) pass0 (pa_cons (pv 2) pa_nil)))
      (pss_cons (ps_set (i := 4) sc_misses.nd rfl (Or.inl rfl) (pe_ccal c_Frames (hr.mono (by first | decide | omega)) pass0 (pa_cons (pv 1) (pa_cons (pv 2) pa_nil))))
      (pss_cons (ps_for PassesOwn.never rfl (pi_seq (pv 3)) (pg_name (i := 5) sc_misses.nd rfl (Or.inl rfl)) (pss_one (ps_expr (pe_mcal c_Frames_come cl_Frames (hr.mono (by first | decide | omega)) pass0 (pv 4) (pa_cons (pv 5) pa_nil)))))
      (pss_one (ps_ret (pe_tup (pa_cons (pe_fld (pv 4) rfl) (pa_cons (pe_mcal0 c_Frames_inside cl_Frames (hr.mono (by first | decide | omega)) pass0 (pv 4)) pa_nil)))))))))), ?_⟩
    try dsimp only [cxOf, Cx.nox, Cx.wish]
    walk_at "go"
    refine ⟨F, v, ds, rfl, sm, hd, hlen, ok, fun rr q p xs F1 H1 W1 g1 hB hW hq nq fq hqq hx hrr hrt => ?_⟩
    walk_at "go"
    refine S.ixTO (K := K) hrt (w := .ref q) S.atI_0 ?_
    have g2 : Gr [] F H _ H1 := g1.frz hq fq hqq
    have fqq : upd F1 q (.lst xs) q = some (.lst xs) := upd_same
    have hx2 := hx.to (show Same F1 (upd F1 q (.lst xs)) from fun b o e => by rw [upd_ne (ne_of_none e fq)]; exact e)
    generalize upd F1 q _ = F2 at *
    walk_at "go"
    refine ⟨n, rfl, hn1, hn2, ?_⟩
    walk_at "go"
    refine ⟨F2, u, R, rfl, g2.sub, hu'.to g2.fs, hR, fun F3 H3 g3 => ?_⟩
    walk_at "go"
    intro p2 dx hp0 hdx0 ndx
    have g4 : Gr [] F3 H3 F3 _ := (Gr.newOwn (o := .own p2) g3.sub hdx0).poke (q := p2) (o := .ins C2 dx []) hp0 (sub_free g3.sub hp0)
    have hp1 : upd (upd H3 dx (.own p2)) p2 (.ins C2 dx []) p2 = _ := upd_same
    generalize upd (upd H3 dx (.own p2)) p2 (.ins C2 dx []) = H4 at *
    have g04 := (g2.trans g3).trans g4
    refine ⟨F3, p2, dx, n, u, R, rfl, g4.sub, sub_free g3.sub hp0, hp1, hu'.to g04.fs, fun F5 H5 W5 g5 hA hW5 => ⟨rfl, ?_⟩⟩
    have h03 := g2.trans g3
    have g05 : Gr [] F H F5 H5 := g04.fresh g5 fun x hx => by rw [List.mem_singleton.mp hx]; exact h03.free hp0
    have hW5' : ∀ b ∈ W5, H b = none := fun b hb => (hW5 b hb).elim (fun e => by rw [e]; exact h03.free hp0) g04.free
    have s25 : Same F2 F5 := (g3.fs.trans g4.fs).trans g5.fs
    have hl1 := dp_len hx2
    rw [List.length_map] at hl1
    have hel := (run_ok ok ds.length (Nat.le_refl _)).2
    rw [List.take_length] at hel
    have hel2 : ds.length * (ds.length + 2) ≤ 400 * 402 := Nat.mul_le_mul hlen (by omega)
    generalize (runAll ([], st0) ds).1 = es at *
    walk_at "go"
    refine S.forS (S.iSeqL ?_)
    walk_at "go"
    refine ⟨q, rfl, ⟨xs, SqL.of (g05.sub _ _ (s25 _ _ fqq))⟩, ?_⟩
    refine for_it (walk_list (K := K) (a := q) (xs := xs)) (fun i σ H' => ∃ F' o, Gr [] F H F' H' ∧ Same F2 F' ∧ FAt K C2 F' H' p2 (runF (fst0 n R) (es.take i)) W5 ∧ σ = (((L2.start N_misses [v, V.int n, u]).set 3 (some (V.ref q))).set 4 (some (V.ref p2))).set 5 o) ?_ ?_ ?_ ?_
    · exact ⟨F5, none, g05, s25, hA, rfl⟩
    · rintro i σ H' _ ⟨F', o, g, s, _⟩
      exact SqL.of (g.sub _ _ (s _ _ fqq))
    · rintro i y σ H' _ hi ⟨F', o, g, s, hA', rfl⟩ ⟨rfl, hy⟩
      obtain ⟨dy, hdy, hyd⟩ := dp_getV hx2 hy
      rw [List.getElem?_map] at hdy
      obtain ⟨e, he⟩ : ∃ e, es[i]? = some e := by
        cases z : es[i]? with
        | none => rw [z] at hdy; cases hdy
        | some e => exact ⟨e, rfl⟩
      rw [he] at hdy
      obtain rfl : evD e = dy := Option.some.inj hdy
      have hfo := runF_ok hn1 hn2 R es i (by omega)
      have hstep : runF (fst0 n R) (es.take (i + 1)) = comeF (runF (fst0 n R) (es.take i)) e := take_succ_fold he
      obtain ⟨vv, r, m, rfl, PP⟩ := id hA'
      obtain ⟨dx6, hp6⟩ := PP.ob
      walk_at "go"
      refine meth_of hp6 rfl ?_
      walk_at "go"
      refine ⟨F', p2, _, _, y, e, rfl, g.sub, hA', hyd.to s, ⟨i, by omega, hfo⟩, fun F6 H6 g6 hA6 => ?_⟩
      refine S.next ⟨F6, _, g.fresh g6 hW5', s.trans g6.fs, ?_, List.set_set ..⟩
      rw [hstep]
      exact hA6
    · rintro σ H' ⟨F', o, g, s, hA', rfl⟩
      rw [hl1, List.take_length] at hA'
      obtain ⟨vv, r, m, rfl, PP⟩ := id hA'
      obtain ⟨dx6, hp6⟩ := PP.ob
      walk_at "go"
      refine fld_of hp6 TB.cl TB.n5 (lk_missed ..) ?_
      walk_at "go"
      refine meth_of hp6 rfl ?_
      walk_at "go"
      refine ⟨F', p2, _, _, rfl, g.sub, hA', fun w F7 H7 g7 hw => ?_⟩
      walk_at "go"
      refine new_tupG (K := K) g7.sub (.cons (.int _) (.cons hw .nil)) (by show 2 ≤ sizeLine; decide) fun t F8 g8 ht hv => ?_
      exact k _ F8 _ ((g.trans g7).trans g8) hv

theorem ok_is_integer {P : Program} {w : World} {K : PySem.W.Frag} {mg : Str → Option Value} {base : Heap} {f : Addr} {fd : FuncData} (F : Fun K "is_integer" "is_integer" s_is_integer f fd) (B : Blt mg)
    : FnOk P w K mg base CX0 (0 + 1) f fd P_is_integer (spIsInt) := by
  refine F.ok sc_is_integer (fun vs H Q E h => ?_) (fun cdv A outer s H vs Q E hr h => ?_)
  · obtain ⟨b, rfl, _⟩ := h; rfl
  · have hu := hu_of hr
    have hu64 := Room.units hr
    obtain ⟨b, rfl, hb, k⟩ := h
    have sm0 : Same (fun _ => none) H := fun _ _ z => by cases z
    refine ⟨_, (pss_cons (ps_if (PW.pt (pw_or (pt_not (pt_val (pe_callB call_isi rfl B.m_isinstance (by first | exact PySem.boot_isinstance | decide +kernel) (pa_cons (pv 0) (pa_cons (pe_bltn (v := V.ty "int") rfl B.m_int (by decide +kernel : bootBuiltins "int" = some (.type "int")) rfl) pa_nil))))) (pw_or1 (pt_val (pe_callB call_isi rfl B.m_isinstance (by first | exact PySem.boot_isinstance | decide +kernel) (pa_cons (pv 0) (pa_cons (pe_bltn (v := V.ty "bool") rfl B.m_bool (by decide +kernel : bootBuiltins "bool" = some (.type "bool")) rfl) pa_nil))))))) (pss_one (ps_ret (pe_bl))) pss_nil)
      (pss_one (ps_ret (pe_and (pe_or (pe_cmpR op_isU (pv 1) (pe_non) (nomark _)) (pe_one (pe_cmpR op_le (pv 1) (pv 0) (nomark _)))) (pe_one (pe_or (pe_cmpR op_isU (pv 2) (pe_non) (nomark _)) (pe_one (pe_cmpR op_le (pv 0) (pv 2) (nomark _))))))))), ?_⟩
    try dsimp only [cxOf, Cx.nox, Cx.wish]
    walk_at "go"
    refine isi_int (.int b) sm0 ?_
    walk_at "go"
    refine S.iteF rfl ?_
    walk_at "go"
    refine isi_bool (.int b) sm0 ?_
    walk_at "go"
    refine S.iteF rfl ?_
    walk_at "go"
    refine S.iteF rfl ?_
    walk_at "go"
    refine S.iteT (decide_eq_true hb) ?_
    walk_at "go"
    refine S.iteT rfl ?_
    exact k

theorem ok_owners {P : Program} {w : World} {K : PySem.W.Frag} {mg : Str → Option Value} {base : Heap} {f : Addr} {fd : FuncData} (F : Fun K "owners" "owners" s_owners f fd) (B : Blt mg)
    {C : Addr} (TB : BoC K C) (c_gone_through : Cal P w K mg base CX0 5 "gone_through" P_gone_through (spGone K C)) (c_is_integer : Cal P w K mg base CX0 1 "is_integer" P_is_integer spIsInt)
    : FnOk P w K mg base CX0 (5 + 1) f fd P_owners (spOwners K) := by
  refine F.ok sc_owners (fun vs H Q E h => ?_) (fun cdv A outer s H vs Q E hr h => ?_)
  · obtain ⟨F, v, ds, b, rfl, _⟩ := h; rfl
  · have hu := hu_of hr
    have hu64 := Room.units hr
    obtain ⟨F, v, ds, b, rfl, sm, hd, hlen, ok, hb, k⟩ := h
    refine ⟨_, (pss_cons (ps_set (i := 2) sc_owners.nd rfl (Or.inl rfl) (pe_ix ix_seq (pe_cal c_gone_through (hr.mono (by first | decide | omega)) pass0 (pa_cons (pv 0) pa_nil)) (pe_int) (fun _ _ => rfl)))
      (pss_cons (ps_if (pt_not (pt_val (pe_cal c_is_integer (hr.mono (by first | decide | omega)) pass0 (pa_cons (pv 1) (pa_cons (pe_int) (pa_cons (pe_non) pa_nil)))))) (pss_one (ps_never)) pss_nil)
      (pss_cons (ps_lockS (ps_setLc2 (i := 3) (own := [("task", 4), ("sheets", 5), ("sheet", 6), ("own", 7)]) (vs1 := [6, 7]) rfl sc_owners.nd rfl rfl (sw_true rfl rfl rfl (by decide +kernel)) (pi_items (pe_fld (pv 2) rfl)) (blkOk_by (N := N_owners) (sc := defScope s_owners) (by decide +kernel)) (by decide) (fun _ _ _ _ _ => (pg_tupK (K := K) (n := 2) rfl rfl (pgs_cons (pg_name (i := 4) sc_owners.nd rfl (Or.inl rfl) (by first | exact Or.inl rfl | exact Or.inr rfl)) (pgs_cons (pg_name (i := 5) sc_owners.nd rfl (Or.inl rfl) (by first | exact Or.inl rfl | exact Or.inr rfl)) pgs_nil)))) (fun _ _ _ _ _ => pts_nil) (fun _ _ _ _ _ => (pi_items (pv 5))) (fun _ _ _ _ _ => (pg_tupK (K := K) (n := 2) rfl rfl (pgs_cons (pg_name (i := 6) sc_owners.nd rfl (Or.inl rfl) (by first | exact Or.inl rfl | exact Or.inr rfl)) (pgs_cons (pg_name (i := 7) sc_owners.nd rfl (Or.inl rfl) (by first | exact Or.inl rfl | exact Or.inr rfl)) pgs_nil)))) (fun _ _ _ _ _ => pts_one (pt_cmpR (op_eqUK (K := K) rfl hu64) (pv 7) (pv 1) (nomark _))) (fun _ _ _ _ _ => (pe_tup (pa_cons (pv 4) (pa_cons (pv 6) pa_nil))))))
      (pss_one (ps_ret (pe_callTy call_tuple_of rfl B.m_tuple (by decide +kernel) (pa_cons (pe_callB cr_sortedPO rfl B.m_sorted (by first | exact PySem.boot_sorted | decide +kernel) (pa_cons (pv 3) pa_nil)) pa_nil))))))), ?_⟩
    try dsimp only [cxOf, Cx.nox, Cx.wish]
    walk_at "sq"
    walk_at "gs"
    refine ⟨F, v, ds, rfl, sm, hd, hlen, ok, fun rr q p xs F1 H1 W1 g1 hB hW hq nq fq hqq hx hrr hrt => ?_⟩
    walk_at "gs"
    refine S.ixTO (K := K) hrt (w := .ref p) S.atI_1 ?_
    walk_at "gs"
    walk_at "sq"
    walk_at "gs"
    refine ⟨b, rfl, hb, ?_⟩
    walk_at "gs"
    refine S.iteF rfl ?_
    walk_at "gs"
    walk_at "sq"
    have hst := (run_ok ok ds.length (Nat.le_refl _)).1
    rw [List.take_length] at hst
    generalize (runAll ([], st0) ds).2 = st at *
    obtain ⟨a, bb, m, T, rfl, PP⟩ := hB
    obtain ⟨dx, hp⟩ := PP.ob
    have ap := apart PP.nd
    have nda : (a :: addrsOf T).Nodup := List.nodup_cons.mpr ⟨fun z => ap.al z, ap.nl⟩
    have inW : ∀ x ∈ a :: addrsOf T, x ∈ p :: a :: bb :: m :: addrsOf T := fun x hx => by
      rcases List.mem_cons.mp hx with e | e
      · rw [e]; simp
      · simp [e]
    have pL : p ∉ a :: addrsOf T := fun z => by
      rcases List.mem_cons.mp z with e | e
      · exact ap.pa e
      · exact ap.pl e
    let L : List (Addr × HO) := (a, HO.dK (kM (fun x : Addr × AL Int => V.ref x.1) T)) :: T.map (fun x => (x.2.1, HO.dK (kM V.int x.2.2)))
    have hLm : L.map (·.1) = a :: addrsOf T := by
      show a :: (T.map _).map _ = a :: addrsOf T
      rw [List.map_map]
      rfl
    have hLH : ∀ q ∈ L, H1 q.1 = some q.2 ∧ Mut (some q.2) := fun q hq => by
      rcases List.mem_cons.mp hq with e | e
      · rw [e]; exact ⟨PP.tabs.tab, trivial⟩
      · obtain ⟨x, hx, rfl⟩ := List.mem_map.mp e
        exact ⟨PP.tabs.rows x hx, trivial⟩
    refine S.lockS L (by rw [hLm]; exact nda) hLH fun H2 lk => ?_
    have smF : Same F1 H2 := fun b' o e => by
      have n : b' ∉ L.map (·.1) := fun z => by
        rw [hLm] at z
        rw [PP.off b' (inW b' z)] at e; cases e
      rw [lk.off b' n]
      exact g1.sub b' o e
    have hp2 : H2 p = some (.ins C dx (flds a bb m st.next)) := by rw [lk.off p (by rw [hLm]; exact pL)]; exact hp
    obtain ⟨oda, ha2⟩ := lk.at_ _ (List.mem_cons_self)
    have hrow2 : ∀ x ∈ T, ∃ od, H2 x.2.1 = some (.frz od (.dK (kM V.int x.2.2))) := fun x hx => lk.at_ (x.2.1, .dK (kM V.int x.2.2)) (List.mem_cons_of_mem _ (List.mem_map_of_mem (f := fun x : Int × (Addr × AL Int) => (x.2.1, HO.dK (kM V.int x.2.2))) hx))
    have hTl : T.length ≤ 401 := by
      have e := hst.ls
      rw [← PP.eq] at e
      unfold sheetsOf at e
      rw [List.length_map] at e
      omega
    have hrl : ∀ x ∈ T, x.2.2.length ≤ 400 := fun x hx => by
      have e := hst.lr (x.1, x.2.2) (by rw [← PP.eq]; exact List.mem_map_of_mem (f := fun t : Int × (Addr × AL Int) => (t.1, t.2.2)) hx)
      exact Nat.le_trans e hlen
    walk_at "gs"
    refine S.lc2 (S.iItems ?_)
    walk_at "gs"
    refine fld_of hp2 TB.cl TB.n1 (lk_sheets ..) ?_
    refine ⟨a, oda, _, rfl, ha2, fun D hD => ?_⟩
    have fD := sub_free smF hD
    have g0 : Gr [] F1 H2 F1 _ := Gr.newOwn (o := .lst []) smF hD
    refine lc_any walk_items (fun i H' => ∃ F' acc, Gr [] F1 H2 F' H' ∧ F' D = none ∧ H' D = some (.lst acc) ∧ PairsIn F' acc (foundP (sheetsOf (T.take i)) b) ∧ acc.length ≤ 400 * i) ⟨F1, [], g0, fD, upd_same, trivial, Nat.le_refl _⟩ ?_ ?_ ?_
    · rintro i H' _ ⟨F', acc, g, _⟩
      exact g.at0 ha2
    · rintro i x H' H'' hi ⟨F', acc, g, fD', hDD, hx', hal⟩ ⟨Tp, y1, y2, rfl, hTp, rfl, e1, e2⟩
      rw [kM_len] at hi
      obtain ⟨x0, hx0⟩ : ∃ x0, T[i]? = some x0 := ⟨_, List.getElem?_eq_getElem hi⟩
      have hkv : (kM (fun x : Addr × AL Int => V.ref x.1) T)[i]? = some (Sum.inl x0.1, V.ref x0.2.1) := by unfold kM; rw [List.getElem?_map, hx0]; rfl
      dsimp only at e1 e2
      rw [hkv] at e1 e2
      obtain rfl := Option.some.inj e1
      obtain rfl := Option.some.inj e2
      have g4 : Gr [] F' H' F' _ := Gr.newOwn (o := .tup [kV (Sum.inl x0.1), V.ref x0.2.1]) g.sub hTp
      have hTT : upd H' Tp (.tup [kV (Sum.inl x0.1), V.ref x0.2.1]) Tp = _ := upd_same
      have hD4 := g4.at0 hDD
      generalize upd H' Tp _ = H4 at *
      have g24 := g.trans g4
      refine S.gTupO hTT rfl ?_
      walk_at "gs"
      refine ⟨rfl, S.yes (S.iteT rfl (S.iItems ?_))⟩
      walk_at "gs"
      have hxT := List.mem_of_getElem? hx0
      obtain ⟨odr, hr2⟩ := hrow2 x0 hxT
      refine ⟨x0.2.1, odr, _, rfl, g24.at0 hr2, ?_⟩
      have hsn : sheetsOf (T.take (i + 1)) = sheetsOf (T.take i) ++ [(x0.1, x0.2.2)] := by
        rw [take_succ_get hx0]
        unfold sheetsOf
        rw [List.map_append]
        rfl
      refine lc_any walk_items (fun j H5 => ∃ F5 acc5, Gr [] F1 H2 F5 H5 ∧ F5 D = none ∧ H5 D = some (.lst acc5) ∧ PairsIn F5 acc5 (foundP (sheetsOf (T.take i)) b ++ foundR x0.1 (x0.2.2.take j) b) ∧ acc5.length ≤ 400 * i + j) ⟨F', acc, g24, fD', hD4, by rw [List.take_zero, show foundR x0.1 [] b = [] from rfl, List.append_nil]; exact hx', hal⟩ ?_ ?_ ?_
      · rintro j H5 _ ⟨F5, acc5, g5, _⟩
        exact g5.at0 hr2
      · rintro j z H5 H6 hj ⟨F5, acc5, g5, fD5, hD5, hx5, hal5⟩ ⟨T2, z1, z2, rfl, hT2, rfl, e3, e4⟩
        rw [kM_len] at hj
        obtain ⟨q0, hq0⟩ : ∃ q0, x0.2.2[j]? = some q0 := ⟨_, List.getElem?_eq_getElem hj⟩
        have hkv2 : (kM V.int x0.2.2)[j]? = some (Sum.inl q0.1, V.int q0.2) := by unfold kM; rw [List.getElem?_map, hq0]; rfl
        dsimp only at e3 e4
        rw [hkv2] at e3 e4
        obtain rfl := Option.some.inj e3
        obtain rfl := Option.some.inj e4
        have g6 : Gr [] F5 H5 F5 _ := Gr.newOwn (o := .tup [kV (Sum.inl q0.1), V.int q0.2]) g5.sub hT2
        have hTT6 : upd H5 T2 (.tup [kV (Sum.inl q0.1), V.int q0.2]) T2 = _ := upd_same
        have hD6 := g6.at0 hD5
        generalize upd H5 T2 _ = H6 at *
        refine S.gTupO hTT6 rfl ?_
        walk_at "gs"
        refine ⟨rfl, ?_⟩
        walk_at "gs"
        rw [take_succ_get hq0, foundR_snoc]
        have hj400 : j < 400 := Nat.lt_of_lt_of_le hj (hrl x0 hxT)
        refine S.ite (fun e => ?_) (fun e => ?_)
        · have e' : q0.2 = b := of_decide_eq_true e
          rw [if_pos e', ← List.append_assoc]
          walk_at "gs"
          refine ⟨by show 2 ≤ sizeLine; decide, fun t ht => ?_⟩
          have g7 : Gr [] F5 H6 _ _ := Gr.new (o := .tup [V.int x0.1, V.int q0.1]) g6.sub ht
          have hD7 := g7.at0 hD6
          have fD7 := g7.own D fD5 (by rw [hD6]; exact fun z => nomatch z)
          have ft : upd F5 t (.tup [V.int x0.1, V.int q0.1]) t = _ := upd_same
          refine ⟨acc5, hD7, size1000000 (by omega), _, acc5 ++ [.ref t], ((g5.trans g6).trans g7).poke hD fD7, fD7, upd_same, PairsIn.app (hx5.to g7.fs) ⟨⟨t, rfl, ft⟩, trivial⟩, by simp; omega⟩
        · have e' : ¬ q0.2 = b := of_decide_eq_false e
          rw [if_neg e']
          exact ⟨F5, acc5, g5.trans g6, fD5, hD6, hx5, by omega⟩
      · rintro H5 ⟨F5, acc5, g5, fD5, hD5, hx5, hal5⟩
        rw [kM_len, List.take_length] at hx5
        rw [kM_len] at hal5
        have := hrl x0 hxT
        exact ⟨F5, acc5, g5, fD5, hD5, by rw [hsn, foundP_snoc]; exact hx5, by omega⟩
    · rintro H' ⟨F', acc, g, fD', hDD, hx', hal⟩
      rw [kM_len, List.take_length] at hx'
      walk_at "gs"
      refine ⟨fun q hq => ?_, ?_⟩
      · obtain ⟨od, e⟩ := lk.at_ q hq
        rw [e]
        exact g.at0 e
      have g3 := Gr.unlock lk (by rw [hLm]; exact nda) (fun q hq => ⟨(hLH q hq).1, PP.off q.1 (inW _ (by rw [← hLm]; exact List.mem_map_of_mem (f := (·.1)) hq))⟩) g
      have hD3 : unl L H' D = some (.lst acc) := by
        rw [unl_off fun z => ?_]
        · exact hDD
        · obtain ⟨q, hq, e⟩ := List.mem_map.mp z
          obtain ⟨od, e2⟩ := lk.at_ q hq
          rw [e, hD] at e2; cases e2
      generalize unl L H' = H3 at *
      walk_at "gs"
      refine ⟨D, acc, pk F', rfl, SqL.of hD3, fun x hx => ?_, fun ys l hsr hst' hl => ?_⟩
      · obtain ⟨t, e1, e2⟩ := hx'.at_ x hx
        exact ⟨t, e1, g3.sub _ _ e2⟩
      have hys : DpAll K F' ys ((ys.map (pk F')).map prZ) := dp_pairs fun y hy => hx'.at_ y (hst'.perm.mem_iff.mp hy)
      have hperm : (ys.map (pk F')).Perm (foundP (sheetsOf T) b) := by
        rw [← hx'.ks]
        exact hst'.perm.map _
      rw [PP.eq] at hperm
      have e : ys.map (pk F') = havingP st.sheets b := having_uniq hst.nds hst.ndr hperm (srtd_leP hsr)
      rw [e, ← having_P] at hys
      have g5 : Gr [] F' H3 F' _ := Gr.newOwn (o := .lst ys) g3.sub hl
      have hll : upd H3 l (.lst ys) l = _ := upd_same
      generalize upd H3 l _ = H5 at *
      walk_at "gs"
      refine ⟨l, ys, rfl, .inl ⟨SqL.of hll, made_tupG (K := K) g5.sub hys fun l2 F6 g6 hl2 hv => ?_⟩⟩
      exact k _ F6 _ (((g1.trans g3).trans g5).trans g6) hv

theorem ok_is_figure {P : Program} {w : World} {K : PySem.W.Frag} {mg : Str → Option Value} {base : Heap} {f : Addr} {fd : FuncData} (F : Fun K "is_figure" "is_figure" s_is_figure f fd) (B : Blt mg)
    (c_is_from : Cal P w K mg base CX0 1 "is_from" P_is_from (spIsFrom K)) (g_MOST_FIGURE : GV mg "MOST_FIGURE" (.int 65535))
    : FnOk P w K mg base CX0 (1 + 1) f fd P_is_figure (spFig) := by
  refine F.ok sc_is_figure (fun vs H Q E h => ?_) (fun cdv A outer s H vs Q E hr h => ?_)
  · obtain ⟨a, rfl, _⟩ := h; rfl
  · have hu := hu_of hr
    have hu64 := Room.units hr
    obtain ⟨a, rfl, h0, h1, k⟩ := h
    refine ⟨_, (pss_one (ps_ret (pe_cal c_is_from (hr.mono (by first | decide | omega)) pass0 (pa_cons (pv 0) (pa_cons (pe_int) (pa_cons (pe_gv g_MOST_FIGURE) pa_nil)))))), ?_⟩
    try dsimp only [cxOf, Cx.nox, Cx.wish]
    walk_at "go"
    refine ⟨fun _ => none, _, .int a, 0, 65535, rfl, (fun _ _ z => by cases z), .int a, ?_⟩
    rw [isFrom_of h0 h1]
    exact k

theorem ok_is_address {P : Program} {w : World} {K : PySem.W.Frag} {mg : Str → Option Value} {base : Heap} {f : Addr} {fd : FuncData} (F : Fun K "is_address" "is_address" s_is_address f fd) (B : Blt mg)
    (c_is_from : Cal P w K mg base CX0 1 "is_from" P_is_from (spIsFrom K)) (g_CELLS : GV mg "CELLS" (.int 4096))
    : FnOk P w K mg base CX0 (1 + 1) f fd P_is_address (spAdr) := by
  refine F.ok sc_is_address (fun vs H Q E h => ?_) (fun cdv A outer s H vs Q E hr h => ?_)
  · obtain ⟨a, rfl, _⟩ := h; rfl
  · have hu := hu_of hr
    have hu64 := Room.units hr
    obtain ⟨a, rfl, h0, h1, k⟩ := h
    refine ⟨_, (pss_one (ps_ret (pe_cal c_is_from (hr.mono (by first | decide | omega)) pass0 (pa_cons (pv 0) (pa_cons (pe_int) (pa_cons (pe_op op_sub (pe_gv g_CELLS) (pe_int)) pa_nil)))))), ?_⟩
    try dsimp only [cxOf, Cx.nox, Cx.wish]
    walk_at "go"
    refine ⟨fun _ => none, _, .int a, 0, 4096 - 1, rfl, (fun _ _ z => by cases z), .int a, ?_⟩
    rw [isFrom_of h0 (by omega)]
    exact k

theorem ok_Pages_need_task {P : Program} {w : World} {K : PySem.W.Frag} {mg : Str → Option Value} {base : Heap} {f : Addr} {fd : FuncData} (F : Fun K "need_task" "Pages.need_task" s_Pages_need_task f fd) (B : Blt mg)
    {C C2 C3 : Addr} (TB : BoC K C) (TP3 : PgC K C3) (c_Bodies_is_there : MCal P w K mg base CX0 2 C "is_there" P_Bodies_is_there (spThere K C))
    : FnOk P w K mg base CX0 (2 + 1) f fd P_Pages_need_task (spPNeedTask K C C2 C3) := by
  refine F.ok sc_Pages_need_task (fun vs H Q E h => ?_) (fun cdv A outer s H vs Q E hr h => ?_)
  · obtain ⟨F, pg, Z, W, t, rfl, _⟩ := h; rfl
  · have hu := hu_of hr
    have hu64 := Room.units hr
    have cl_Bodies := TB.cl
    have cl_Pages := TP3.cl
    obtain ⟨F, pg, Z, W, t, rfl, sm, hA, ht, k⟩ := h
    obtain ⟨p1, p2, fa, pa, oa, T, W1, W2, ps, xs, rfl, PP'⟩ := hA
    obtain ⟨dx, hp⟩ := PP'.ob
    obtain ⟨b1, b2, b3, b4, rfl, PB⟩ := id PP'.bo
    obtain ⟨dx1, hp1⟩ := PB.ob
    refine ⟨_, (pss_one (ps_if (pt_not (pt_val (pe_mcal c_Bodies_is_there cl_Bodies (hr.mono (by first | decide | omega)) pass0 (pe_fld (pv 0) rfl) (pa_cons (pv 1) pa_nil)))) (pss_one (ps_never)) pss_nil)), ?_⟩
    try dsimp only [cxOf, Cx.nox, Cx.wish]
    walk_at "go"
    refine fld_of hp TP3.cl TP3.n1 (lk_bodies ..) ?_
    refine meth_of hp1 rfl ?_
    walk_at "go"
    refine ⟨F, p1, Z.st, _, _, .int t, rfl, sm, PP'.bo, .int t, ?_⟩
    rw [ht]
    walk_at "go"
    exact S.iteF rfl (S.next k)

theorem ok_Pages_need_cell {P : Program} {w : World} {K : PySem.W.Frag} {mg : Str → Option Value} {base : Heap} {f : Addr} {fd : FuncData} (F : Fun K "need_cell" "Pages.need_cell" s_Pages_need_cell f fd) (B : Blt mg)
    {C C2 C3 : Addr} (TP3 : PgC K C3) (c_Pages_need_task : MCal P w K mg base CX0 3 C3 "need_task" P_Pages_need_task (spPNeedTask K C C2 C3)) (c_is_address : Cal P w K mg base CX0 2 "is_address" P_is_address spAdr)
    : FnOk P w K mg base CX0 (3 + 1) f fd P_Pages_need_cell (spPNeedCell K C C2 C3) := by
  refine F.ok sc_Pages_need_cell (fun vs H Q E h => ?_) (fun cdv A outer s H vs Q E hr h => ?_)
  · obtain ⟨F, pg, Z, W, t, a, rfl, _⟩ := h; rfl
  · have hu := hu_of hr
    have hu64 := Room.units hr
    have cl_Pages := TP3.cl
    obtain ⟨F, pg, Z, W, t, a, rfl, sm, hA, ht, h0, h1, k⟩ := h
    have hob : ∃ dx fs, H pg = some (.ins C3 dx fs) ∧ fs.lookup ("need_task" : Str) = none := by
      obtain ⟨p1, p2, fa, pa, oa, T, W1, W2, ps, xs, rfl, PP'⟩ := hA
      obtain ⟨dx, hp⟩ := PP'.ob
      exact ⟨dx, _, hp, rfl⟩
    obtain ⟨dx, fs, hp, hl⟩ := hob
    refine ⟨_, (pss_cons (ps_expr (pe_mcal c_Pages_need_task cl_Pages (hr.mono (by first | decide | omega)) pass0 (pv 0) (pa_cons (pv 1) pa_nil)))
      (pss_one (ps_if (pt_not (pt_val (pe_cal c_is_address (hr.mono (by first | decide | omega)) pass0 (pa_cons (pv 2) pa_nil)))) (pss_one (ps_never)) pss_nil))), ?_⟩
    try dsimp only [cxOf, Cx.nox, Cx.wish]
    walk_at "go"
    refine meth_of hp hl ?_
    walk_at "go"
    refine ⟨F, pg, Z, W, t, rfl, sm, hA, ht, ?_⟩
    walk_at "go"
    refine ⟨a, rfl, h0, h1, ?_⟩
    walk_at "go"
    exact S.iteF rfl (S.next k)

theorem ok_Pages_come {P : Program} {w : World} {K : PySem.W.Frag} {mg : Str → Option Value} {base : Heap} {f : Addr} {fd : FuncData} (F : Fun K "come" "Pages.come" s_Pages_come f fd) (B : Blt mg)
    {C C2 C3 : Addr} (TF : FrC K C2) (TP3 : PgC K C3) (c_Frames_come : MCal P w K mg base CX0 3 C2 "come" P_Frames_come (spComeF K C2))
    : FnOk P w K mg base CX0 (3 + 1) f fd P_Pages_come (spPCome K C C2 C3) := by
  refine F.ok sc_Pages_come (fun vs H Q E h => ?_) (fun cdv A outer s H vs Q E hr h => ?_)
  · obtain ⟨F, pg, Z, W, v, es, rfl, _⟩ := h; rfl
  · have hu := hu_of hr
    have hu64 := Room.units hr
    have cl_Frames := TF.cl
    have cl_Pages := TP3.cl
    obtain ⟨F, pg, Z, W, v, es, rfl, sm, hA, hv, ⟨m, hm, hfo⟩, k⟩ := h
    obtain ⟨p1, p2, fa, pa, oa, T, W1, W2, ps, xs, rfl, P0⟩ := hA
    refine ⟨_, (pss_one (ps_for PassesOwn.never rfl (pi_seq (pv 1)) (pg_name (i := 2) sc_Pages_come.nd rfl (Or.inl rfl)) (pss_one (ps_expr (pe_mcal c_Frames_come cl_Frames (hr.mono (by first | decide | omega)) pass0 (pe_fld (pv 0) rfl) (pa_cons (pv 2) pa_nil)))))), ?_⟩
    try dsimp only [cxOf, Cx.nox, Cx.wish]
    refine S.forS (S.iSeqL ?_)
    walk_at "go"
    obtain ⟨a, vs, rfl, hva, hds⟩ := dp_list hv
    refine ⟨a, rfl, ⟨vs, same_lst sm hva⟩, ?_⟩
    have hvl := dp_len hds
    rw [List.length_map] at hvl
    refine for_it (walk_list (K := K) (a := a) (xs := vs)) (fun i σ H' => ∃ F' o2, Gr (allW pg pa oa fa T W1 W2) F H F' H' ∧ PP K C C2 C3 F' H' pg { Z with fs := runF Z.fs (es.take i) } p1 p2 fa pa oa T W1 W2 ps xs ∧ FOk (m + i) (runF Z.fs (es.take i)) ∧ σ = [some (V.ref pg), some (V.ref a), o2]) ?_ ?_ ?_ ?_
    · exact ⟨F, none, Gr.refl sm, P0, hfo, rfl⟩
    · rintro i σ H' _ ⟨F', o2, g, _⟩
      exact same_lst (g.fs.trans g.sub) hva
    · rintro i y σ H' _ hi ⟨F', o2, g, P1, hf, rfl⟩ ⟨rfl, hy⟩
      obtain ⟨dy, hdy, hyd⟩ := dp_getV hds hy
      rw [List.getElem?_map] at hdy
      obtain ⟨e, he⟩ : ∃ e, es[i]? = some e := by
        cases z : es[i]? with
        | none => rw [z] at hdy; cases hdy
        | some e => exact ⟨e, rfl⟩
      rw [he] at hdy
      obtain rfl : evD e = dy := Option.some.inj hdy
      have hstep : runF Z.fs (es.take (i + 1)) = comeF (runF Z.fs (es.take i)) e := take_succ_fold he
      obtain ⟨dx, hp⟩ := P1.ob
      obtain ⟨vv, r, mm, rfl, PF⟩ := id P1.fr
      obtain ⟨dx2, hp2⟩ := PF.ob
      walk_at "go"
      refine fld_of hp TP3.cl TP3.n2 (lk_present ..) ?_
      refine meth_of hp2 rfl ?_
      walk_at "go"
      refine ⟨F', p2, _, _, y, e, rfl, g.sub, P1.fr, hyd.to g.fs, ⟨m + i, by omega, hf⟩, fun F2 H2 g2 hA2 => ?_⟩
      refine S.next ⟨F2, _, g.trans (g2.mono fun b hb => mem_all.mpr (.inr (.inr (.inr hb)))), ?_, ?_, rfl⟩
      · rw [hstep]
        exact P1.setF g2 hA2
      · rw [hstep]
        exact (hf.step e).1
    · rintro σ H' ⟨F', o2, g, P1, hf, rfl⟩
      rw [hvl, List.take_length] at P1
      exact S.next (k F' H' ⟨g, _, ⟨p1, p2, fa, pa, oa, T, W1, W2, ps, xs, rfl, P1⟩, fun b hb => .inl hb⟩)

theorem ok_Pages_keep {P : Program} {w : World} {K : PySem.W.Frag} {mg : Str → Option Value} {base : Heap} {f : Addr} {fd : FuncData} (F : Fun K "keep" "Pages.keep" s_Pages_keep f fd) (B : Blt mg)
    {C C2 C3 : Addr} (TP3 : PgC K C3)
    : FnOk P w K mg base CX0 (0 + 1) f fd P_Pages_keep (spPKeep K C C2 C3) := by
  refine F.ok sc_Pages_keep (fun vs H Q E h => ?_) (fun cdv A outer s H vs Q E hr h => ?_)
  · obtain ⟨F, pg, Z, W, c, d, dd, rfl, _⟩ := h; rfl
  · have hu := hu_of hr
    have hu64 := Room.units hr
    have cl_Pages := TP3.cl
    obtain ⟨F, pg, Z, W, c, d, dd, rfl, sm, hA, hd, hl, k⟩ := h
    obtain ⟨p1, p2, fa, pa, oa, T, W1, W2, ps, xs, rfl, P0⟩ := hA
    obtain ⟨dx, hp⟩ := P0.ob
    have u3 := P0.u3
    simp only [List.nodup_cons, List.mem_cons, List.not_mem_nil, or_false, not_or] at u3
    obtain ⟨⟨e1, e2⟩, e3, _⟩ := u3
    have hpn := P0.pn
    have hxl := dp_len P0.dx
    rw [List.length_map] at hxl
    refine ⟨_, (pss_cons (ps_expr (pe_bm PySem.F.plainAttrs_list PySem.F.slot_list_append PySem.F.type_list_append mt_append (pe_fld (pv 0) rfl) (pa_cons (pv 1) pa_nil)))
      (pss_one (ps_expr (pe_bm PySem.F.plainAttrs_list PySem.F.slot_list_append PySem.F.type_list_append mt_append (pe_fld (pv 0) rfl) (pa_cons (pv 2) pa_nil))))), ?_⟩
    try dsimp only [cxOf, Cx.nox, Cx.wish]
    walk_at "go"
    refine fld_of hp TP3.cl TP3.n4 (lk_past ..) ?_
    refine S.tyO P0.pl ?_
    walk_at "go"
    refine S.appO P0.pl (size1000000 (by omega)) ?_
    walk_at "go"
    refine fld_of ((upd_ne e1).trans hp) TP3.cl TP3.n5 (lk_on ..) ?_
    refine S.tyO ((upd_ne (Ne.symm e3)).trans P0.ol) ?_
    walk_at "go"
    refine S.appO ((upd_ne (Ne.symm e3)).trans P0.ol) (size1000000 (by omega)) ?_
    have PN := P0.wPast sm (c := c) hd
    have fp : F pa = none := P0.f3 pa (by simp)
    have fo : F oa = none := P0.f3 oa (by simp)
    have m1 : pa ∈ allW pg pa oa fa T W1 W2 := mem_all.mpr (.inl (by simp))
    have m2 : oa ∈ allW pg pa oa fa T W1 W2 := mem_all.mpr (.inl (by simp))
    have g1 : Gr (allW pg pa oa fa T W1 W2) F H F (upd H pa (.lst (ps ++ [c]))) := Gr.write sm fp m1
    have g2 := g1.put (o := .lst (xs ++ [d])) m2 fo
    exact S.next (k F _ ⟨g2, _, ⟨p1, p2, fa, pa, oa, T, W1, W2, _, _, rfl, PN⟩, fun b hb => .inl hb⟩)

theorem ok_Pages_load {P : Program} {w : World} {K : PySem.W.Frag} {mg : Str → Option Value} {base : Heap} {f : Addr} {fd : FuncData} (F : Fun K "load" "Pages.load" s_Pages_load f fd) (B : Blt mg)
    {C C2 C3 : Addr} (TB : BoC K C) (TP3 : PgC K C3) (c_Pages_need_cell : MCal P w K mg base CX0 4 C3 "need_cell" P_Pages_need_cell (spPNeedCell K C C2 C3)) (c_Bodies_load : MCal P w K mg base CX0 2 C "load" P_Bodies_load (spLoad K C)) (c_Bodies_body : MCal P w K mg base CX0 1 C "body" P_Bodies_body (spBody C))
    (c_Pages_come : MCal P w K mg base CX0 4 C3 "come" P_Pages_come (spPCome K C C2 C3)) (c_Pages_keep : MCal P w K mg base CX0 1 C3 "keep" P_Pages_keep (spPKeep K C C2 C3)) (m_divmod : mg "divmod" = none) (g_IN_SHEET : GV mg "IN_SHEET" (.int 64))
    : FnOk P w K mg base CX0 (4 + 1) f fd P_Pages_load (spPLoad K C C2 C3) := by
  refine F.ok sc_Pages_load (fun vs H Q E h => ?_) (fun cdv A outer s H vs Q E hr h => ?_)
  · obtain ⟨F, pg, Z, W, t, a, n, R, rfl, _⟩ := h; rfl
  · have hu := hu_of hr
    have hu64 := Room.units hr
    have cl_Pages := TP3.cl
    have cl_Bodies := TB.cl
    obtain ⟨F, pg, Z, W, t, a, n, R, rfl, sm, hA, hW, ht, h0, h1, k⟩ := h
    have hA0 := hA
    obtain ⟨p1, p2, fa, pa, oa, T, W1, W2, ps, xs, rfl, P0⟩ := hA
    obtain ⟨dx, hp⟩ := P0.ob
    refine ⟨_, (pss_cons (ps_expr (pe_mcal c_Pages_need_cell cl_Pages (hr.mono (by first | decide | omega)) pass0 (pv 0) (pa_cons (pv 1) (pa_cons (pv 2) pa_nil))))
      (pss_cons (ps_asg (pe_callB call_divmod rfl m_divmod (by decide +kernel) (pa_cons (pv 2) (pa_cons (pe_gv g_IN_SHEET) pa_nil))) (pg_tup rfl (pgs_cons (pg_name (i := 3) sc_Pages_load.nd rfl (Or.inl rfl) (by first | exact Or.inl rfl | exact Or.inr rfl)) (pgs_cons (pg_name (i := 4) sc_Pages_load.nd rfl (Or.inl rfl) (by first | exact Or.inl rfl | exact Or.inr rfl)) pgs_nil))))
      (pss_cons (ps_expr (pe_mcal c_Pages_come cl_Pages (hr.mono (by first | decide | omega)) pass0 (pv 0) (pa_cons (pe_mcal c_Bodies_load cl_Bodies (hr.mono (by first | decide | omega)) pass0 (pe_fld (pv 0) rfl) (pa_cons (pv 1) (pa_cons (pv 3) pa_nil))) pa_nil)))
      (pss_cons (ps_expr (pe_mcal c_Pages_keep cl_Pages (hr.mono (by first | decide | omega)) pass0 (pv 0) (pa_cons (pe_tup (pa_cons (pe_str) (pa_cons (pv 1) (pa_cons (pv 2) pa_nil)))) (pa_cons (pe_tup (pa_cons (pe_str) (pa_cons (pv 1) (pa_cons (pv 3) pa_nil)))) pa_nil))))
      (pss_cons (ps_set (i := 5) sc_Pages_load.nd rfl (Or.inl rfl) (pe_mcal c_Bodies_body cl_Bodies (hr.mono (by first | decide | omega)) pass0 (pe_fld (pv 0) rfl) (pa_cons (pv 1) (pa_cons (pv 3) pa_nil))))
      (pss_one (ps_ret (pe_ifExp (pt_cmpR op_isU (pv 5) (pe_non) (nomark _)) (pe_int) (pe_dget2 hu (pe_dget hu (pe_fld (pv 0) rfl) (pv 5) (fun _ _ => rfl)) (pv 4) (pe_int) ⟨rfl, rfl, rfl, rfl⟩))))))))), ?_⟩
    try dsimp only [cxOf, Cx.nox, Cx.wish]
    walk_at "go"
    refine meth_of hp rfl ?_
    walk_at "go"
    refine ⟨F, pg, Z, _, t, a, rfl, sm, hA0, ht, h0, h1, ?_⟩
    walk_at "go"
    refine ⟨⟨by decide, by decide⟩, fun dv hdv => ?_⟩
    have g1 : Gr [] F H F _ := Gr.newOwn (o := .tup [.int (a / 64), .int (a % 64)]) sm hdv
    have hdd : upd H dv (.tup [.int (a / 64), .int (a % 64)]) dv = _ := upd_same
    have P1 := P0.gr0 g1
    generalize upd H dv _ = H1 at *
    refine S.gTupO hdd rfl ?_
    walk_at "go"
    obtain ⟨dx1, hp1⟩ := P1.ob
    obtain ⟨b1, b2, b3, b4, eW1, PB1⟩ := id P1.bo
    obtain ⟨dxb, hpb⟩ := PB1.ob
    refine meth_of hp1 rfl ?_
    walk_at "go"
    refine fld_of hp1 TP3.cl TP3.n1 (lk_bodies ..) ?_
    refine meth_of hpb rfl ?_
    walk_at "go"
    refine ⟨F, p1, Z.st, _, t, a / 64, rfl, g1.sub, P1.bo, (thereD_in ht).2, fun q es F2 H2 g2 hq fq hqq hes => ?_⟩
    have g3 : Gr [] F H1 _ H2 := g2.frz hq fq hqq
    have hv3 : Dp K (upd F2 q (.lst es)) (.ref q) (.list ((loadE Z.st t (a / 64)).map evD)) := .lst (.inl (.inl upd_same)) (hes.to (fun b o e => by rw [upd_ne (ne_of_none e fq)]; exact e))
    generalize upd F2 q (.lst es) = F3 at *
    have P3 := P1.gr0 g3
    have g03 := g1.trans g3
    obtain ⟨m, hm, hfo⟩ := hW.fok
    have hel : (loadE Z.st t (a / 64)).length ≤ 1 := by
      unfold loadE
      cases bodyOf Z.st t (a / 64) <;> simp
    walk_at "go"
    refine ⟨F3, pg, Z, _, .ref q, loadE Z.st t (a / 64), rfl, g3.sub, ⟨p1, p2, fa, pa, oa, T, W1, W2, ps, xs, rfl, P3⟩, hv3, ⟨m, by omega, hfo⟩, fun F4 H4 go4 => ?_⟩
    obtain ⟨g4, W4, hA4, n4⟩ := go4
    obtain ⟨q1, q2, fa4, pa4, oa4, T4, V1, V2, ps4, xs4, rfl, P4⟩ := id hA4
    obtain ⟨dx4, hp4⟩ := P4.ob
    walk_at "go"
    refine meth_of hp4 rfl ?_
    walk_at "go"
    refine new_tupS g4.sub (fun c5 g5 hc5 => ?_) (by show 3 ≤ sizeLine; decide)
    have hA5 := hA4.gr0 g5
    generalize upd H4 c5 _ = H5 at *
    walk_at "go"
    refine new_tupG (K := K) g5.sub (ds := [.str "load", .int t, .int (a / 64)]) (.cons (.str _) (.cons (.int _) (.cons (.int _) .nil))) (by show 3 ≤ sizeLine; decide) fun d6 F6 g6 hd6 hv6 => ?_
    have hA6 := hA5.gr0 g6
    generalize upd H5 d6 _ = H6 at *
    walk_at "go"
    have hlen := hW.len
    refine ⟨F6, pg, _, _, _, .ref d6, .load t (a / 64), rfl, g6.sub, hA6, hv6, by show Z.ds.length ≤ 1000; omega, fun F7 H7 go7 => ?_⟩
    have goAll := PGo.pre g03 (PGo.comp g4 n4 (PGo.pre (g5.trans g6) go7))
    obtain ⟨g7, W7, hA7, n7⟩ := id go7
    obtain ⟨r1, r2, fa7, pa7, oa7, T7, U1, U2, ps7, xs7, rfl, P7⟩ := id hA7
    obtain ⟨dx7, hp7⟩ := P7.ob
    obtain ⟨c1, c2, c3, c4, eW7, PB7⟩ := id P7.bo
    obtain ⟨dxc, hpc⟩ := PB7.ob
    walk_at "go"
    refine fld_of hp7 TP3.cl TP3.n1 (lk_bodies ..) ?_
    refine meth_of hpc rfl ?_
    walk_at "go"
    refine ⟨F7, r1, _, _, t, a / 64, rfl, P7.bo, (thereD_in ht).2, ?_⟩
    have kk := k F7 H7 goAll
    unfold valP at kk
    cases e : bodyOf Z.st t (a / 64) with
    | none =>
      rw [e] at kk
      walk_at "go"
      refine S.iteT rfl ?_
      exact kk
    | some b =>
      rw [e] at kk
      obtain ⟨d, hTd, hdd7, hval⟩ := tab_row P7.tp P7.fg (b := b) ((hW.pi.fi b).mpr ⟨t, a / 64, e⟩)
      walk_at "go"
      refine S.iteF rfl (S.dget2 ?_)
      walk_at "go"
      refine fld_of hp7 TP3.cl TP3.n3 (lk_figures ..) ?_
      walk_at "go"
      refine dget_of (k := Sum.inl b) P7.tp.tabs.tab hval ?_
      refine ⟨d, rfl, .inl ⟨_, .inl hdd7⟩, ?_⟩
      walk_at "go"
      refine ⟨_, DGet.k (k := Sum.inl (a % 64)) hdd7, ?_⟩
      rw [valV_kM]
      have ef : ((getA (rowOf (stepP Z (PCall.load t a)).fg b) (a % 64)).map V.int).getD (.int 0) = .int (figOf Z.fg b (a % 64)) := by
        show ((getA (rowOf Z.fg b) (a % 64)).map V.int).getD (.int 0) = _
        unfold figOf
        cases getA (rowOf Z.fg b) (a % 64) <;> rfl
      show Q (((getA (rowOf (stepP Z (PCall.load t a)).fg b) (a % 64)).map V.int).getD (.int 0)) H7
      rw [ef]
      exact kk

theorem ok_Pages_store {P : Program} {w : World} {K : PySem.W.Frag} {mg : Str → Option Value} {base : Heap} {f : Addr} {fd : FuncData} (F : Fun K "store" "Pages.store" s_Pages_store f fd) (B : Blt mg)
    {C C2 C3 : Addr} (TB : BoC K C) (TP3 : PgC K C3) (c_Pages_need_cell : MCal P w K mg base CX0 4 C3 "need_cell" P_Pages_need_cell (spPNeedCell K C C2 C3)) (c_is_figure : Cal P w K mg base CX0 2 "is_figure" P_is_figure spFig) (c_Bodies_store : MCal P w K mg base CX0 3 C "store" P_Bodies_store (spStore K C)) (c_Bodies_body : MCal P w K mg base CX0 1 C "body" P_Bodies_body (spBody C))
    (c_Pages_come : MCal P w K mg base CX0 4 C3 "come" P_Pages_come (spPCome K C C2 C3)) (c_Pages_keep : MCal P w K mg base CX0 1 C3 "keep" P_Pages_keep (spPKeep K C C2 C3)) (m_divmod : mg "divmod" = none) (g_IN_SHEET : GV mg "IN_SHEET" (.int 64)) (g_MAKE : GV mg "MAKE" (.str "make"))
    : FnOk P w K mg base CX0 (4 + 1) f fd P_Pages_store (spPStore K C C2 C3) := by
  refine F.ok sc_Pages_store (fun vs H Q E h => ?_) (fun cdv A outer s H vs Q E hr h => ?_)
  · obtain ⟨F, pg, Z, W, t, a, f, n, R, rfl, _⟩ := h; rfl
  · have hu := hu_of hr
    have hu64 := Room.units hr
    have cl_Pages := TP3.cl
    have cl_Bodies := TB.cl
    obtain ⟨F, pg, Z, W, t, a, f, n, R, rfl, sm, hA, hW, ht, h0, h1, f0, f1, k⟩ := h
    have hA0 := hA
    obtain ⟨p1, p2, fa, pa, oa, T, W1, W2, ps, xs, rfl, P0⟩ := hA
    obtain ⟨dx, hp⟩ := P0.ob
    refine ⟨_, (pss_cons (ps_expr (pe_mcal c_Pages_need_cell cl_Pages (hr.mono (by first | decide | omega)) pass0 (pv 0) (pa_cons (pv 1) (pa_cons (pv 2) pa_nil))))
      (pss_cons (ps_if (pt_not (pt_val (pe_cal c_is_figure (hr.mono (by first | decide | omega)) pass0 (pa_cons (pv 3) pa_nil)))) (pss_one (ps_never)) pss_nil)
      (pss_cons (ps_asg (pe_callB call_divmod rfl m_divmod (by decide +kernel) (pa_cons (pv 2) (pa_cons (pe_gv g_IN_SHEET) pa_nil))) (pg_tup rfl (pgs_cons (pg_name (i := 4) sc_Pages_store.nd rfl (Or.inl rfl) (by first | exact Or.inl rfl | exact Or.inr rfl)) (pgs_cons (pg_name (i := 5) sc_Pages_store.nd rfl (Or.inl rfl) (by first | exact Or.inl rfl | exact Or.inr rfl)) pgs_nil))))
      (pss_cons (ps_set (i := 6) sc_Pages_store.nd rfl (Or.inl rfl) (pe_mcal c_Bodies_body cl_Bodies (hr.mono (by first | decide | omega)) pass0 (pe_fld (pv 0) rfl) (pa_cons (pv 1) (pa_cons (pv 4) pa_nil))))
      (pss_cons (ps_set (i := 7) sc_Pages_store.nd rfl (Or.inl rfl) (pe_mcal c_Bodies_store cl_Bodies (hr.mono (by first | decide | omega)) pass0 (pe_fld (pv 0) rfl) (pa_cons (pv 1) (pa_cons (pv 4) pa_nil))))
      (pss_cons (ps_expr (pe_mcal c_Pages_come cl_Pages (hr.mono (by first | decide | omega)) pass0 (pv 0) (pa_cons (pv 7) pa_nil)))
      (pss_cons (ps_asg (pe_ix ix_seq (pv 7) (pe_un un_neg (pe_int)) (fun _ _ => rfl)) (pg_tup rfl (pgs_cons (pg_name (i := 8) sc_Pages_store.nd rfl (Or.inl rfl) (by first | exact Or.inl rfl | exact Or.inr rfl)) (pgs_cons (pg_name (i := 9) sc_Pages_store.nd rfl (Or.inl rfl) (by first | exact Or.inl rfl | exact Or.inr rfl)) pgs_nil))))
      (pss_cons (ps_if (pt_cmpR (op_eqU hu64) (pv 8) (pe_gv g_MAKE) (nomark _)) (pss_one (ps_dput hu (pe_fld (pv 0) rfl) (pv 9) (pe_ifExp (pt_cmpR op_isU (pv 6) (pe_non) (nomark _)) (pe_dnewK) (pe_callTy call_dictD rfl B.m_dict (by decide +kernel) (pa_cons (pe_dget hu (pe_fld (pv 0) rfl) (pv 6) (fun _ _ => rfl)) pa_nil))) rfl)) pss_nil)
      (pss_cons (ps_set (i := 10) sc_Pages_store.nd rfl (Or.inl rfl) (pe_dget hu (pe_fld (pv 0) rfl) (pv 9) (fun _ _ => rfl)))
      (pss_cons (ps_if (pt_cmpR (op_eqU hu64) (pv 3) (pe_int) (nomark _)) (pss_one (ps_expr (pe_dpop2 (pv 10) (pv 5) (pe_non) ⟨rfl, rfl, rfl, rfl⟩))) (pss_one (ps_dput hu (pv 10) (pv 5) (pv 3) rfl)))
      (pss_one (ps_expr (pe_mcal c_Pages_keep cl_Pages (hr.mono (by first | decide | omega)) pass0 (pv 0) (pa_cons (pe_tup (pa_cons (pe_str) (pa_cons (pv 1) (pa_cons (pv 2) (pa_cons (pv 3) pa_nil))))) (pa_cons (pe_tup (pa_cons (pe_str) (pa_cons (pv 1) (pa_cons (pv 4) pa_nil)))) pa_nil))))))))))))))), ?_⟩
    try dsimp only [cxOf, Cx.nox, Cx.wish]
    walk_at "go"
    refine meth_of hp rfl ?_
    walk_at "go"
    refine ⟨F, pg, Z, _, t, a, rfl, sm, hA0, ht, h0, h1, ?_⟩
    walk_at "go"
    refine ⟨f, rfl, f0, f1, ?_⟩
    walk_at "go"
    refine S.iteF rfl ?_
    walk_at "go"
    refine ⟨⟨by decide, by decide⟩, fun dv hdv => ?_⟩
    have g1 : Gr [] F H F _ := Gr.newOwn (o := .tup [.int (a / 64), .int (a % 64)]) sm hdv
    have hdd : upd H dv (.tup [.int (a / 64), .int (a % 64)]) dv = _ := upd_same
    have P1 := P0.gr0 g1
    generalize upd H dv _ = H1 at *
    refine S.gTupO hdd rfl ?_
    walk_at "go"
    obtain ⟨dx1, hp1⟩ := P1.ob
    obtain ⟨b1, b2, b3, b4, eW1, PB1⟩ := id P1.bo
    obtain ⟨dxb, hpb⟩ := PB1.ob
    refine fld_of hp1 TP3.cl TP3.n1 (lk_bodies ..) ?_
    refine meth_of hpb rfl ?_
    walk_at "go"
    refine ⟨F, p1, Z.st, _, t, a / 64, rfl, P1.bo, (thereD_in ht).2, ?_⟩
    walk_at "go"
    refine fld_of hp1 TP3.cl TP3.n1 (lk_bodies ..) ?_
    refine meth_of hpb rfl ?_
    walk_at "go"
    have hlen := hW.len
    refine ⟨F, p1, Z.st, _, t, a / 64, rfl, g1.sub, P1.bo, (thereD_in ht).2, ⟨_, by omega, hW.bok⟩, fun q es F2 H2 W1' g2 hB2 hW2 hq nq fq hqq hes => ?_⟩
    have g3 : Gr W1 F H1 _ H2 := g2.frz hq fq hqq
    have hB3 := hB2.frz (o := .lst es) nq
    have hv3 : Dp K (upd F2 q (.lst es)) (.ref q) (.list ((storeE Z.st t (a / 64)).1.map evD)) := .lst (.inl (.inl upd_same)) (hes.to (fun b o e => by rw [upd_ne (ne_of_none e fq)]; exact e))
    generalize upd F2 q (.lst es) = F3 at *
    have P3 := P1.setB g3 hB3 hW2
    have hsub : ∀ b ∈ allW pg pa oa fa T W1' W2, b ∈ allW pg pa oa fa T W1 W2 ∨ H b = none := fun b hb => by
      rcases mem_all.mp hb with h | h | h | h
      · exact .inl (mem_all.mpr (.inl h))
      · exact .inl (mem_all.mpr (.inr (.inl h)))
      · rcases hW2 b h with h | h
        · exact .inl (mem_all.mpr (.inr (.inr (.inl h))))
        · exact .inr (g1.free h)
      · exact .inl (mem_all.mpr (.inr (.inr (.inr h))))
    have g03 : Gr (allW pg pa oa fa T W1 W2) F H F3 H2 := g1.any.trans (g3.mono fun b hb => mem_all.mpr (.inr (.inr (.inl hb))))
    obtain ⟨m, hm, hfo⟩ := hW.fok
    have hel := ev_short Z.st t (a / 64)
    obtain ⟨dx3, hp3⟩ := P3.ob
    walk_at "go"
    refine meth_of hp3 rfl ?_
    walk_at "go"
    refine ⟨F3, pg, _, _, .ref q, (storeE Z.st t (a / 64)).1, rfl, g3.sub, ⟨p1, p2, fa, pa, oa, T, W1', W2, ps, xs, rfl, P3⟩, hv3, ⟨m, by omega, hfo⟩, fun F4 H4 go4 => ?_⟩
    obtain ⟨g4, W4, hA4, n4⟩ := PGo.comp g03 hsub go4
    have hv4 := hv3.to (go4.1).fs
    walk_at "go"
    refine S.ixL (K := K) hv4 g4.sub (last_ev Z.st t (a / 64)) fun w hw => ?_
    refine S.gTup2 (K := K) hw g4.sub fun x y hx hy => ?_
    obtain rfl := dp_str hx
    obtain rfl := dp_int hy
    walk_at "gs"
    have hfgl := hW.fgl
    have ho := hW.pi.old t (a / 64)
    -- behind the if: the figures have the body's own dict
    with_reducible refine S.seqQ (fun σ' H' => ∃ F5 W5, Gr (allW pg pa oa fa T W1 W2) F H F5 H' ∧ PgAt K C C2 C3 F5 H' pg ⟨(storeE Z.st t (a / 64)).2, runF Z.fs (storeE Z.st t (a / 64)).1, figMid Z.st Z.fg t (a / 64), Z.ds⟩ W5 ∧ (∀ b ∈ W5, b ∈ allW pg pa oa fa T W1 W2 ∨ H b = none) ∧
      σ' = [some (V.ref pg), some (V.int t), some (V.int a), some (V.int f), some (V.int (a / 64)), some (V.int (a % 64)), some (optV (bodyOf Z.st t (a / 64))), some (V.ref q), some (V.str (if isNew Z.st t (a / 64) = true then "make" else "look")), some (V.int (nowB Z.st t (a / 64))), none]) ?_ ?_
    · rintro σ' H5 ⟨F5, W5, g5, hA5, n5, rfl⟩
      obtain ⟨r1, r2, fa5, pa5, oa5, T5, U1, U2, ps5, xs5, rfl, P5⟩ := hA5
      obtain ⟨dx5, hp5⟩ := P5.ob
      have hmid := mid_row hW.pi t (a / 64)
      have erow : rowOf (figMid Z.st Z.fg t (a / 64)) (nowB Z.st t (a / 64)) = oldRow Z.st Z.fg t (a / 64) := by unfold rowOf; rw [hmid]; rfl
      obtain ⟨d, hTd, hd5, hval⟩ := tab_row P5.tp P5.fg (b := nowB Z.st t (a / 64)) (by rw [hmid]; rfl)
      rw [erow] at hTd hd5
      walk_at "sq"
      walk_at "gs"
      refine fld_of hp5 TP3.cl TP3.n3 (lk_figures ..) ?_
      walk_at "gs"
      refine dget_of (k := Sum.inl (nowB Z.st t (a / 64))) P5.tp.tabs.tab hval ?_
      walk_at "gs"
      with_reducible refine S.seqQ (fun σ' H' => H' = upd H5 d (.dK (kM V.int (putRow (oldRow Z.st Z.fg t (a / 64)) (a % 64) f))) ∧
        σ' = [some (V.ref pg), some (V.int t), some (V.int a), some (V.int f), some (V.int (a / 64)), some (V.int (a % 64)), some (optV (bodyOf Z.st t (a / 64))), some (V.ref q), some (V.str (if isNew Z.st t (a / 64) = true then "make" else "look")), some (V.int (nowB Z.st t (a / 64))), some (V.ref d)]) ?_ ?_
      · rintro σ' H6 ⟨rfl, rfl⟩
        have nk : (keysA T5).Nodup := by rw [← keys_sheetsOf, P5.fg]; exact mid_nd hW.pi t (a / 64)
        have tp6 := P5.tp.wRow nk hTd (putRow (oldRow Z.st Z.fg t (a / 64)) (a % 64) f)
        have hdm : d ∈ fa5 :: addrsOf T5 := List.mem_cons_of_mem _ (addr_mem (getA_mem hTd))
        have P6 := P5.wTab2 g5.sub hdm tp6 (fun y hy => .inl (by rw [setRow_addrs] at hy; exact hy)) (fg' := figStore Z.st Z.fg t a f) (by rw [setRow_sheets (by rw [hTd]; rfl), P5.fg]; rfl)
        have g6 : Gr (allW pg pa oa fa T W1 W2) F H F5 _ := g5.step (gr_put (q := d) (o := .dK (kM V.int (putRow (oldRow Z.st Z.fg t (a / 64)) (a % 64) f))) g5.sub (P5.tp.off d hdm)) (fun x hx => by rw [List.mem_singleton.mp hx]; exact n5 d (mem_all.mpr (.inr (.inl hdm))))
        have n6 : ∀ b ∈ allW pg pa5 oa5 fa5 (setRow T5 (nowB Z.st t (a / 64)) (putRow (oldRow Z.st Z.fg t (a / 64)) (a % 64) f)) U1 U2, b ∈ allW pg pa oa fa T W1 W2 ∨ H b = none := fun b hb => n5 b (by
          rcases mem_all.mp hb with h | h | h | h
          · exact mem_all.mpr (.inl h)
          · rw [setRow_addrs] at h; exact mem_all.mpr (.inr (.inl h))
          · exact mem_all.mpr (.inr (.inr (.inl h)))
          · exact mem_all.mpr (.inr (.inr (.inr h))))
        generalize upd H5 d _ = H6 at *
        obtain ⟨dx6, hp6⟩ := P6.ob
        walk_at "gs"
        refine meth_of hp6 rfl ?_
        walk_at "gs"
        refine new_tupS g6.sub (fun c7 g7 hc7 => ?_) (by show 4 ≤ sizeLine; decide)
        have P7 := P6.gr0 g7
        generalize upd H6 c7 _ = H7 at *
        walk_at "gs"
        refine new_tupG (K := K) g7.sub (ds := [.str "store", .int t, .int (a / 64)]) (.cons (.str _) (.cons (.int _) (.cons (.int _) .nil))) (by show 3 ≤ sizeLine; decide) fun d8 F8 g8 hd8 hv8 => ?_
        have P8 := P7.gr0 g8
        generalize upd H7 d8 _ = H8 at *
        refine ⟨F8, pg, _, _, _, .ref d8, .store t (a / 64), rfl, g8.sub, ⟨r1, r2, fa5, pa5, oa5, _, U1, U2, ps5, xs5, rfl, P8⟩, hv8, by show Z.ds.length ≤ 1000; omega, fun F9 H9 go9 => ?_⟩
        exact S.next (k F9 H9 (PGo.comp g6 n6 (PGo.pre (g7.trans g8) go9)))
      · intro nx9 hrest
        walk_at "gs"
        refine S.ite (fun e => ?_) (fun e => ?_)
        · have e' : f = 0 := of_decide_eq_true e
          walk_at "gs"
          refine ⟨d, rfl, .inl ⟨_, .inl hd5⟩, ?_⟩
          walk_at "gs"
          refine ⟨_, Sum.inl (a % 64), hd5, rfl, fun v hv => ?_, fun hv => ?_⟩
          · refine hrest _ _ ⟨?_, rfl⟩
            rw [dropK_kM]
            unfold putRow
            rw [if_pos e']
          · refine hrest _ _ ⟨?_, rfl⟩
            rw [valV_kM] at hv
            have hn : getA (oldRow Z.st Z.fg t (a / 64)) (a % 64) = none := by
              cases q9 : getA (oldRow Z.st Z.fg t (a / 64)) (a % 64) with
              | none => rfl
              | some x => rw [q9] at hv; cases hv
            unfold putRow
            rw [if_pos e', drop_none hn, upd_id hd5]
        · have e' : ¬ f = 0 := of_decide_eq_false e
          walk_at "gs"
          refine dput_of (k := Sum.inl (a % 64)) hd5 (by rw [kM_len]; exact size1000000 (Nat.le_trans (row_len ho.1 ho.2) (by decide))) ?_
          refine hrest _ _ ⟨?_, rfl⟩
          rw [putK_kM]
          unfold putRow
          rw [if_neg e']
    · intro nx9 hrest
      obtain ⟨r1, r2, fa4, pa4, oa4, T4, V1, V2, ps4, xs4, rfl, P4⟩ := id hA4
      obtain ⟨dx4, hp4⟩ := P4.ob
      have e4 : sheetsOf T4 = Z.fg := P4.fg
      walk_at "gs"
      by_cases en : isNew Z.st t (a / 64) = true
      · refine S.iteT (decide_eq_true (if_pos en)) ?_
        have enb : nowB Z.st t (a / 64) = Z.st.next := if_pos en
        walk_at "gs"
        refine S.iteM (fun v H5 => ∃ dn, v = .ref dn ∧ Gr [] F4 H4 F4 H5 ∧ H4 dn = none ∧ H5 dn = some (.dK (kM V.int (oldRow Z.st Z.fg t (a / 64))))) ?_ ?_
        · rintro _ H5 ⟨dn, rfl, g5, hdn, hdd5⟩
          have P5 := P4.gr0 g5
          obtain ⟨dx5, hp5⟩ := P5.ob
          have ndn : dn ∉ allW pg pa4 oa4 fa4 T4 V1 V2 := fun z => P4.live dn z hdn
          have hnone : getA T4 (nowB Z.st t (a / 64)) = none := by
            have z := next_free hW.pi hW.bok
            rw [← enb, ← e4, getA_rows] at z
            cases q9 : getA T4 (nowB Z.st t (a / 64)) with
            | none => rfl
            | some x => rw [q9] at z; cases z
          walk_at "gs"
          refine fld_of hp5 TP3.cl TP3.n3 (lk_figures ..) ?_
          walk_at "gs"
          refine dput_of (k := Sum.inl (nowB Z.st t (a / 64))) P5.tp.tabs.tab (by rw [kM_len]; have l := congrArg List.length e4; simp only [sheetsOf, List.length_map] at l; rw [l]; exact size1000000 (by omega)) ?_
          rw [show V.ref dn = (fun x : Addr × AL Int => V.ref x.1) (dn, oldRow Z.st Z.fg t (a / 64)) from rfl, putK_kM, putA_new _ hnone]
          have fdn : F4 dn = none := sub_free g4.sub hdn
          have tp6 := P5.tp.wNew (c := nowB Z.st t (a / 64)) hdd5 (fun z => ndn (mem_all.mpr (.inr (.inl z)))) fdn
          have hadd : ∀ y ∈ fa4 :: addrsOf (T4 ++ [(nowB Z.st t (a / 64), (dn, oldRow Z.st Z.fg t (a / 64)))]), y ∈ fa4 :: addrsOf T4 ∨ y = dn := fun y hy => by
            rcases List.mem_cons.mp hy with h | h
            · exact .inl (by rw [h]; exact List.mem_cons_self)
            · unfold addrsOf at h
              rw [List.map_append] at h
              rcases List.mem_append.mp h with h | h
              · exact .inl (List.mem_cons_of_mem _ h)
              · exact .inr (List.mem_singleton.mp h)
          have P6 := P5.wTab2 g5.sub (x := fa4) List.mem_cons_self tp6 (fun y hy => by
            rcases hadd y hy with h | h
            · exact .inl h
            · rw [h]; exact .inr ⟨fun z => ndn (mem_all.mpr (.inl z)), fun z => ndn (mem_all.mpr (.inr (.inr (.inl z)))), fun z => ndn (mem_all.mpr (.inr (.inr (.inr z))))⟩) (fg' := figMid Z.st Z.fg t (a / 64)) (by
              unfold figMid
              rw [if_pos en, putA_new _ (next_free hW.pi hW.bok), ← e4, ← enb]
              unfold sheetsOf
              rw [List.map_append]
              rfl)
          refine hrest _ _ ⟨F4, _, (g4.trans g5.any).step (gr_put (q := fa4) g5.sub (P5.tp.off fa4 List.mem_cons_self)) (fun x hx => by rw [List.mem_singleton.mp hx]; exact n4 fa4 (mem_all.mpr (.inr (.inl List.mem_cons_self)))), ⟨r1, r2, fa4, pa4, oa4, _, V1, V2, ps4, xs4, rfl, P6⟩, fun b hb => ?_, rfl⟩
          rcases mem_all.mp hb with h | h | h | h
          · exact n4 b (mem_all.mpr (.inl h))
          · rcases hadd b h with h | h
            · exact n4 b (mem_all.mpr (.inr (.inl h)))
            · rw [h]; exact .inr (g4.free hdn)
          · exact n4 b (mem_all.mpr (.inr (.inr (.inl h))))
          · exact n4 b (mem_all.mpr (.inr (.inr (.inr h))))
        · intro Q9 hm9
          walk_at "gs"
          cases eb : bodyOf Z.st t (a / 64) with
          | none =>
            have eo : oldRow Z.st Z.fg t (a / 64) = [] := by unfold oldRow; rw [eb]
            refine S.iteT rfl (S.dnewK fun dn hdn => ?_)
            refine hm9 _ _ ⟨dn, rfl, Gr.newOwn g4.sub hdn, hdn, ?_⟩
            rw [eo, upd_same]
            rfl
          | some b =>
            have eo : oldRow Z.st Z.fg t (a / 64) = rowOf Z.fg b := by unfold oldRow; rw [eb]
            obtain ⟨d, hTd, hd5, hval⟩ := tab_row P4.tp e4 (b := b) ((hW.pi.fi b).mpr ⟨t, a / 64, eb⟩)
            refine S.iteF rfl ?_
            walk_at "gs"
            refine fld_of hp4 TP3.cl TP3.n3 (lk_figures ..) ?_
            walk_at "gs"
            refine dget_of (k := Sum.inl b) P4.tp.tabs.tab hval ?_
            walk_at "gs"
            refine ⟨d, _, rfl, .inl hd5, fun dn hdn => ?_⟩
            refine hm9 _ _ ⟨dn, rfl, Gr.newOwn g4.sub hdn, hdn, ?_⟩
            rw [eo, upd_same]
      · refine S.iteF (decide_eq_false (by rw [if_neg en]; decide)) ?_
        have em : figMid Z.st Z.fg t (a / 64) = Z.fg := by unfold figMid; rw [if_neg en]
        refine S.next (hrest _ _ ⟨F4, _, g4, ?_, n4, rfl⟩)
        rw [em]
        exact hA4

theorem ok_Pages_fork {P : Program} {w : World} {K : PySem.W.Frag} {mg : Str → Option Value} {base : Heap} {f : Addr} {fd : FuncData} (F : Fun K "fork" "Pages.fork" s_Pages_fork f fd) (B : Blt mg)
    {C C2 C3 : Addr} (TB : BoC K C) (TP3 : PgC K C3) (c_Pages_need_task : MCal P w K mg base CX0 3 C3 "need_task" P_Pages_need_task (spPNeedTask K C C2 C3)) (c_Bodies_can_come : MCal P w K mg base CX0 2 C "can_come" P_Bodies_can_come (spCome K C)) (c_Bodies_fork : MCal P w K mg base CX0 1 C "fork" P_Bodies_fork (spFork K C)) (c_Pages_keep : MCal P w K mg base CX0 1 C3 "keep" P_Pages_keep (spPKeep K C C2 C3))
    : FnOk P w K mg base CX0 (3 + 1) f fd P_Pages_fork (spPFork K C C2 C3) := by
  refine F.ok sc_Pages_fork (fun vs H Q E h => ?_) (fun cdv A outer s H vs Q E hr h => ?_)
  · obtain ⟨F, pg, Z, W, t, c, n, R, rfl, _⟩ := h; rfl
  · have hu := hu_of hr
    have hu64 := Room.units hr
    have cl_Pages := TP3.cl
    have cl_Bodies := TB.cl
    obtain ⟨F, pg, Z, W, t, c, n, R, rfl, sm, hA, hW, ho, k⟩ := h
    have hA0 := hA
    obtain ⟨p1, p2, fa, pa, oa, T, W1, W2, ps, xs, rfl, P0⟩ := hA
    obtain ⟨dx, hp⟩ := P0.ob
    obtain ⟨b1, b2, b3, b4, eW1, PB1⟩ := id P0.bo
    obtain ⟨dxb, hpb⟩ := PB1.ob
    have hcan : (getA Z.st.sheets t).isSome = true ∧ getA Z.st.sheets c = none := can_of hW.bok ho
    have ho2 : (thereD Z.st (.int t) && (if ("fork" : Str) = "fork" then comeD Z.st (.int c) else _)) = true := ho
    rw [if_pos rfl] at ho2
    obtain ⟨ht, hc⟩ := Bool.and_eq_true_iff.mp ho2
    have hlen := hW.len
    refine ⟨_, (pss_cons (ps_expr (pe_mcal c_Pages_need_task cl_Pages (hr.mono (by first | decide | omega)) pass0 (pv 0) (pa_cons (pv 1) pa_nil)))
      (pss_cons (ps_if (pt_not (pt_val (pe_mcal c_Bodies_can_come cl_Bodies (hr.mono (by first | decide | omega)) pass0 (pe_fld (pv 0) rfl) (pa_cons (pv 2) pa_nil)))) (pss_one (ps_never)) pss_nil)
      (pss_cons (ps_expr (pe_mcal c_Bodies_fork cl_Bodies (hr.mono (by first | decide | omega)) pass0 (pe_fld (pv 0) rfl) (pa_cons (pv 1) (pa_cons (pv 2) pa_nil))))
      (pss_one (ps_expr (pe_mcal c_Pages_keep cl_Pages (hr.mono (by first | decide | omega)) pass0 (pv 0) (pa_cons (pe_tup (pa_cons (pe_str) (pa_cons (pv 1) (pa_cons (pv 2) pa_nil)))) (pa_cons (pe_tup (pa_cons (pe_str) (pa_cons (pv 1) (pa_cons (pv 2) pa_nil)))) pa_nil)))))))), ?_⟩
    try dsimp only [cxOf, Cx.nox, Cx.wish]
    walk_at "go"
    refine meth_of hp rfl ?_
    walk_at "go"
    refine ⟨F, pg, Z, _, t, rfl, sm, hA0, ht, ?_⟩
    walk_at "go"
    refine fld_of hp TP3.cl TP3.n1 (lk_bodies ..) ?_
    refine meth_of hpb rfl ?_
    walk_at "go"
    refine ⟨F, p1, Z.st, _, _, .int c, rfl, sm, P0.bo, .int c, ?_⟩
    rw [hc]
    walk_at "go"
    refine S.iteF rfl ?_
    walk_at "go"
    refine fld_of hp TP3.cl TP3.n1 (lk_bodies ..) ?_
    refine meth_of hpb rfl ?_
    walk_at "go"
    refine ⟨F, p1, Z.st, _, t, c, rfl, sm, P0.bo, hcan.1, hcan.2, ⟨_, by omega, hW.bok⟩, fun q es F2 H2 W1' g2 hB2 hW2 hq nq fq hqq hes => ?_⟩
    have P3 := P0.setB g2 hB2 hW2
    have hsub : ∀ b ∈ allW pg pa oa fa T W1' W2, b ∈ allW pg pa oa fa T W1 W2 ∨ H b = none := fun b hb => by
      rcases mem_all.mp hb with h | h | h | h
      · exact .inl (mem_all.mpr (.inl h))
      · exact .inl (mem_all.mpr (.inr (.inl h)))
      · rcases hW2 b h with h | h
        · exact .inl (mem_all.mpr (.inr (.inr (.inl h))))
        · exact .inr h
      · exact .inl (mem_all.mpr (.inr (.inr (.inr h))))
    have g03 : Gr (allW pg pa oa fa T W1 W2) F H F2 H2 := g2.mono fun b hb => mem_all.mpr (.inr (.inr (.inl hb)))
    obtain ⟨dx3, hp3⟩ := P3.ob
    walk_at "go"
    refine meth_of hp3 rfl ?_
    walk_at "go"
    refine new_tupS g2.sub (fun c7 g7 hc7 => ?_) (by show 3 ≤ sizeLine; decide)
    have P7 := P3.gr0 g7
    generalize upd H2 c7 _ = H7 at *
    walk_at "go"
    refine new_tupG (K := K) g7.sub (ds := [.str "fork", .int t, .int c]) (.cons (.str _) (.cons (.int _) (.cons (.int _) .nil))) (by show 3 ≤ sizeLine; decide) fun d8 F8 g8 hd8 hv8 => ?_
    have P8 := P7.gr0 g8
    generalize upd H7 d8 _ = H8 at *
    refine ⟨F8, pg, _, _, _, .ref d8, .fork t c, rfl, g8.sub, ⟨p1, p2, fa, pa, oa, _, W1', W2, ps, xs, rfl, P8⟩, hv8, by show Z.ds.length ≤ 1000; omega, fun F9 H9 go9 => ?_⟩
    exact S.next (k F9 H9 (PGo.comp g03 hsub (PGo.pre (g7.trans g8) go9)))

theorem ok_Pages_end {P : Program} {w : World} {K : PySem.W.Frag} {mg : Str → Option Value} {base : Heap} {f : Addr} {fd : FuncData} (F : Fun K "end" "Pages.end" s_Pages_end f fd) (B : Blt mg)
    {C C2 C3 : Addr} (TB : BoC K C) (TP3 : PgC K C3) (c_Pages_need_task : MCal P w K mg base CX0 3 C3 "need_task" P_Pages_need_task (spPNeedTask K C C2 C3)) (c_Bodies_end : MCal P w K mg base CX0 1 C "end" P_Bodies_end (spEnd K C)) (c_Pages_come : MCal P w K mg base CX0 4 C3 "come" P_Pages_come (spPCome K C C2 C3)) (c_Pages_keep : MCal P w K mg base CX0 1 C3 "keep" P_Pages_keep (spPKeep K C C2 C3))
    : FnOk P w K mg base CX0 (4 + 1) f fd P_Pages_end (spPEnd K C C2 C3) := by
  refine F.ok sc_Pages_end (fun vs H Q E h => ?_) (fun cdv A outer s H vs Q E hr h => ?_)
  · obtain ⟨F, pg, Z, W, t, n, R, rfl, _⟩ := h; rfl
  · have hu := hu_of hr
    have hu64 := Room.units hr
    have cl_Pages := TP3.cl
    have cl_Bodies := TB.cl
    obtain ⟨F, pg, Z, W, t, n, R, rfl, sm, hA, hW, ho, k⟩ := h
    have hA0 := hA
    obtain ⟨p1, p2, fa, pa, oa, T, W1, W2, ps, xs, rfl, P0⟩ := hA
    obtain ⟨dx, hp⟩ := P0.ob
    obtain ⟨b1, b2, b3, b4, eW1, PB1⟩ := id P0.bo
    obtain ⟨dxb, hpb⟩ := PB1.ob
    have hal : (getA Z.st.sheets t).isSome = true := can_of hW.bok ho
    have ho2 : (thereD Z.st (.int t) && _) = true := ho
    obtain ⟨ht, _⟩ := Bool.and_eq_true_iff.mp ho2
    have hlen := hW.len
    refine ⟨_, (pss_cons (ps_expr (pe_mcal c_Pages_need_task cl_Pages (hr.mono (by first | decide | omega)) pass0 (pv 0) (pa_cons (pv 1) pa_nil)))
      (pss_cons (ps_set (i := 2) sc_Pages_end.nd rfl (Or.inl rfl) (pe_mcal c_Bodies_end cl_Bodies (hr.mono (by first | decide | omega)) pass0 (pe_fld (pv 0) rfl) (pa_cons (pv 1) pa_nil)))
      (pss_cons (ps_expr (pe_mcal c_Pages_come cl_Pages (hr.mono (by first | decide | omega)) pass0 (pv 0) (pa_cons (pv 2) pa_nil)))
      (pss_cons (ps_for PassesOwn.never rfl (pi_seq (pv 2)) (pg_tup rfl (pgs_cons (pg_name (i := 3) sc_Pages_end.nd rfl (Or.inl rfl) (by first | exact Or.inl rfl | exact Or.inr rfl)) (pgs_cons (pg_name (i := 4) sc_Pages_end.nd rfl (Or.inl rfl) (by first | exact Or.inl rfl | exact Or.inr rfl)) pgs_nil))) (pss_one (ps_expr (pe_dpop1 (pe_fld (pv 0) rfl) (pv 4) ⟨rfl, rfl, rfl, rfl⟩))))
      (pss_one (ps_expr (pe_mcal c_Pages_keep cl_Pages (hr.mono (by first | decide | omega)) pass0 (pv 0) (pa_cons (pe_tup (pa_cons (pe_str) (pa_cons (pv 1) pa_nil))) (pa_cons (pe_tup (pa_cons (pe_str) (pa_cons (pv 1) pa_nil))) pa_nil))))))))), ?_⟩
    try dsimp only [cxOf, Cx.nox, Cx.wish]
    walk_at "go"
    refine meth_of hp rfl ?_
    walk_at "go"
    refine ⟨F, pg, Z, _, t, rfl, sm, hA0, ht, ?_⟩
    walk_at "go"
    refine fld_of hp TP3.cl TP3.n1 (lk_bodies ..) ?_
    refine meth_of hpb rfl ?_
    walk_at "go"
    refine ⟨F, p1, Z.st, _, t, rfl, sm, P0.bo, hal, ⟨_, by omega, hW.bok⟩, fun q es F2 H2 W1' g2 hB2 hW2 hq nq fq hqq hes => ?_⟩
    have g3 : Gr W1 F H _ H2 := g2.frz hq fq hqq
    have hB3 := hB2.frz (o := .lst es) nq
    have fqq : upd F2 q (.lst es) q = some (.lst es) := upd_same
    have hes3 := hes.to (F' := upd F2 q (.lst es)) (fun b o e => by rw [upd_ne (ne_of_none e fq)]; exact e)
    have hv3 : Dp K (upd F2 q (.lst es)) (.ref q) (.list ((endE Z.st t).1.map evD)) := .lst (.inl (.inl fqq)) hes3
    generalize upd F2 q (.lst es) = F3 at *
    have P3 := P0.setB g3 hB3 hW2
    have hsub : ∀ b ∈ allW pg pa oa fa T W1' W2, b ∈ allW pg pa oa fa T W1 W2 ∨ H b = none := fun b hb => by
      rcases mem_all.mp hb with h | h | h | h
      · exact .inl (mem_all.mpr (.inl h))
      · exact .inl (mem_all.mpr (.inr (.inl h)))
      · rcases hW2 b h with h | h
        · exact .inl (mem_all.mpr (.inr (.inr (.inl h))))
        · exact .inr h
      · exact .inl (mem_all.mpr (.inr (.inr (.inr h))))
    have g03 : Gr (allW pg pa oa fa T W1 W2) F H F3 H2 := g3.mono fun b hb => mem_all.mpr (.inr (.inr (.inl hb)))
    obtain ⟨m, hm, hfo⟩ := hW.fok
    have hel := (hW.bok.fin hal).2.1
    obtain ⟨dx3, hp3⟩ := P3.ob
    walk_at "go"
    refine meth_of hp3 rfl ?_
    walk_at "go"
    refine ⟨F3, pg, _, _, .ref q, (endE Z.st t).1, rfl, g3.sub, ⟨p1, p2, fa, pa, oa, T, W1', W2, ps, xs, rfl, P3⟩, hv3, ⟨m, by omega, hfo⟩, fun F4 H4 go4 => ?_⟩
    have fs4 := go4.1.fs
    obtain ⟨g4, W4, hA4, n4⟩ := PGo.comp g03 hsub go4
    walk_at "gs"
    walk_at "sq"
    refine S.forS (S.iSeqL ?_)
    walk_at "gs"
    have hq4 : H4 q = some (.lst es) := g4.sub _ _ (fs4 _ _ fqq)
    refine ⟨q, rfl, ⟨_, SqL.of hq4⟩, ?_⟩
    have hesl := dp_len hes3
    rw [List.length_map] at hesl
    have hgm := fun b => gone_mem (b := b) hW.bok hal
    have hgn := gone_nd hW.bok hal
    refine for_it (walk_list (K := K) (a := q) (xs := es)) (fun i σ H' => ∃ F' W' o3 o4, Gr (allW pg pa oa fa T W1 W2) F H F' H' ∧ Same F4 F' ∧ PgAt K C C2 C3 F' H' pg ⟨(endE Z.st t).2, runF Z.fs (endE Z.st t).1, figFin Z.fg ((endE Z.st t).1.take i), Z.ds⟩ W' ∧ (∀ b ∈ W', b ∈ allW pg pa oa fa T W1 W2 ∨ H b = none) ∧
      σ = [some (V.ref pg), some (V.int t), some (V.ref q), o3, o4]) ?_ ?_ ?_ ?_
    · exact ⟨F4, W4, none, none, g4, Same.refl _, hA4, n4, rfl⟩
    · rintro i σ H' _ ⟨F', W', o3, o4, g, sF, _⟩
      exact SqL.of (g.sub _ _ (sF _ _ (fs4 _ _ fqq)))
    · rintro i y σ H' _ hi ⟨F', W', o3, o4, g, sF, hA', n', rfl⟩ ⟨rfl, hy⟩
      obtain ⟨dy, hdy, hyd⟩ := dp_getV hes3 hy
      rw [List.getElem?_map] at hdy
      obtain ⟨e, he⟩ : ∃ e, (endE Z.st t).1[i]? = some e := by
        cases z : (endE Z.st t).1[i]? with
        | none => rw [z] at hdy; cases hdy
        | some e => exact ⟨e, rfl⟩
      rw [he] at hdy
      obtain rfl : evD e = dy := Option.some.inj hdy
      have hyd' := hyd.to (fs4.trans sF)
      obtain ⟨wd, hwd⟩ : ∃ wd, evD e = .tuple [.str wd, .int (evB e)] := by cases e <;> exact ⟨_, rfl⟩
      rw [hwd] at hyd'
      refine S.gTup2 (K := K) hyd' g.sub fun x1 x2 hx1 hx2 => ?_
      obtain rfl := dp_str hx1
      obtain rfl := dp_int hx2
      obtain ⟨r1, r2, fa5, pa5, oa5, T5, U1, U2, ps5, xs5, rfl, P5⟩ := hA'
      obtain ⟨dx5, hp5⟩ := P5.ob
      have hmem : evB e ∈ (endE Z.st t).1.map evB := List.mem_map_of_mem (List.mem_of_getElem? he)
      have hnot : evB e ∉ ((endE Z.st t).1.take i).map evB := by
        rw [List.map_take]
        exact nodup_take hgn (by rw [List.getElem?_map, he]; rfl)
      have hk : (getA (figFin Z.fg ((endE Z.st t).1.take i)) (evB e)).isSome = true := by
        rw [figFin_get, if_neg hnot]
        obtain ⟨⟨s, e2⟩, _⟩ := (hgm (evB e)).mp hmem
        exact (hW.pi.fi _).mpr ⟨t, s, e2⟩
      obtain ⟨d, hTd, hd5, hval⟩ := tab_row P5.tp P5.fg hk
      walk_at "gs"
      refine fld_of hp5 TP3.cl TP3.n3 (lk_figures ..) ?_
      refine ⟨fa5, rfl, .inl ⟨_, .inl P5.tp.tabs.tab⟩, ?_⟩
      walk_at "gs"
      refine ⟨_, Sum.inl (evB e), _, P5.tp.tabs.tab, rfl, hval, ?_⟩
      rw [dropK_kM]
      have tp6 := P5.tp.wDrop (evB e)
      have hdr : ∀ y ∈ fa5 :: addrsOf (dropA T5 (evB e)), y ∈ fa5 :: addrsOf T5 := fun y hy => by
        rcases List.mem_cons.mp hy with h | h
        · rw [h]; exact List.mem_cons_self
        · obtain ⟨z, hz, rfl⟩ := List.mem_map.mp h
          exact List.mem_cons_of_mem _ (addr_mem (List.mem_filter.mp hz).1)
      have P6 := P5.wTab2 g.sub (x := fa5) List.mem_cons_self tp6 (fun y hy => .inl (hdr y hy)) (fg' := figFin Z.fg ((endE Z.st t).1.take (i + 1))) (by
        rw [drop_sheets, P5.fg, take_succ_get he]
        unfold figFin
        rw [List.foldl_append]
        rfl)
      refine S.next ⟨F', _, _, _, g.step (gr_put (q := fa5) g.sub (P5.tp.off fa5 List.mem_cons_self)) (fun x hx => by rw [List.mem_singleton.mp hx]; exact n' fa5 (mem_all.mpr (.inr (.inl List.mem_cons_self)))), sF, ⟨r1, r2, fa5, pa5, oa5, _, U1, U2, ps5, xs5, rfl, P6⟩, fun b hb => n' b ?_, rfl⟩
      rcases mem_all.mp hb with h | h | h | h
      · exact mem_all.mpr (.inl h)
      · exact mem_all.mpr (.inr (.inl (hdr b h)))
      · exact mem_all.mpr (.inr (.inr (.inl h)))
      · exact mem_all.mpr (.inr (.inr (.inr h)))
    · rintro σ H' ⟨F', W', o3, o4, g, sF, hA', n', rfl⟩
      rw [hesl, List.take_length] at hA'
      obtain ⟨r1, r2, fa5, pa5, oa5, T5, U1, U2, ps5, xs5, rfl, P5⟩ := hA'
      obtain ⟨dx5, hp5⟩ := P5.ob
      walk_at "gs"
      refine meth_of hp5 rfl ?_
      walk_at "gs"
      refine new_tupS g.sub (fun c7 g7 hc7 => ?_) (by show 2 ≤ sizeLine; decide)
      have P7 := P5.gr0 g7
      generalize upd H' c7 _ = H7 at *
      walk_at "gs"
      refine new_tupG (K := K) g7.sub (ds := [.str "end", .int t]) (.cons (.str _) (.cons (.int _) .nil)) (by show 2 ≤ sizeLine; decide) fun d8 F8 g8 hd8 hv8 => ?_
      have P8 := P7.gr0 g8
      generalize upd H7 d8 _ = H8 at *
      refine ⟨F8, pg, _, _, _, .ref d8, .fin t, rfl, g8.sub, ⟨r1, r2, fa5, pa5, oa5, _, U1, U2, ps5, xs5, rfl, P8⟩, hv8, by show Z.ds.length ≤ 1000; omega, fun F9 H9 go9 => ?_⟩
      exact S.next (k F9 H9 (PGo.comp g n' (PGo.pre (g7.trans g8) go9)))

theorem ok_Pages_memory {P : Program} {w : World} {K : PySem.W.Frag} {mg : Str → Option Value} {base : Heap} {f : Addr} {fd : FuncData} (F : Fun K "memory" "Pages.memory" s_Pages_memory f fd) (B : Blt mg)
    {C C2 C3 : Addr} (TB : BoC K C) (TP3 : PgC K C3) (c_Pages_need_task : MCal P w K mg base CX0 3 C3 "need_task" P_Pages_need_task (spPNeedTask K C C2 C3)) (g_IN_SHEET : GV mg "IN_SHEET" (.int 64))
    : FnOk P w K mg base CX0 (3 + 1) f fd P_Pages_memory (spPMem K C C2 C3) := by
  refine F.ok sc_Pages_memory (fun vs H Q E h => ?_) (fun cdv A outer s H vs Q E hr h => ?_)
  · obtain ⟨F, pg, Z, W, t, n, R, rfl, _⟩ := h; rfl
  · have hu := hu_of hr
    have hu64 := Room.units hr
    have cl_Pages := TP3.cl
    have cl_Bodies := TB.cl
    obtain ⟨F, pg, Z, W, t, n, R, rfl, sm, hA, hW, ht, k⟩ := h
    have hA0 := hA
    obtain ⟨p1, p2, fa, pa, oa, T, W1, W2, ps, xs, rfl, P0⟩ := hA
    obtain ⟨dx, hp⟩ := P0.ob
    obtain ⟨ba, bb, bm, BT, eW1, PB⟩ := id P0.bo
    obtain ⟨dxb, hpb⟩ := PB.ob
    obtain ⟨r1, _, r3⟩ := row_ok hW.bok t
    have hmem := memS_ok hW t
    have hlen := hW.len
    obtain ⟨row, hrow⟩ := getA_len (thereD_in ht).2
    have erow : (getA Z.st.sheets t).getD [] = row := by rw [hrow]; rfl
    rw [erow] at r1 r3 hmem
    obtain ⟨bd, hBT, _⟩ : ∃ d, getA BT t = some (d, row) ∧ True := by
      obtain ⟨d, row', h1, h2⟩ := tab_of PB.eq (t := t) (by rw [hrow]; rfl)
      rw [hrow] at h2
      exact ⟨d, by rw [h1, ← Option.some.inj h2], trivial⟩
    refine ⟨_, (pss_cons (ps_expr (pe_mcal c_Pages_need_task cl_Pages (hr.mono (by first | decide | omega)) pass0 (pv 0) (pa_cons (pv 1) pa_nil)))
      (pss_cons (ps_set (i := 2) sc_Pages_memory.nd rfl (Or.inl rfl) (pe_lst pa_nil))
      (pss_cons (ps_for PassesOwn.never rfl (pi_seq (pe_sortedItems rfl (pe_dget hu (pe_fld (pe_fld (pv 0) rfl) rfl) (pv 1) (fun _ _ => rfl)) rfl B.m_sorted)) (pg_tup rfl (pgs_cons (pg_name (i := 3) sc_Pages_memory.nd rfl (Or.inr rfl) (by first | exact Or.inl rfl | exact Or.inr rfl)) (pgs_cons (pg_name (i := 4) sc_Pages_memory.nd rfl (Or.inl rfl) (by first | exact Or.inl rfl | exact Or.inr rfl)) pgs_nil))) (pss_cons (ps_set (i := 5) sc_Pages_memory.nd rfl (Or.inl rfl) (pe_sortedItems rfl (pe_dget hu (pe_fld (pv 0) rfl) (pv 4) (fun _ _ => rfl)) rfl B.m_sorted))
      (pss_one (ps_expr (pe_bm PySem.F.plainAttrs_list PySem.F.slot_list_extend PySem.F.type_list_extend mt_extend (pv 2) (pa_cons (pe_lc (own := [("place", 6), ("figure", 7)]) rfl sc_Pages_memory.nd (pi_seq (pv 5)) (blkOk_by (N := N_Pages_memory) (sc := defScope s_Pages_memory) (by decide +kernel)) (fun _ _ _ _ _ => (pg_tupK (K := K) (n := 2) rfl rfl (pgs_cons (pg_name (i := 6) sc_Pages_memory.nd rfl (Or.inl rfl) (by first | exact Or.inl rfl | exact Or.inr rfl)) (pgs_cons (pg_name (i := 7) sc_Pages_memory.nd rfl (Or.inl rfl) (by first | exact Or.inl rfl | exact Or.inr rfl)) pgs_nil)))) (fun _ _ _ _ _ => pts_nil) (fun _ _ _ _ _ => (pe_tup (pa_cons (pe_op (op_addUK (K := K) rfl) (pe_op op_mulW (pe_gv g_IN_SHEET) (pv 3)) (pv 6)) (pa_cons (pv 7) pa_nil))))) pa_nil))))))
      (pss_one (ps_ret (pe_callTy call_tuple_of rfl B.m_tuple (by decide +kernel) (pa_cons (pv 2) pa_nil))))))), ?_⟩
    try dsimp only [cxOf, Cx.nox, Cx.wish]
    walk_at "sq"
    walk_at "gs"
    refine meth_of hp rfl ?_
    walk_at "gs"
    refine ⟨F, pg, Z, _, t, rfl, sm, hA0, ht, ?_⟩
    walk_at "gs"
    walk_at "sq"
    walk_at "gs"
    refine own_lstG sm (by show 0 ≤ sizeLine; decide) fun fo g1 hfo ffo hfoo => ?_
    have P1 := P0.gr0 g1
    have PB1 := PB.gr g1 fun _ _ z => nomatch z
    generalize upd H fo _ = H1 at *
    obtain ⟨dx1, hp1⟩ := P1.ob
    obtain ⟨dxb1, hpb1⟩ := PB1.ob
    walk_at "gs"
    walk_at "sq"
    refine S.forS (S.iSeqL (S.sitems ?_))
    walk_at "gs"
    refine fld_of hp1 TP3.cl TP3.n1 (lk_bodies ..) ?_
    refine fld_of hpb1 TB.cl TB.n1 (lk_sheets ..) ?_
    walk_at "gs"
    refine dget_of (k := Sum.inl t) PB1.tabs.tab (by rw [valV_kM, hBT]; rfl) ?_
    refine sorted_items (sh := row) (PB1.tabs.rows _ (getA_mem hBT)) fun H2 L ys k2 sm2 hL hLL hy hs hperm hnd => ?_
    have eys : ys.map k2 = rowsS row := rowsS_uniq r1 hperm (srtd_leP hs)
    have g2 : Gr [] F H1 F H2 := Gr.ofSame g1.sub sm2
    have P2 := P1.gr0 g2
    have hfo2 := g2.at0 hfoo
    have g02 := g1.trans g2
    refine ⟨L, rfl, ⟨_, SqL.of hLL⟩, ?_⟩
    have hyl : ys.length = row.length := by rw [← rowsS_len, ← eys, List.length_map]
    have hrl : row.length ≤ 99 := Nat.le_trans r3 hlen
    have nLf : L ≠ fo := fun z => by rw [z, hfoo] at hL; cases hL
    have nW : ∀ x ∈ allW pg pa oa fa T W1 W2, x ∉ [fo] := fun x hx z => P0.live x hx (by rw [List.mem_singleton.mp z]; exact hfo)
    refine for_it (walk_list (K := K) (a := L) (xs := ys)) (fun i σ H' => ∃ F' acc o3 o4 o5 o6 o7, Gr [fo] F H2 F' H' ∧ F' fo = none ∧ H' fo = some (.lst acc) ∧ PairsIn F' acc (memP ((rowsS row).take i) fun b => rowsS (rowOf Z.fg b)) ∧ acc.length ≤ 64 * i ∧
      σ = [some (V.ref pg), some (V.int t), some (V.ref fo), o3, o4, o5, o6, o7]) ?_ ?_ ?_ ?_
    · exact ⟨F, [], none, none, none, none, none, Gr.refl g2.sub, ffo, hfo2, trivial, Nat.le_refl _, rfl⟩
    · rintro i σ H' _ ⟨F', acc, o3, o4, o5, o6, o7, g, _⟩
      exact SqL.of (g.at (by simp [nLf]) hLL)
    · rintro i y σ H0 H' hi ⟨F', acc, o3, o4, o5, o6, o7, g, ffo', hfo', hpa, hal, rfl⟩ ⟨rfl, hyx⟩
      obtain ⟨ty, rfl, hty1, _, hty2⟩ := hy y (List.mem_of_getElem? hyx)
      have nty : ty ≠ fo := fun z => by rw [z, hfoo] at hty1; cases hty1
      have hr : (rowsS row)[i]? = some (k2 (.ref ty)) := by rw [← eys, List.getElem?_map, hyx]; rfl
      generalize hkk : k2 (.ref ty) = kk at *
      obtain ⟨s, b⟩ := kk
      have hsb : (s, b) ∈ row := (rowsS_perm r1).mem_iff.mp (List.mem_of_getElem? hr)
      have hbo : bodyOf Z.st t s = some b := by unfold bodyOf; rw [erow]; exact getA_of_mem r1 hsb
      have hty : H' ty = some (.tup [.int s, .int b]) := g.at (by simp [nty]) hty2
      have P' := P2.gr g nW
      obtain ⟨dx', hp'⟩ := P'.ob
      obtain ⟨d, hTd, hd5, hval⟩ := tab_row P'.tp P'.fg (b := b) ((hW.pi.fi b).mpr ⟨t, s, hbo⟩)
      have hpr := hW.pi.row b
      refine S.gTupO hty rfl ?_
      walk_at "gs"
      walk_at "sq"
      walk_at "gs"
      refine S.sitems ?_
      walk_at "gs"
      refine fld_of hp' TP3.cl TP3.n3 (lk_figures ..) ?_
      walk_at "gs"
      refine dget_of (k := Sum.inl b) P'.tp.tabs.tab hval ?_
      refine sorted_items (sh := rowOf Z.fg b) hd5 fun H5 L5 zs k5 sm5 hL5 hLL5 hz hs5 hperm5 hnd5 => ?_
      have ez : zs.map k5 = rowsS (rowOf Z.fg b) := rowsS_uniq hpr.1 hperm5 (srtd_leP hs5)
      have g5 : Gr [] F' H' F' H5 := Gr.ofSame g.sub sm5
      have hfo5 := g5.at0 hfo'
      have hzl : zs.length ≤ 64 := by
        have := row_len hpr.1 hpr.2
        rw [← rowsS_len, ← ez, List.length_map] at this
        exact this
      have hil : i < 99 := by omega
      obtain ⟨s0, s1⟩ := hW.rows hbo
      walk_at "gs"
      refine S.tyO hfo5 ?_
      walk_at "gs"
      refine S.lcS (S.iSeqL ?_)
      walk_at "gs"
      refine ⟨L5, rfl, ⟨_, SqL.of hLL5⟩, fun D hD => ?_⟩
      have fD := sub_free g5.sub hD
      refine lc_it (walk_list (K := K) (a := L5) (xs := zs)) (fun j H6 => ∃ F6 acc6, Gr [] F' H5 F6 H6 ∧ F6 D = none ∧ H6 D = some (.lst acc6) ∧ PairsIn F6 acc6 (cellsP s ((rowsS (rowOf Z.fg b)).take j)) ∧ acc6.length ≤ j)
        ⟨F', [], Gr.newOwn g5.sub hD, fD, upd_same, trivial, Nat.le_refl _⟩ ?_ ?_ ?_
      · rintro j H6 _ ⟨F6, acc6, g6, _⟩
        exact SqL.of (g6.at0 hLL5)
      · rintro j z H9 H6 hj ⟨F6, acc6, g6, fD6, hD6, hp6, hal6⟩ ⟨rfl, hzx⟩
        obtain ⟨tz, rfl, hz1, _, hz2⟩ := hz z (List.mem_of_getElem? hzx)
        have hc : (rowsS (rowOf Z.fg b))[j]? = some (k5 (.ref tz)) := by rw [← ez, List.getElem?_map, hzx]; rfl
        generalize hk9 : k5 (.ref tz) = kc at *
        obtain ⟨c, f⟩ := kc
        refine S.gTupO (g6.at0 hz2) rfl ?_
        walk_at "gs"
        refine ⟨rfl, ?_⟩
        refine S.yes (S.iteT rfl ?_)
        walk_at "gs"
        refine S.rI (wide_mul (a := 7) (b := 7) (by decide) (abs_lt (n := 7) s0 (by show s < 128; omega)) (by decide) (by decide) (by decide)) ?_
        walk_at "gs"
        refine ⟨by show 2 ≤ sizeLine; decide, fun t9 ht9 => ?_⟩
        have g7 : Gr [] F6 H6 _ _ := Gr.new (o := .tup [V.int (64 * s + c), V.int f]) g6.sub ht9
        have hD7 := g7.at0 hD6
        have fD7 := g7.own D fD6 (by rw [hD6]; exact fun z => nomatch z)
        have ft : upd F6 t9 (.tup [V.int (64 * s + c), V.int f]) t9 = _ := upd_same
        refine ⟨acc6, hD7, size1000000 (by omega), _, acc6 ++ [.ref t9], (g6.trans g7).poke hD fD7, fD7, upd_same, ?_, by simp; omega⟩
        rw [take_succ_get hc]
        unfold cellsP
        rw [List.map_append]
        exact PairsIn.app (hp6.to g7.fs) ⟨⟨t9, rfl, ft⟩, trivial⟩
      · rintro H6 ⟨F6, acc6, g6, fD6, hD6, hp6, hal6⟩
        have hfo6 := g6.at0 hfo5
        have ffo6 : F6 fo = none := g6.own fo ffo' (by rw [hfo5]; exact fun z => nomatch z)
        walk_at "gs"
        refine S.extO hfo6 hD6 (app_len (n := 64 * 99) (m := 64) (by omega) (by omega) (by decide)) ?_
        have hlz : zs.length = (rowsS (rowOf Z.fg b)).length := by rw [← ez, List.length_map]
        rw [hlz, List.take_length] at hp6
        refine S.next ⟨F6, acc ++ acc6, _, _, _, _, _, ((g.trans g5.any).trans g6.any).put (by simp) ffo6, ffo6, upd_same, ?_, by simp; omega, rfl⟩
        rw [take_succ_get hr, memP_snoc]
        exact PairsIn.app (hpa.to (g5.fs.trans g6.fs)) hp6
    · rintro σ H' ⟨F', acc, o3, o4, o5, o6, o7, g, ffo', hfo', hpa, hal, rfl⟩
      have hlz : ys.length = (rowsS row).length := by rw [← eys, List.length_map]
      rw [hlz, List.take_length] at hpa
      have gA := g02.fresh g (by simp [hfo])
      walk_at "gs"
      have hdp : DpAll K F' acc ((acc.map (pk F')).map prZ) := dp_pairs fun y hy => hpa.at_ y hy
      rw [hpa.ks] at hdp
      refine ⟨fo, acc, rfl, .inl ⟨SqL.of hfo', made_tupG (K := K) gA.sub hdp fun l F8 g8 hl hv => ?_⟩⟩
      exact k _ F8 _ _ (gA.trans g8) hmem hv

theorem ok_Pages_deeds {P : Program} {w : World} {K : PySem.W.Frag} {mg : Str → Option Value} {base : Heap} {f : Addr} {fd : FuncData} (F : Fun K "deeds" "Pages.deeds" s_Pages_deeds f fd) (B : Blt mg)
    {C C2 C3 : Addr} (TP3 : PgC K C3)
    : FnOk P w K mg base CX0 (0 + 1) f fd P_Pages_deeds (spPDeeds K C C2 C3) := by
  refine F.ok sc_Pages_deeds (fun vs H Q E h => ?_) (fun cdv A outer s H vs Q E hr h => ?_)
  · obtain ⟨F, pg, Z, W, rfl, _⟩ := h; rfl
  · have hu := hu_of hr
    have hu64 := Room.units hr
    have cl_Pages := TP3.cl
    obtain ⟨F, pg, Z, W, rfl, sm, hA, k⟩ := h
    obtain ⟨p1, p2, fa, pa, oa, T, W1, W2, ps, xs, rfl, P0⟩ := hA
    obtain ⟨dx, hp⟩ := P0.ob
    refine ⟨_, (pss_one (ps_ret (pe_callTy call_tuple_of rfl B.m_tuple (by decide +kernel) (pa_cons (pe_fld (pv 0) rfl) pa_nil)))), ?_⟩
    try dsimp only [cxOf, Cx.nox, Cx.wish]
    walk_at "go"
    refine fld_of hp TP3.cl TP3.n5 (lk_on ..) ?_
    refine ⟨oa, xs, rfl, .inl ⟨SqL.of P0.ol, made_tupG (K := K) sm P0.dx fun l F2 g2 hl hv => ?_⟩⟩
    exact k _ F2 _ g2 hv

theorem ok_Pages_misses {P : Program} {w : World} {K : PySem.W.Frag} {mg : Str → Option Value} {base : Heap} {f : Addr} {fd : FuncData} (F : Fun K "misses" "Pages.misses" s_Pages_misses f fd) (B : Blt mg)
    {C C2 C3 : Addr} (TF : FrC K C2) (TP3 : PgC K C3)
    : FnOk P w K mg base CX0 (0 + 1) f fd P_Pages_misses (spPMisses K C C2 C3) := by
  refine F.ok sc_Pages_misses (fun vs H Q E h => ?_) (fun cdv A outer s H vs Q E hr h => ?_)
  · obtain ⟨F, pg, Z, W, rfl, _⟩ := h; rfl
  · have hu := hu_of hr
    have hu64 := Room.units hr
    have cl_Pages := TP3.cl
    obtain ⟨F, pg, Z, W, rfl, sm, hA, k⟩ := h
    obtain ⟨p1, p2, fa, pa, oa, T, W1, W2, ps, xs, rfl, P0⟩ := hA
    obtain ⟨dx, hp⟩ := P0.ob
    obtain ⟨vv, r, mm, rfl, PF⟩ := id P0.fr
    obtain ⟨dx2, hp2⟩ := PF.ob
    refine ⟨_, (pss_one (ps_ret (pe_fld (pe_fld (pv 0) rfl) rfl))), ?_⟩
    try dsimp only [cxOf, Cx.nox, Cx.wish]
    walk_at "go"
    refine fld_of hp TP3.cl TP3.n2 (lk_present ..) ?_
    refine fld_of hp2 TF.cl TF.n5 (lk_missed ..) ?_
    exact k

theorem ok_Pages_inside {P : Program} {w : World} {K : PySem.W.Frag} {mg : Str → Option Value} {base : Heap} {f : Addr} {fd : FuncData} (F : Fun K "inside" "Pages.inside" s_Pages_inside f fd) (B : Blt mg)
    {C C2 C3 : Addr} (TF : FrC K C2) (TP3 : PgC K C3) (c_Frames_inside : MCal P w K mg base CX0 1 C2 "inside" P_Frames_inside (spInside K C2))
    : FnOk P w K mg base CX0 (1 + 1) f fd P_Pages_inside (spPInside K C C2 C3) := by
  refine F.ok sc_Pages_inside (fun vs H Q E h => ?_) (fun cdv A outer s H vs Q E hr h => ?_)
  · obtain ⟨F, pg, Z, W, rfl, _⟩ := h; rfl
  · have hu := hu_of hr
    have hu64 := Room.units hr
    have cl_Pages := TP3.cl
    have cl_Frames := TF.cl
    obtain ⟨F, pg, Z, W, rfl, sm, hA, k⟩ := h
    obtain ⟨p1, p2, fa, pa, oa, T, W1, W2, ps, xs, rfl, P0⟩ := hA
    obtain ⟨dx, hp⟩ := P0.ob
    obtain ⟨vv, r, mm, rfl, PF⟩ := id P0.fr
    obtain ⟨dx2, hp2⟩ := PF.ob
    refine ⟨_, (pss_one (ps_ret (pe_mcal0 c_Frames_inside cl_Frames (hr.mono (by first | decide | omega)) pass0 (pe_fld (pv 0) rfl)))), ?_⟩
    try dsimp only [cxOf, Cx.nox, Cx.wish]
    walk_at "go"
    refine fld_of hp TP3.cl TP3.n2 (lk_present ..) ?_
    refine meth_of hp2 rfl ?_
    walk_at "go"
    exact ⟨F, p2, Z.fs, _, rfl, sm, P0.fr, k⟩

theorem ok_Pages_body {P : Program} {w : World} {K : PySem.W.Frag} {mg : Str → Option Value} {base : Heap} {f : Addr} {fd : FuncData} (F : Fun K "body" "Pages.body" s_Pages_body f fd) (B : Blt mg)
    {C C2 C3 : Addr} (TB : BoC K C) (TP3 : PgC K C3) (c_Pages_need_task : MCal P w K mg base CX0 3 C3 "need_task" P_Pages_need_task (spPNeedTask K C C2 C3)) (c_Bodies_body : MCal P w K mg base CX0 1 C "body" P_Bodies_body (spBody C))
    : FnOk P w K mg base CX0 (3 + 1) f fd P_Pages_body (spPBody K C C2 C3) := by
  refine F.ok sc_Pages_body (fun vs H Q E h => ?_) (fun cdv A outer s H vs Q E hr h => ?_)
  · obtain ⟨F, pg, Z, W, t, s, rfl, _⟩ := h; rfl
  · have hu := hu_of hr
    have hu64 := Room.units hr
    have cl_Pages := TP3.cl
    have cl_Bodies := TB.cl
    obtain ⟨F, pg, Z, W, t, s, rfl, sm, hA, ht, k⟩ := h
    have hA0 := hA
    obtain ⟨p1, p2, fa, pa, oa, T, W1, W2, ps, xs, rfl, P0⟩ := hA
    obtain ⟨dx, hp⟩ := P0.ob
    obtain ⟨b1, b2, b3, b4, rfl, PB⟩ := id P0.bo
    obtain ⟨dx1, hp1⟩ := PB.ob
    refine ⟨_, (pss_cons (ps_expr (pe_mcal c_Pages_need_task cl_Pages (hr.mono (by first | decide | omega)) pass0 (pv 0) (pa_cons (pv 1) pa_nil)))
      (pss_one (ps_ret (pe_mcal c_Bodies_body cl_Bodies (hr.mono (by first | decide | omega)) pass0 (pe_fld (pv 0) rfl) (pa_cons (pv 1) (pa_cons (pv 2) pa_nil)))))), ?_⟩
    try dsimp only [cxOf, Cx.nox, Cx.wish]
    walk_at "go"
    refine meth_of hp rfl ?_
    walk_at "go"
    refine ⟨F, pg, Z, _, t, rfl, sm, hA0, ht, ?_⟩
    walk_at "go"
    refine fld_of hp TP3.cl TP3.n1 (lk_bodies ..) ?_
    refine meth_of hp1 rfl ?_
    walk_at "go"
    exact ⟨F, p1, Z.st, _, t, s, rfl, P0.bo, (thereD_in ht).2, k⟩

theorem ok_Pages___init__ {P : Program} {w : World} {K : PySem.W.Frag} {mg : Str → Option Value} {base : Heap} {f : Addr} {fd : FuncData} (F : Fun K "__init__" "Pages.__init__" s_Pages___init__ f fd) (B : Blt mg)
    {C C2 C3 : Addr} (TB : BoC K C) (TF : FrC K C2) (TP3 : PgC K C3) (c_need_frames : Cal P w K mg base CX0 2 "need_frames" P_need_frames (spNeedFrames K)) (c_need_rule : Cal P w K mg base CX0 4 "need_rule" P_need_rule (spNeedRule K)) (c_Bodies : CCal P w K mg base CX0 1 C "Bodies" P_Bodies___init__ (spInit C)) (c_Frames : CCal P w K mg base CX0 1 C2 "Frames" P_Frames___init__ (spFInit K C2))
    : FnOk P w K mg base CX0 (5 + 1) f fd P_Pages___init__ (spPInit K C C2 C3) := by
  refine F.ok sc_Pages___init__ (fun vs H Q E h => ?_) (fun cdv A outer s H vs Q E hr h => ?_)
  · obtain ⟨F, pg, dx, n, u, R, rfl, _⟩ := h; rfl
  · have hu := hu_of hr
    have hu64 := Room.units hr
    have cl_Pages := TP3.cl
    have cl_Bodies := TB.cl
    have cl_Frames := TF.cl
    obtain ⟨F, pg, dx, n, u, R, rfl, sm, fpg, hpg, hu', hR, hn1, hn2, k⟩ := h
    refine ⟨_, (pss_cons (ps_expr (pe_cal c_need_frames (hr.mono (by first | decide | omega)) pass0 (pa_cons (pv 1) pa_nil)))
      (pss_cons (ps_expr (pe_cal c_need_rule (hr.mono (by first | decide | omega)) pass0 (pa_cons (pv 2) pa_nil)))
      (pss_cons (ps_fld (pv 0) (pe_ccal0 c_Bodies (hr.mono (by first | decide | omega)) pass0) rfl)
      (pss_cons (ps_fld (pv 0) (pe_ccal c_Frames (hr.mono (by first | decide | omega)) pass0 (pa_cons (pv 1) (pa_cons (pv 2) pa_nil))) rfl)
      (pss_cons (ps_fld (pv 0) (pe_dnewK) rfl)
      (pss_cons (ps_fld (pv 0) (pe_lst pa_nil) rfl)
      (pss_one (ps_fld (pv 0) (pe_lst pa_nil) rfl)))))))), ?_⟩
    try dsimp only [cxOf, Cx.nox, Cx.wish]
    walk_at "sq"
    walk_at "gs"
    refine ⟨n, rfl, hn1, hn2, ?_⟩
    walk_at "gs"
    walk_at "sq"
    walk_at "gs"
    refine ⟨F, u, R, rfl, sm, hu', hR, fun F1 H1 g1 => ?_⟩
    have hpg1 := g1.at0 hpg
    have fpg1 : F1 pg = none := g1.own pg fpg (by rw [hpg]; exact fun z => nomatch z)
    walk_at "gs"
    walk_at "sq"
    walk_at "gs"
    intro p1 dxb hp0 hdx0 ndx
    have gA : Gr [] F1 H1 F1 _ := (Gr.newOwn (o := .own p1) g1.sub hdx0).poke (q := p1) (o := .ins C dxb []) hp0 (sub_free g1.sub hp0)
    have hp1 : upd (upd H1 dxb (.own p1)) p1 (.ins C dxb []) p1 = _ := upd_same
    generalize upd (upd H1 dxb (.own p1)) p1 (.ins C dxb []) = Ha at *
    refine ⟨F1, p1, dxb, rfl, gA.sub, sub_free g1.sub hp0, hp1, fun F2 H2 W1 g2 hB2 hW2 => ⟨rfl, ?_⟩⟩
    have g12 : Gr [] F1 H1 F2 H2 := gA.fresh g2 fun x hx => by rw [List.mem_singleton.mp hx]; exact hp0
    have hW1 : ∀ b ∈ W1, H1 b = none := fun b hb => (hW2 b hb).elim (fun e => by rw [e]; exact hp0) gA.free
    have hpg2 := g12.at0 hpg1
    have fpg2 : F2 pg = none := g12.own pg fpg1 (by rw [hpg1]; exact fun z => nomatch z)
    have npW1 : ∀ x ∈ W1, x ∉ [pg] := fun x hx z => by
      have y := hW1 x hx
      rw [List.mem_singleton.mp z, hpg1] at y
      cases y
    walk_at "gs"
    refine ⟨pg, C3, dx, _, rfl, hpg2, TP3.cl, TP3.n1, (by show 0 < 1000; decide), ?_⟩
    rw [show putF "bodies" (V.ref p1) [] = [(("bodies" : Str), V.ref p1)] from rfl]
    have g3 : Gr [pg] F2 H2 F2 _ := gr_put (o := .ins C3 dx [(("bodies" : Str), V.ref p1)]) g12.sub fpg2
    have hB3 := hB2.gr g3 npW1
    have hpg3 : upd H2 pg (.ins C3 dx [(("bodies" : Str), V.ref p1)]) pg = _ := upd_same
    generalize upd H2 pg _ = H3 at *
    have g13 : Gr [pg] F1 H1 F2 H3 := g12.any.trans g3
    walk_at "gs"
    walk_at "sq"
    walk_at "gs"
    -- present
    intro p2 dxf hp20 hdx20 ndx2
    have gC : Gr [] F2 H3 F2 _ := (Gr.newOwn (o := .own p2) g3.sub hdx20).poke (q := p2) (o := .ins C2 dxf []) hp20 (sub_free g3.sub hp20)
    have hp2 : upd (upd H3 dxf (.own p2)) p2 (.ins C2 dxf []) p2 = _ := upd_same
    generalize upd (upd H3 dxf (.own p2)) p2 (.ins C2 dxf []) = Hc at *
    have s12 := g1.fs.trans g12.fs
    refine ⟨F2, p2, dxf, n, u, R, rfl, gC.sub, sub_free g3.sub hp20, hp2, hu'.to s12, fun F4 H4 W2 g4 hA4 hW4 => ⟨rfl, ?_⟩⟩
    have g34 : Gr [] F2 H3 F4 H4 := gC.fresh g4 fun x hx => by rw [List.mem_singleton.mp hx]; exact hp20
    have hW2' : ∀ b ∈ W2, H3 b = none := fun b hb => (hW4 b hb).elim (fun e => by rw [e]; exact hp20) gC.free
    have hB4 := hB3.gr0 g34
    have hpg4 := g34.at0 hpg3
    have fpg4 : F4 pg = none := g34.own pg fpg2 (by rw [hpg3]; exact fun z => nomatch z)
    have npW2 : ∀ x ∈ W2, x ∉ [pg] := fun x hx z => by
      have y := hW2' x hx
      rw [List.mem_singleton.mp z, hpg3] at y
      cases y
    have n12 : ∀ x ∈ W1, x ∉ W2 := fun x hx z => hB3.live x hx (hW2' x z)
    walk_at "gs"
    refine ⟨pg, C3, dx, _, rfl, hpg4, TP3.cl, TP3.n2, (by show 1 < 1000; decide), ?_⟩
    rw [show putF "present" (V.ref p2) [(("bodies" : Str), V.ref p1)] = [(("bodies" : Str), V.ref p1), (("present" : Str), V.ref p2)] from rfl]
    have g5 : Gr [pg] F4 H4 F4 _ := gr_put (o := .ins C3 dx [(("bodies" : Str), V.ref p1), (("present" : Str), V.ref p2)]) g34.sub fpg4
    have hB5 := hB4.gr g5 npW1
    have hA5 := hA4.gr g5 npW2
    have hpg5 : upd H4 pg (.ins C3 dx [(("bodies" : Str), V.ref p1), (("present" : Str), V.ref p2)]) pg = _ := upd_same
    generalize upd H4 pg _ = H5 at *
    have g15 : Gr [pg] F1 H1 F4 H5 := (g13.trans g34.any).trans g5
    walk_at "gs"
    walk_at "sq"
    walk_at "gs"
    -- figures
    refine S.dnewK fun fa hfa => ?_
    have g6 : Gr [] F4 H5 F4 _ := Gr.newOwn (o := .dK []) g5.sub hfa
    have hfa6 : upd H5 fa (.dK []) fa = _ := upd_same
    have hB6 := hB5.gr0 g6
    have hA6 := hA5.gr0 g6
    have hpg6 := g6.at0 hpg5
    have ffa := sub_free g5.sub hfa
    have nfp : fa ≠ pg := fun z => by rw [z, hpg5] at hfa; cases hfa
    have nf1 : fa ∉ W1 := fun z => hB5.live fa z hfa
    have nf2 : fa ∉ W2 := fun z => hA5.live fa z hfa
    generalize upd H5 fa _ = H6 at *
    walk_at "gs"
    refine ⟨pg, C3, dx, _, rfl, hpg6, TP3.cl, TP3.n3, (by show 2 < 1000; decide), ?_⟩
    rw [show putF "figures" (V.ref fa) [(("bodies" : Str), V.ref p1), (("present" : Str), V.ref p2)] = [(("bodies" : Str), V.ref p1), (("present" : Str), V.ref p2), (("figures" : Str), V.ref fa)] from rfl]
    have g7 : Gr [pg] F4 H6 F4 _ := gr_put (o := .ins C3 dx [(("bodies" : Str), V.ref p1), (("present" : Str), V.ref p2), (("figures" : Str), V.ref fa)]) g6.sub fpg4
    have hB7 := hB6.gr g7 npW1
    have hA7 := hA6.gr g7 npW2
    have hfa7 := g7.at (by simp [nfp]) hfa6
    have hpg7 : upd H6 pg (.ins C3 dx [(("bodies" : Str), V.ref p1), (("present" : Str), V.ref p2), (("figures" : Str), V.ref fa)]) pg = _ := upd_same
    generalize upd H6 pg _ = H7 at *
    have g17 : Gr [pg] F1 H1 F4 H7 := (g15.trans g6.any).trans g7
    walk_at "gs"
    walk_at "sq"
    walk_at "gs"
    -- past
    refine own_lstG g7.sub (by show 0 ≤ sizeLine; decide) fun pa g8 hpa fpa hpaa => ?_
    have hB8 := hB7.gr0 g8
    have hA8 := hA7.gr0 g8
    have hpg8 := g8.at0 hpg7
    have hfa8 := g8.at0 hfa7
    have npp : pa ≠ pg := fun z => by rw [z, hpg7] at hpa; cases hpa
    have npf : pa ≠ fa := fun z => by rw [z, hfa7] at hpa; cases hpa
    have np1 : pa ∉ W1 := fun z => hB7.live pa z hpa
    have np2 : pa ∉ W2 := fun z => hA7.live pa z hpa
    generalize upd H7 pa _ = H8 at *
    walk_at "gs"
    refine ⟨pg, C3, dx, _, rfl, hpg8, TP3.cl, TP3.n4, (by show 3 < 1000; decide), ?_⟩
    rw [show putF "past" (V.ref pa) [(("bodies" : Str), V.ref p1), (("present" : Str), V.ref p2), (("figures" : Str), V.ref fa)] = [(("bodies" : Str), V.ref p1), (("present" : Str), V.ref p2), (("figures" : Str), V.ref fa), (("past" : Str), V.ref pa)] from rfl]
    have g9 : Gr [pg] F4 H8 F4 _ := gr_put (o := .ins C3 dx [(("bodies" : Str), V.ref p1), (("present" : Str), V.ref p2), (("figures" : Str), V.ref fa), (("past" : Str), V.ref pa)]) g8.sub fpg4
    have hB9 := hB8.gr g9 npW1
    have hA9 := hA8.gr g9 npW2
    have hfa9 := g9.at (by simp [nfp]) hfa8
    have hpa9 := g9.at (by simp [npp]) hpaa
    have hpg9 : upd H8 pg (.ins C3 dx [(("bodies" : Str), V.ref p1), (("present" : Str), V.ref p2), (("figures" : Str), V.ref fa), (("past" : Str), V.ref pa)]) pg = _ := upd_same
    generalize upd H8 pg _ = H9 at *
    have g19 : Gr [pg] F1 H1 F4 H9 := (g17.trans g8.any).trans g9
    walk_at "gs"
    -- on_sheets
    refine own_lstG g9.sub (by show 0 ≤ sizeLine; decide) fun oa g10 hoa foa hoaa => ?_
    have hB10 := hB9.gr0 g10
    have hA10 := hA9.gr0 g10
    have hpg10 := g10.at0 hpg9
    have hfa10 := g10.at0 hfa9
    have hpa10 := g10.at0 hpa9
    have nop : oa ≠ pg := fun z => by rw [z, hpg9] at hoa; cases hoa
    have nof : oa ≠ fa := fun z => by rw [z, hfa9] at hoa; cases hoa
    have nopa : oa ≠ pa := fun z => by rw [z, hpa9] at hoa; cases hoa
    have no1 : oa ∉ W1 := fun z => hB9.live oa z hoa
    have no2 : oa ∉ W2 := fun z => hA9.live oa z hoa
    generalize upd H9 oa _ = H10 at *
    walk_at "gs"
    refine ⟨pg, C3, dx, _, rfl, hpg10, TP3.cl, TP3.n5, (by show 4 < 1000; decide), ?_⟩
    rw [show putF "on_sheets" (V.ref oa) [(("bodies" : Str), V.ref p1), (("present" : Str), V.ref p2), (("figures" : Str), V.ref fa), (("past" : Str), V.ref pa)] = pflds p1 p2 fa pa oa from rfl]
    have g11 : Gr [pg] F4 H10 F4 _ := gr_put (o := .ins C3 dx (pflds p1 p2 fa pa oa)) g10.sub fpg4
    have hB11 := hB10.gr g11 npW1
    have hA11 := hA10.gr g11 npW2
    have hfa11 := g11.at (by simp [nfp]) hfa10
    have hpa11 := g11.at (by simp [npp]) hpa10
    have hoa11 := g11.at (by simp [nop]) hoaa
    have hpg11 : upd H10 pg (.ins C3 dx (pflds p1 p2 fa pa oa)) pg = _ := upd_same
    generalize upd H10 pg _ = H11 at *
    have g111 : Gr [pg] F1 H1 F4 H11 := (g19.trans g10.any).trans g11
    have gAll : Gr [pg] F H F4 H11 := g1.any.trans g111
    have hH := fun b (h : H1 b = none) => g1.free h
    refine S.next (k F4 H11 _ gAll ⟨p1, p2, fa, pa, oa, [], W1, W2, [], [], rfl, ⟨⟨dx, hpg11⟩, hB11, hA11, ⟨⟨hfa11, fun _ h => by cases h⟩, by simp [addrsOf], fun x hx => ?_⟩, rfl, hpa11, hoa11, .nil, rfl, ?_, fun x hx => ?_, fun x hx => ?_, fun x hx => ?_, n12⟩⟩ ?_)
    · simp only [addrsOf, List.map_nil, List.mem_cons, List.not_mem_nil, or_false] at hx
      rw [hx]; exact ffa
    · simp [Ne.symm npp, Ne.symm nop, Ne.symm nopa]
    · simp only [List.mem_cons, List.not_mem_nil, or_false] at hx
      rcases hx with rfl | rfl | rfl
      · exact fpg4
      · exact fpa
      · exact foa
    · simp only [List.mem_cons, List.not_mem_nil, or_false] at hx
      rcases hx with rfl | rfl | rfl
      · exact ⟨by simp [addrsOf, Ne.symm nfp], fun z => npW1 _ z (by simp), fun z => npW2 _ z (by simp)⟩
      · exact ⟨by simp [addrsOf, npf], np1, np2⟩
      · exact ⟨by simp [addrsOf, nof], no1, no2⟩
    · simp only [addrsOf, List.map_nil, List.mem_cons, List.not_mem_nil, or_false] at hx
      rw [hx]; exact ⟨nf1, nf2⟩
    · intro b hb
      rcases mem_all.mp hb with h | h | h | h
      · simp only [List.mem_cons, List.not_mem_nil, or_false] at h
        rcases h with rfl | rfl | rfl
        · exact .inl rfl
        · exact .inr (hH _ (g17.free hpa))
        · exact .inr (hH _ (g19.free hoa))
      · simp only [addrsOf, List.map_nil, List.mem_cons, List.not_mem_nil, or_false] at h
        rw [h]; exact .inr (hH _ (g15.free hfa))
      · exact .inr (hH _ (hW1 b h))
      · exact .inr (hH _ (g13.free (hW2' b h)))

theorem ok__law_deck {P : Program} {w : World} {K : PySem.W.Frag} {mg : Str → Option Value} {base : Heap} {f : Addr} {fd : FuncData} (F : Fun K "_law_deck" "_law_deck" s__law_deck f fd) (B : Blt mg)
    : FnOk P w K mg base CX0 (0 + 1) f fd P__law_deck (spDeck K) := by
  refine F.ok sc__law_deck (fun vs H Q E h => ?_) (fun cdv A outer s H vs Q E hr h => ?_)
  · obtain ⟨F, a, ns, k, rfl, _⟩ := h; rfl
  · have hu := hu_of hr
    have hu64 := Room.units hr
    obtain ⟨F, sa, ns, k, rfl, sm, hs, hl, hk0, hk1, kk⟩ := h
    refine ⟨_, (pss_cons (ps_set (i := 2) sc__law_deck.nd rfl (Or.inl rfl) (pe_op op_addU (pe_op op_mulW (pe_int) (pv 1)) (pe_int)))
      (pss_cons (ps_set (i := 3) sc__law_deck.nd rfl (Or.inl rfl) (pe_op op_addU (pe_int) (pv 1)))
      (pss_cons (ps_if (pt_cmpR op_lt (pv 1) (pe_callB call_lenU rfl B.m_len (by first | exact PySem.boot_len | decide +kernel) (pa_cons (pv 0) pa_nil)) (nomark _)) (pss_one (ps_set (i := 2) sc__law_deck.nd rfl (Or.inl rfl) (pe_op op_mod (pe_callTy call_int1 rfl B.m_int (by decide +kernel) (pa_cons (pe_callB call_abs rfl B.m_abs (by first | exact PySem.boot_abs | decide +kernel) (pa_cons (pe_callTy call_int1 rfl B.m_int (by decide +kernel) (pa_cons (pe_ix ix_seq (pv 0) (pv 1) (fun _ _ => rfl)) pa_nil)) pa_nil)) pa_nil)) (pe_op op_addU (pe_op op_powW (pe_op op_powW (pe_int) (pe_int)) (pe_int)) (pe_int))))) pss_nil)
      (pss_cons (ps_for PassesOwn.never rfl (pi_seq (pv 0)) (pg_name (i := 4) sc__law_deck.nd rfl (Or.inl rfl)) (pss_one (ps_set (i := 3) sc__law_deck.nd rfl (Or.inl rfl) (pe_op op_mod (pe_callTy call_int1 rfl B.m_int (by decide +kernel) (pa_cons (pe_op op_addU (pe_op op_addU (pe_op op_mulW (pv 3) (pe_int)) (pe_op op_mod (pe_callTy call_int1 rfl B.m_int (by decide +kernel) (pa_cons (pv 4) pa_nil)) (pe_op op_addU (pe_op op_powW (pe_int) (pe_int)) (pe_int)))) (pe_int)) pa_nil)) (pe_op op_addU (pe_op op_powW (pe_int) (pe_int)) (pe_int))))))
      (pss_one (ps_ret (pe_lst (pa_cons (pe_callB (call_max2 rfl) rfl B.m_max (by first | exact PySem.boot_max | decide +kernel) (pa_cons (pe_int) (pa_cons (pe_op op_sub (pv 2) (pe_op op_powW (pe_int) (pe_int))) pa_nil))) (pa_cons (pe_op op_addU (pe_op op_mulW (pv 3) (pe_int)) (pe_op op_mod (pe_callTy call_int1 rfl B.m_int (by decide +kernel) (pa_cons (pv 2) pa_nil)) (pe_op op_addU (pe_op op_powW (pe_int) (pe_int)) (pe_int)))) (pa_cons (pe_int) pa_nil)))))))))), ?_⟩
    try dsimp only [cxOf, Cx.nox, Cx.wish]
    walk_at "sq"
    walk_at "gs"
    refine S.rI (wide_mul (a := 5) (b := 7) (by decide) (abs_lt (n := 7) hk0 (by omega)) (by decide) (by decide) (by decide)) ?_
    walk_at "gs"
    walk_at "sq"
    walk_at "gs"
    with_reducible refine S.seqJ (fun σ' H' => H = H' ∧ ∃ c : Int, 0 ≤ c ∧ c < 2 ^ 1100 ∧ σ' = ((L2.start N__law_deck [V.ref sa, V.int k]).set 2 (some (.int c))).set 3 (some (.int (5 + k)))) ?_ ?_
    · rintro σ' _ ⟨rfl, c, hc0, hc1, rfl⟩
      walk_at "sq"
      refine S.forS (S.iSeqL ?_)
      walk_at "gs"
      refine ⟨sa, rfl, ⟨_, hs⟩, ?_⟩
      refine for_it (walk_list (K := K) (a := sa) (xs := ns.map V.int)) (fun i σ H' => H = H' ∧ ∃ (st : Int) (o : Option V), 0 ≤ st ∧ st < 2 ^ 100 ∧ σ = (((L2.start N__law_deck [V.ref sa, V.int k]).set 2 (some (.int c))).set 3 (some (.int st))).set 4 o) ?_ ?_ ?_ ?_
      · exact ⟨rfl, 5 + k, none, by omega, Int.lt_trans (show 5 + k < 70 by omega) (by decide +kernel), rfl⟩
      · rintro i σ _ _ ⟨rfl, _⟩; exact hs
      · rintro i x σ H' _ hi ⟨rfl, st, o, h0, h1, rfl⟩ ⟨rfl, hx⟩
        rw [List.getElem?_map] at hx
        obtain ⟨z, hz⟩ : ∃ z, ns[i]? = some z := by
          cases q : ns[i]? with
          | none => rw [q] at hx; cases hx
          | some c => exact ⟨c, rfl⟩
        rw [hz] at hx
        obtain rfl : V.int z = x := Option.some.inj hx
        walk_at "gs"
        refine S.rI (wide_mul (a := 100) (b := 13) (abs_lt h0 h1) (by decide) (by decide) (by decide) (by decide)) ?_
        walk_at "gs"
        refine .inl (S.vs1 ?_)
        walk_at "gs"
        refine S.rI (ten_pow 24 (by decide)) ?_
        walk_at "gs"
        refine S.rI (show (0 : Int) < 10 ^ Int.toNat 24 + 7 by decide +kernel) ?_
        walk_at "gs"
        refine .inl (S.vs1 ?_)
        walk_at "gs"
        refine S.rI (ten_pow 30 (by decide)) ?_
        walk_at "gs"
        refine S.rI (show (0 : Int) < 10 ^ Int.toNat 30 + 57 by decide +kernel) ?_
        walk_at "gs"
        have hm := mod_lt (x := st * 6151 + z % (10 ^ Int.toNat 24 + 7) + 1) (M := 10 ^ Int.toNat 30 + 57) (n := 100) (by decide +kernel) (by decide +kernel)
        exact ⟨rfl, _, some (.int z), hm.2.1, Int.lt_trans hm.2.2 (by decide +kernel), rfl⟩
      · rintro σ _ ⟨rfl, st, o, h0, h1, rfl⟩
        walk_at "go"
        refine S.rI (ten_pow 18 (by decide)) ?_
        walk_at "go"
        walk_at "go"
        refine S.rI (wide_mul (a := 100) (b := 3) (abs_lt h0 h1) (by decide) (by decide) (by decide) (by decide)) ?_
        walk_at "go"
        refine .inl (S.vs1 ?_)
        walk_at "go"
        refine S.rI (ten_pow 20 (by decide)) ?_
        walk_at "go"
        refine S.rI (show (0 : Int) < 10 ^ Int.toNat 20 + 39 by decide +kernel) ?_
        walk_at "go"
        refine own_lstG sm (by show 3 ≤ sizeLine; decide) fun q g hq fq hqq => ?_
        have hm := mod_lt (x := c) (M := 10 ^ Int.toNat 20 + 39) (n := 100) (by decide +kernel) (by decide +kernel)
        have hp : (0 : Int) ≤ 10 ^ Int.toNat 18 := by decide +kernel
        refine kk q _ g hq fq ⟨_, _, _, hqq, ?_, ?_, ?_, ?_, Int.le_refl _, Int.le_refl _⟩
        · by_cases e : c - 10 ^ Int.toNat 18 > 0
          · rw [if_pos e]; omega
          · rw [if_neg e]; decide
        · by_cases e : c - 10 ^ Int.toNat 18 > 0
          · rw [if_pos e]; omega
          · rw [if_neg e]; decide +kernel
        · omega
        · have h5 : (10 : Int) ^ Int.toNat 20 + 39 < 2 ^ 100 := by decide +kernel
          have h6 : (2 : Int) ^ 100 * 7 + 2 ^ 100 < 2 ^ 120 := by decide +kernel
          omega
    · intro hrest
      walk_at "gs"
      refine S.lenSL hs ?_
      walk_at "gs"
      refine S.ite (fun e => ?_) (fun e => ?_)
      · have e' : k < (ns.map V.int).length := by simpa using e
        rw [List.length_map] at e'
        walk_at "gs"
        have hj : k.toNat < ns.length := by omega
        refine S.ixSL hs (w := .int ns[k.toNat]) ?_ ?_
        · have ek : k = ((k.toNat : Nat) : Int) := by omega
          conv => lhs; rw [ek]
          apply S.atI_nat
          rw [List.getElem?_map, List.getElem?_eq_getElem hj]; rfl
        refine .inl (S.vs1 ?_)
        walk_at "gs"
        walk_at "gs"
        refine .inl (S.vs1 ?_)
        walk_at "gs"
        refine S.rI (ten_pow 60 (by decide)) ?_
        walk_at "gs"
        refine S.rI (show CPowW (10 ^ Int.toNat 60) 5 from powW_of (a := 200) (b := 5) (by decide +kernel) (by decide) (by decide) (by decide) (by decide)) ?_
        walk_at "gs"
        refine S.rI (show (0 : Int) < (10 ^ Int.toNat 60) ^ Int.toNat 5 + 3 by decide +kernel) ?_
        walk_at "gs"
        have hm := mod_lt (x := if ns[k.toNat] < 0 then -ns[k.toNat] else ns[k.toNat]) (M := (10 ^ Int.toNat 60) ^ Int.toNat 5 + 3) (n := 1100) (by decide +kernel) (by decide +kernel)
        exact hrest _ _ ⟨rfl, _, hm.2.1, Int.lt_trans hm.2.2 (by decide +kernel), rfl⟩
      · refine S.next ?_
        refine hrest _ _ ⟨rfl, 29 * k + 11, by omega, ?_, rfl⟩
        have : (29 : Int) * 64 + 11 < 2 ^ 1100 := by decide +kernel
        omega

theorem ok__law_draw {P : Program} {w : World} {K : PySem.W.Frag} {mg : Str → Option Value} {base : Heap} {f : Addr} {fd : FuncData} (F : Fun K "_law_draw" "_law_draw" s__law_draw f fd) (B : Blt mg)
    : FnOk P w K mg base CX0 (0 + 1) f fd P__law_draw (spDraw) := by
  refine F.ok sc__law_draw (fun vs H Q E h => ?_) (fun cdv A outer s H vs Q E hr h => ?_)
  · obtain ⟨F, q, many, m, rfl, _⟩ := h; rfl
  · have hu := hu_of hr
    have hu64 := Room.units hr
    obtain ⟨F, q, many, m, rfl, sm, fq, ⟨a, b, c, hq, a0, a1, b0, b1, c0, c1⟩, hm, h1, h2, k⟩ := h
    refine ⟨_, (pss_cons (ps_if (pt_cmpR op_gt (pe_ix ix_seq (pv 0) (pe_int) (fun _ _ => rfl)) (pe_int) (nomark _)) (pss_cons (ps_set (i := 2) sc__law_draw.nd rfl (Or.inl rfl) (pe_op op_mod (pe_callTy call_int1 rfl B.m_int (by decide +kernel) (pa_cons (pe_ix ix_seq (pv 0) (pe_int) (fun _ _ => rfl)) pa_nil)) (pv 1)))
      (pss_cons (ps_asg (pe_op op_fdivW (pe_ix ix_seq (pv 0) (pe_int) (fun _ _ => rfl)) (pv 1)) (pg_sub (pv 0) (pe_int) set_list))
      (pss_one (ps_ret (pv 2))))) pss_nil)
      (pss_cons (ps_asg (pe_op op_addU (pe_ix ix_seq (pv 0) (pe_int) (fun _ _ => rfl)) (pe_int)) (pg_sub (pv 0) (pe_int) set_list))
      (pss_cons (ps_set (i := 3) sc__law_draw.nd rfl (Or.inl rfl) (pe_op op_mod (pe_callTy call_int1 rfl B.m_int (by decide +kernel) (pa_cons (pe_op op_addU (pe_op op_powW (pe_op op_addU (pe_ix ix_seq (pv 0) (pe_int) (fun _ _ => rfl)) (pe_op op_mulW (pe_int) (pe_ix ix_seq (pv 0) (pe_int) (fun _ _ => rfl)))) (pe_int)) (pe_ix ix_seq (pv 0) (pe_int) (fun _ _ => rfl))) pa_nil)) (pe_op op_addU (pe_op op_powW (pe_int) (pe_int)) (pe_int))))
      (pss_cons (ps_set (i := 3) sc__law_draw.nd rfl (Or.inl rfl) (pe_op op_mod (pe_callTy call_int1 rfl B.m_int (by decide +kernel) (pa_cons (pe_op op_addU (pe_op op_addU (pe_op op_mulW (pv 3) (pv 3)) (pe_ix ix_seq (pv 0) (pe_int) (fun _ _ => rfl))) (pe_op op_mulW (pe_int) (pe_ix ix_seq (pv 0) (pe_int) (fun _ _ => rfl)))) pa_nil)) (pe_op op_addU (pe_op op_powW (pe_int) (pe_int)) (pe_int))))
      (pss_one (ps_ret (pe_op op_mod (pe_callTy call_int1 rfl B.m_int (by decide +kernel) (pa_cons (pe_op op_fdivW (pv 3) (pe_int)) pa_nil)) (pv 1)))))))), ?_⟩
    try dsimp only [cxOf, Cx.nox, Cx.wish]
    walk_at "sq"
    walk_at "gs"
    refine S.ixO hq (w := .int a) rfl ?_
    walk_at "gs"
    refine S.ite (fun e => ?_) (fun e => ?_)
    · have e' : a > 0 := by simpa using e
      walk_at "go"
      refine S.ixO hq (w := .int a) rfl ?_
      walk_at "go"
      refine .inl (S.vs1 ?_)
      walk_at "go"
      refine S.rI (show 0 < many by omega) ?_
      walk_at "go"
      refine S.ixO hq (w := .int a) rfl ?_
      walk_at "go"
      refine S.rI (wide_div (b := 60) (by omega) (abs_lt (by omega) h2) (by decide) (by decide)) ?_
      walk_at "go"
      refine S.setO hq (j := 0) rfl ?_
      walk_at "go"
      have h3 := Int.emod_nonneg a (show many ≠ 0 by omega)
      have h4 := Int.emod_lt_of_pos a (show 0 < many by omega)
      refine k _ _ (Gr.write sm fq (by simp)) ⟨a / many, b, c, upd_same, Int.ediv_nonneg a0 (by omega), ?_, b0, b1, c0, by omega⟩ h3 h4
      have := Int.ediv_le_self many a0
      omega
    · walk_at "go"
      refine S.ixO hq (w := .int c) rfl ?_
      walk_at "go"
      refine S.setO hq (j := 2) rfl ?_
      have g := Gr.write (o := .lst [.int a, .int b, .int (c + 1)]) sm fq (show q ∈ [q] by simp)
      have hq2 : upd H q (.lst [.int a, .int b, .int (c + 1)]) q = some (.lst [.int a, .int b, .int (c + 1)]) := upd_same
      rw [show ([V.int a, V.int b, V.int c].set 2 (V.int (c + 1))) = [.int a, .int b, .int (c + 1)] from rfl]
      generalize upd H q _ = H1 at *
      have c2 : (c + 1).natAbs < 2 ^ 30 := abs_lt (by omega) (by omega)
      walk_at "go"
      refine S.ixO hq2 (w := .int b) rfl ?_
      walk_at "go"
      refine S.ixO hq2 (w := .int (c + 1)) rfl ?_
      refine S.rI (wide_mul (a := 24) (b := 30) (by decide) c2 (by decide) (by decide) (by decide)) ?_
      walk_at "go"
      have hb : (b + 15487469 * (c + 1)).natAbs < 2 ^ 121 := abs_lt (by omega) (by
        have : (2 : Int) ^ 120 + 15487469 * (2 ^ 30) < 2 ^ 121 := by decide +kernel
        omega)
      refine S.rI (show CPowW _ 3 from powW_of (a := 121) (b := 3) hb (by decide) (by decide) (by decide) (by decide)) ?_
      walk_at "go"
      refine S.ixO hq2 (w := .int (c + 1)) rfl ?_
      walk_at "go"
      refine .inl (S.vs1 ?_)
      walk_at "go"
      refine S.rI (ten_pow 31 (by decide)) ?_
      walk_at "go"
      refine S.rI (show (0 : Int) < 10 ^ Int.toNat 31 + 33 by decide +kernel) ?_
      have hm1 := mod_lt (x := (b + 15487469 * (c + 1)) ^ Int.toNat 3 + (c + 1)) (M := 10 ^ Int.toNat 31 + 33) (n := 110) (by decide +kernel) (by decide +kernel)
      generalize ((b + 15487469 * (c + 1)) ^ Int.toNat 3 + (c + 1)) % (10 ^ Int.toNat 31 + 33) = mx at *
      walk_at "go"
      refine S.rI (wide_mul (a := 110) (b := 110) hm1.1 hm1.1 (by decide) (by decide) (by decide)) ?_
      walk_at "go"
      refine S.ixO hq2 (w := .int b) rfl ?_
      walk_at "go"
      refine S.ixO hq2 (w := .int (c + 1)) rfl ?_
      refine S.rI (wide_mul (a := 24) (b := 30) (by decide) c2 (by decide) (by decide) (by decide)) ?_
      walk_at "go"
      refine .inl (S.vs1 ?_)
      walk_at "go"
      refine S.rI (ten_pow 29 (by decide)) ?_
      walk_at "go"
      refine S.rI (show (0 : Int) < 10 ^ Int.toNat 29 + 319 by decide +kernel) ?_
      walk_at "go"
      refine S.rI (wide_div (b := 60) (by decide) (by decide) (by decide) (by decide)) ?_
      walk_at "go"
      refine .inl (S.vs1 ?_)
      walk_at "go"
      refine S.rI (show 0 < many by omega) ?_
      exact k _ H1 g ⟨a, b, c + 1, hq2, a0, a1, b0, b1, by omega, by omega⟩ (Int.emod_nonneg _ (show many ≠ 0 by omega)) (Int.emod_lt_of_pos _ (show 0 < many by omega))

theorem ok__law_pick {P : Program} {w : World} {K : PySem.W.Frag} {mg : Str → Option Value} {base : Heap} {f : Addr} {fd : FuncData} (F : Fun K "_law_pick" "_law_pick" s__law_pick f fd) (B : Blt mg)
    (c__law_draw : Cal P w K mg base CX0 1 "_law_draw" P__law_draw spDraw)
    : FnOk P w K mg base CX0 (1 + 1) f fd P__law_pick (spPick K) := by
  refine F.ok sc__law_pick (fun vs H Q E h => ?_) (fun cdv A outer s H vs Q E hr h => ?_)
  · obtain ⟨F, q, a, xs, m, rfl, _⟩ := h; rfl
  · have hu := hu_of hr
    have hu64 := Room.units hr
    obtain ⟨F, q, a, xs, m, rfl, sm, fq, hq, hm, hxs, hxs2, hne, hlen, k⟩ := h
    refine ⟨_, (pss_one (ps_ret (pe_ix ix_seq (pv 1) (pe_cal c__law_draw (hr.mono (by first | decide | omega)) pass0 (pa_cons (pv 0) (pa_cons (pe_callB call_lenU rfl B.m_len (by first | exact PySem.boot_len | decide +kernel) (pa_cons (pv 1) pa_nil)) pa_nil))) (fun _ _ => rfl)))), ?_⟩
    try dsimp only [cxOf, Cx.nox, Cx.wish]
    walk_at "go"
    have hl0 : 0 < xs.length := List.length_pos_iff.mpr hne
    have fin : ∀ x H', Gr [q] F H F H' → DkAt H' q (m + 1) → 0 ≤ x → x < (xs.length : Int) → rIx K (.ref a) (.int x) H' Q := by
      intro x H' g hq' x0 x1
      have hj : x.toNat < xs.length := by omega
      have e : atI xs x = some xs[x.toNat] := by
        have ek : x = ((x.toNat : Nat) : Int) := by omega
        conv => lhs; rw [ek]
        apply S.atI_nat
        rw [List.getElem?_eq_getElem hj]
      rcases hxs2 H' g with h | h
      · exact S.ixSL h e (k _ _ _ (List.getElem?_eq_getElem hj) g hq')
      · exact S.ixST h e (k _ _ _ (List.getElem?_eq_getElem hj) g hq')
    have hb : (xs.length : Int) < 2 ^ 60 := by omega
    rcases hxs with h | h
    · refine S.lenSL h ?_
      walk_at "go"
      exact ⟨F, q, _, m, rfl, sm, fq, hq, hm, by omega, hb, fun x H' g hq' x0 x1 => fin x H' g hq' x0 x1⟩
    · refine S.lenST h ?_
      walk_at "go"
      exact ⟨F, q, _, m, rfl, sm, fq, hq, hm, by omega, hb, fun x H' g hq' x0 x1 => fin x H' g hq' x0 x1⟩

theorem ok__law_same {P : Program} {w : World} {K : PySem.W.Frag} {mg : Str → Option Value} {base : Heap} {f : Addr} {fd : FuncData} (F : Fun K "_law_same" "_law_same" s__law_same f fd) (B : Blt mg)
    {k n : Nat} (hk : k ≤ 20) (c__law_same : Cal P w K mg base CX0 k "_law_same" P__law_same (spSame K n))
    : FnOk P w K mg base CX0 (k + 1) f fd P__law_same (spSame K (n + 1)) := by
  refine F.ok sc__law_same (fun vs H Q E h => ?_) (fun cdv A outer s H vs Q E hr h => ?_)
  · obtain ⟨F, v, u, d, rfl, _⟩ := h; rfl
  · have hu := hu_of hr
    have hu64 := Room.units hr
    obtain ⟨F, v, u, d, rfl, sm, hv, hu', hdep, hwid, kk⟩ := h
    refine ⟨_, (pss_cons (ps_if (pt_val (pe_callB call_isiT rfl B.m_isinstance (by first | exact PySem.boot_isinstance | decide +kernel) (pa_cons (pv 1) (pa_cons (pe_tup (pa_cons (pe_bltn (v := V.ty "tuple") rfl B.m_tuple (by decide +kernel : bootBuiltins "tuple" = some (.type "tuple")) rfl) (pa_cons (pe_bltn (v := V.ty "list") rfl B.m_list (by decide +kernel : bootBuiltins "list" = some (.type "list")) rfl) pa_nil))) pa_nil)))) (pss_cons (ps_if (PW.pt (pw_or (pt_not (pt_val (pe_callB call_isiT rfl B.m_isinstance (by first | exact PySem.boot_isinstance | decide +kernel) (pa_cons (pv 0) (pa_cons (pe_tup (pa_cons (pe_bltn (v := V.ty "tuple") rfl B.m_tuple (by decide +kernel : bootBuiltins "tuple" = some (.type "tuple")) rfl) (pa_cons (pe_bltn (v := V.ty "list") rfl B.m_list (by decide +kernel : bootBuiltins "list" = some (.type "list")) rfl) pa_nil))) pa_nil))))) (pw_or1 (pt_cmpR (op_neU hu64) (pe_callB call_isi rfl B.m_isinstance (by first | exact PySem.boot_isinstance | decide +kernel) (pa_cons (pv 0) (pa_cons (pe_bltn (v := V.ty "tuple") rfl B.m_tuple (by decide +kernel : bootBuiltins "tuple" = some (.type "tuple")) rfl) pa_nil))) (pe_callB call_isi rfl B.m_isinstance (by first | exact PySem.boot_isinstance | decide +kernel) (pa_cons (pv 1) (pa_cons (pe_bltn (v := V.ty "tuple") rfl B.m_tuple (by decide +kernel : bootBuiltins "tuple" = some (.type "tuple")) rfl) pa_nil))) (nomark _))))) (pss_one (ps_ret (pe_bl))) pss_nil)
      (pss_one (ps_ret (pe_and (pe_cmpR (op_eqU hu64) (pe_callB call_lenU rfl B.m_len (by first | exact PySem.boot_len | decide +kernel) (pa_cons (pv 0) pa_nil)) (pe_callB call_lenU rfl B.m_len (by first | exact PySem.boot_len | decide +kernel) (pa_cons (pv 1) pa_nil)) (nomark _)) (pe_one (pe_callB (cr_all rfl) rfl B.m_all (by first | exact PySem.boot_all | decide +kernel) (pa_cons (pe_lc (own := [("one", 2), ("other", 3)]) rfl sc__law_same.nd (RZ.pi_zipA rfl B.m_zip (pa_cons (pv 0) (pa_cons (pv 1) pa_nil))) (blkOk_by (N := N__law_same) (sc := defScope s__law_same) (by decide +kernel)) (fun _ _ _ _ _ => (pg_tupK (K := K) (n := 2) rfl rfl (pgs_cons (pg_name (i := 2) sc__law_same.nd rfl (Or.inl rfl) (by first | exact Or.inl rfl | exact Or.inr rfl)) (pgs_cons (pg_name (i := 3) sc__law_same.nd rfl (Or.inl rfl) (by first | exact Or.inl rfl | exact Or.inr rfl)) pgs_nil)))) (fun _ _ _ _ _ => pts_nil) (fun _ _ _ _ _ => (pe_cal c__law_same (hr.mono (by first | decide | omega)) pass0 (pa_cons (pv 2) (pa_cons (pv 3) pa_nil))))) pa_nil))))))) pss_nil)
      (pss_cons (ps_if (pt_cmpR op_isU (pv 1) (pe_non) (nomark _)) (pss_one (ps_ret (pe_cmpR op_isU (pv 0) (pe_non) (nomark _)))) pss_nil)
      (pss_cons (ps_if (pt_val (pe_callB call_isi rfl B.m_isinstance (by first | exact PySem.boot_isinstance | decide +kernel) (pa_cons (pv 1) (pa_cons (pe_bltn (v := V.ty "bool") rfl B.m_bool (by decide +kernel : bootBuiltins "bool" = some (.type "bool")) rfl) pa_nil)))) (pss_one (ps_ret (pe_and (pe_callB call_isi rfl B.m_isinstance (by first | exact PySem.boot_isinstance | decide +kernel) (pa_cons (pv 0) (pa_cons (pe_bltn (v := V.ty "bool") rfl B.m_bool (by decide +kernel : bootBuiltins "bool" = some (.type "bool")) rfl) pa_nil))) (pe_one (pe_cmpR (op_eqU hu64) (pv 0) (pv 1) (nomark _)))))) pss_nil)
      (pss_cons (ps_if (pt_val (pe_callB call_isi rfl B.m_isinstance (by first | exact PySem.boot_isinstance | decide +kernel) (pa_cons (pv 1) (pa_cons (pe_bltn (v := V.ty "int") rfl B.m_int (by decide +kernel : bootBuiltins "int" = some (.type "int")) rfl) pa_nil)))) (pss_one (ps_ret (pe_and (pe_callB call_isi rfl B.m_isinstance (by first | exact PySem.boot_isinstance | decide +kernel) (pa_cons (pv 0) (pa_cons (pe_bltn (v := V.ty "int") rfl B.m_int (by decide +kernel : bootBuiltins "int" = some (.type "int")) rfl) pa_nil))) (pe_and (pe_not (pe_callB call_isi rfl B.m_isinstance (by first | exact PySem.boot_isinstance | decide +kernel) (pa_cons (pv 0) (pa_cons (pe_bltn (v := V.ty "bool") rfl B.m_bool (by decide +kernel : bootBuiltins "bool" = some (.type "bool")) rfl) pa_nil)))) (pe_one (pe_cmpR (op_eqU hu64) (pv 0) (pv 1) (nomark _))))))) pss_nil)
      (pss_one (ps_ret (pe_and (pe_callB call_isi rfl B.m_isinstance (by first | exact PySem.boot_isinstance | decide +kernel) (pa_cons (pv 0) (pa_cons (pe_bltn (v := V.ty "str") rfl B.m_str (by decide +kernel : bootBuiltins "str" = some (.type "str")) rfl) pa_nil))) (pe_one (pe_cmpR (op_eqU hu64) (pv 0) (pv 1) (nomark _)))))))))), ?_⟩
    try dsimp only [cxOf, Cx.nox, Cx.wish]
    walk_at "go"
    refine new_tupS (F := F) sm fun tp g1 htp => ?_
    generalize upd H tp _ = H1 at *
    walk_at "go"
    refine isi_seq hu' g1.sub htp ?_
    walk_at "go"
    cases d with
    | none =>
      refine S.iteF rfl ?_
      walk_at "go"
      obtain rfl := dp_none hv
      obtain rfl := dp_none hu'
      refine S.iteT rfl ?_
      walk_at "go"
      exact kk F H1 g1
    | bool b =>
      refine S.iteF rfl ?_
      walk_at "go"
      obtain rfl := dp_bool hv
      obtain rfl := dp_bool hu'
      refine S.iteF rfl ?_
      walk_at "go"
      refine isi_bool (.bl b) g1.sub ?_
      walk_at "go"
      refine S.iteT rfl ?_
      walk_at "go"
      refine isi_bool (.bl b) g1.sub ?_
      walk_at "go"
      refine S.iteT rfl ?_
      walk_at "go"
      refine S.eqSelf rfl ?_
      exact kk F H1 g1
    | int b =>
      refine S.iteF rfl ?_
      walk_at "go"
      obtain rfl := dp_int hv
      obtain rfl := dp_int hu'
      refine S.iteF rfl ?_
      walk_at "go"
      refine isi_bool (.int b) g1.sub ?_
      walk_at "go"
      refine S.iteF rfl ?_
      walk_at "go"
      refine isi_int (.int b) g1.sub ?_
      walk_at "go"
      refine S.iteT rfl ?_
      walk_at "go"
      refine isi_int (.int b) g1.sub ?_
      walk_at "go"
      refine S.iteT rfl ?_
      walk_at "go"
      refine isi_bool (.int b) g1.sub ?_
      walk_at "go"
      refine S.iteT rfl ?_
      walk_at "go"
      rw [decide_eq_true rfl]
      exact kk F H1 g1
    | str b =>
      refine S.iteF rfl ?_
      walk_at "go"
      obtain rfl := dp_str hv
      obtain rfl := dp_str hu'
      refine S.iteF rfl ?_
      walk_at "go"
      refine isi_bool (.str b) g1.sub ?_
      walk_at "go"
      refine S.iteF rfl ?_
      walk_at "go"
      refine isi_int (.str b) g1.sub ?_
      walk_at "go"
      refine S.iteF rfl ?_
      walk_at "go"
      refine isi_str (.str b) g1.sub ?_
      walk_at "go"
      refine S.iteT rfl ?_
      walk_at "go"
      rw [decide_eq_true rfl]
      exact kk F H1 g1
    | list ds =>
      unfold wid at hwid
      obtain ⟨hw1, hw2⟩ := Bool.and_eq_true_iff.mp hwid
      rw [decide_eq_true_iff] at hw1
      refine S.iteT rfl ?_
      walk_at "go"
      refine new_tupS g1.sub fun tp2 g2 htp2 => ?_
      generalize upd H1 tp2 _ = H2 at *
      walk_at "go"
      refine isi_seq (hv.to g1.fs) g2.sub htp2 ?_
      walk_at "go"
      refine S.iteF rfl ?_
      walk_at "go"
      refine isi_tup (hv.to g1.fs) g2.sub ?_
      walk_at "go"
      refine isi_tup (hu'.to g1.fs) g2.sub ?_
      refine S.neBB ?_
      walk_at "go"
      refine S.iteF rfl ?_
      walk_at "go"
      refine S.lenL (K := K) hv g2.sub ?_
      walk_at "go"
      refine S.lenL (K := K) hu' g2.sub ?_
      walk_at "go"
      refine S.iteT (by simp) ?_
      walk_at "go"
      refine S.lcS (S.iZipT ?_)
      walk_at "go"
      obtain ⟨va, xs, rfl, hva, hxs⟩ := dp_list hv
      obtain ⟨ua, ys, rfl, hua, hys⟩ := dp_list hu'
      have g12 := g1.trans g2
      refine ⟨va, ua, xs, ys, rfl, .inl ⟨same_lst g12.sub hva, same_lst g12.sub hua, fun D hD => ?_⟩⟩
      have lx := dp_len hxs
      have ly := dp_len hys
      have hHD := g12.free hD
      have fD := sub_free g12.sub hD
      refine lc_it (walk_zip (K := K) (a := va) (b := ua) (xs := xs) (ys := ys) (n := ds.length) (by omega)) (fun i H' => ∃ F', Gr [] F H F' H' ∧ F' D = none ∧ H' D = some (.lst ((List.replicate i true).map V.bl))) ⟨F, g12.poke hHD fD, fD, upd_same⟩ ?_ ?_ ?_
      · rintro i H' _ ⟨F', g, _⟩
        exact ⟨same_lst (g.fs.trans g.sub) hva, same_lst (g.fs.trans g.sub) hua⟩
      · rintro i x H' H'' hi ⟨F', g, fD', hDD⟩ ⟨T, x1, y1, rfl, hT, rfl, ex, ey⟩
        obtain ⟨dx, hdx, hx⟩ := dp_getV hxs ex
        obtain ⟨dy, hdy, hy⟩ := dp_getV hys ey
        rw [hdx] at hdy
        obtain rfl := Option.some.inj hdy
        have g4 : Gr [] F' H' F' _ := Gr.newOwn (o := .tup [x1, y1]) g.sub hT
        have hTT : upd H' T (.tup [x1, y1]) T = _ := upd_same
        have hD4 := g4.at0 hDD
        generalize upd H' T _ = H4 at *
        refine S.gTupO hTT rfl ?_
        walk_at "go"
        refine ⟨rfl, ?_⟩
        refine S.yes ?_
        walk_at "go"
        refine S.iteT rfl ?_
        walk_at "go"
        have hm := depth_mem (List.mem_of_getElem? hdx)
        refine ⟨F', x1, y1, dx, rfl, g4.sub, hx.to g.fs, hy.to g.fs, ?_, wid_mem (List.mem_of_getElem? hdx) hw2, fun F5 H5 g5 => ?_⟩
        · unfold PyData.depth at hdep
          omega
        have hD5 := g5.at0 hD4
        have fD5 : F5 D = none := g5.own D fD' (by rw [hD4]; exact fun z => nomatch z)
        refine ⟨_, hD5, ?_, F5, ((g.trans g4).trans g5).poke hHD fD5, fD5, ?_⟩
        · rw [List.length_map, List.length_replicate]
          obtain ⟨hz1, hz2⟩ := List.getElem?_eq_some_iff.mp ex
          exact size1000000 (by omega)
        · rw [upd_same]
          congr 2
          rw [show V.bl true = (fun b : Bool => V.bl b) true from rfl]
          simp [List.replicate_succ']
      · rintro H' ⟨F', g, fD', hDD⟩
        walk_at "go"
        refine ⟨D, List.replicate ds.length true, rfl, SqL.of hDD, ?_⟩
        rw [show (List.replicate ds.length true).all id = true by rw [List.all_eq_true]; intro b hb; rw [(List.mem_replicate.mp hb).2]; rfl]
        exact kk F' H' g
    | tuple ds =>
      unfold wid at hwid
      obtain ⟨hw1, hw2⟩ := Bool.and_eq_true_iff.mp hwid
      rw [decide_eq_true_iff] at hw1
      refine S.iteT rfl ?_
      walk_at "go"
      refine new_tupS g1.sub fun tp2 g2 htp2 => ?_
      generalize upd H1 tp2 _ = H2 at *
      walk_at "go"
      refine isi_seq (hv.to g1.fs) g2.sub htp2 ?_
      walk_at "go"
      refine S.iteF rfl ?_
      walk_at "go"
      refine isi_tup (hv.to g1.fs) g2.sub ?_
      walk_at "go"
      refine isi_tup (hu'.to g1.fs) g2.sub ?_
      refine S.neBB ?_
      walk_at "go"
      refine S.iteF rfl ?_
      walk_at "go"
      refine S.lenT (K := K) hv g2.sub ?_
      walk_at "go"
      refine S.lenT (K := K) hu' g2.sub ?_
      walk_at "go"
      refine S.iteT (by simp) ?_
      walk_at "go"
      refine S.lcS (S.iZipT ?_)
      walk_at "go"
      obtain ⟨va, xs, rfl, hva, hxs⟩ := dp_tuple hv
      obtain ⟨ua, ys, rfl, hua, hys⟩ := dp_tuple hu'
      have g12 := g1.trans g2
      refine ⟨va, ua, xs, ys, rfl, .inr ⟨same_tup g12.sub hva, same_tup g12.sub hua, fun D hD => ?_⟩⟩
      have lx := dp_len hxs
      have ly := dp_len hys
      have hHD := g12.free hD
      have fD := sub_free g12.sub hD
      refine lc_it (walk_zipT (K := K) (a := va) (b := ua) (xs := xs) (ys := ys) (n := ds.length) (by omega)) (fun i H' => ∃ F', Gr [] F H F' H' ∧ F' D = none ∧ H' D = some (.lst ((List.replicate i true).map V.bl))) ⟨F, g12.poke hHD fD, fD, upd_same⟩ ?_ ?_ ?_
      · rintro i H' _ ⟨F', g, _⟩
        exact ⟨same_tup (g.fs.trans g.sub) hva, same_tup (g.fs.trans g.sub) hua⟩
      · rintro i x H' H'' hi ⟨F', g, fD', hDD⟩ ⟨T, x1, y1, rfl, hT, rfl, ex, ey⟩
        obtain ⟨dx, hdx, hx⟩ := dp_getV hxs ex
        obtain ⟨dy, hdy, hy⟩ := dp_getV hys ey
        rw [hdx] at hdy
        obtain rfl := Option.some.inj hdy
        have g4 : Gr [] F' H' F' _ := Gr.newOwn (o := .tup [x1, y1]) g.sub hT
        have hTT : upd H' T (.tup [x1, y1]) T = _ := upd_same
        have hD4 := g4.at0 hDD
        generalize upd H' T _ = H4 at *
        refine S.gTupO hTT rfl ?_
        walk_at "go"
        refine ⟨rfl, ?_⟩
        refine S.yes ?_
        walk_at "go"
        refine S.iteT rfl ?_
        walk_at "go"
        have hm := depth_mem (List.mem_of_getElem? hdx)
        refine ⟨F', x1, y1, dx, rfl, g4.sub, hx.to g.fs, hy.to g.fs, ?_, wid_mem (List.mem_of_getElem? hdx) hw2, fun F5 H5 g5 => ?_⟩
        · unfold PyData.depth at hdep
          omega
        have hD5 := g5.at0 hD4
        have fD5 : F5 D = none := g5.own D fD' (by rw [hD4]; exact fun z => nomatch z)
        refine ⟨_, hD5, ?_, F5, ((g.trans g4).trans g5).poke hHD fD5, fD5, ?_⟩
        · rw [List.length_map, List.length_replicate]
          obtain ⟨hz1, hz2⟩ := List.getElem?_eq_some_iff.mp ex
          exact size1000000 (by omega)
        · rw [upd_same]
          congr 2
          rw [show V.bl true = (fun b : Bool => V.bl b) true from rfl]
          simp [List.replicate_succ']
      · rintro H' ⟨F', g, fD', hDD⟩
        walk_at "go"
        refine ⟨D, List.replicate ds.length true, rfl, SqL.of hDD, ?_⟩
        rw [show (List.replicate ds.length true).all id = true by rw [List.all_eq_true]; intro b hb; rw [(List.mem_replicate.mp hb).2]; rfl]
        exact kk F' H' g
    | dict kvs => cases hv

theorem ok__law_rule {P : Program} {w : World} {K : PySem.W.Frag} {mg : Str → Option Value} {base : Heap} {f : Addr} {fd : FuncData} (F : Fun K "_law_rule" "_law_rule" s__law_rule f fd) (B : Blt mg)
    (c__law_draw : Cal P w K mg base CX0 1 "_law_draw" P__law_draw spDraw) (c__law_pick : Cal P w K mg base CX0 2 "_law_pick" P__law_pick (spPick K))
    : FnOk P w K mg base CX0 (2 + 1) f fd P__law_rule (spRule K) := by
  refine F.ok sc__law_rule (fun vs H Q E h => ?_) (fun cdv A outer s H vs Q E hr h => ?_)
  · obtain ⟨F, q, m, rfl, _⟩ := h; rfl
  · have hu := hu_of hr
    have hu64 := Room.units hr
    obtain ⟨F, q, m, rfl, sm, fq, hq, hm, k⟩ := h
    refine ⟨_, (pss_cons (ps_set (i := 1) sc__law_rule.nd rfl (Or.inl rfl) (pe_callTy call_tuple_of rfl B.m_tuple (by decide +kernel) (pa_cons (pe_lc (own := [("turn", 2)]) rfl sc__law_rule.nd (pi_range1 rfl B.m_range (pa_cons (pe_cal c__law_draw (hr.mono (by first | decide | omega)) pass0 (pa_cons (pv 0) (pa_cons (pe_int) pa_nil))) pa_nil)) (blkOk_by (N := N__law_rule) (sc := defScope s__law_rule) (by decide +kernel)) (fun _ _ _ _ _ => (pg_name (i := 2) sc__law_rule.nd rfl (Or.inl rfl))) (fun _ _ _ _ _ => pts_nil) (fun _ _ _ _ _ => (pe_cal c__law_draw (hr.mono (by first | decide | omega)) pass0 (pa_cons (pv 0) (pa_cons (pe_int) pa_nil))))) pa_nil)))
      (pss_one (ps_ret (pe_cal c__law_pick (hr.mono (by first | decide | omega)) pass0 (pa_cons (pv 0) (pa_cons (pe_lst (pa_cons (pe_str) (pa_cons (pe_str) (pa_cons (pe_str) (pa_cons (pe_tup (pa_cons (pe_str) (pa_cons (pv 1) pa_nil))) pa_nil))))) pa_nil)))))), ?_⟩
    try dsimp only [cxOf, Cx.nox, Cx.wish]
    walk_at "sq"
    walk_at "gs"
    refine S.lcS (S.iRng1 ?_)
    walk_at "gs"
    refine ⟨F, q, 9, m, rfl, sm, fq, hq, by omega, by decide, by decide, fun cnt0 H4 g4 hq4 c0 c1 => ?_⟩
    walk_at "gs"
    refine ⟨by omega, by omega, fun D hD => ?_⟩
    have nD : D ≠ q := fun z => hq4.live (by rw [← z]; exact hD)
    have fD := sub_free g4.sub hD
    refine lc_it (walk_range (lo := 0) (n := cnt0.toNat)) (fun i H' => ∃ cs : List Int, Gr [q] F H4 F H' ∧ DkAt H' q (m + 1 + i) ∧ H' D = some (.lst (cs.map V.int)) ∧ cs.length = i ∧ ∀ c ∈ cs, 0 ≤ c ∧ c ≤ 15) ⟨[], (Gr.newOwn g4.sub hD), ?_, upd_same, rfl, fun _ h => nomatch h⟩ ?_ ?_ ?_
    · exact (hq4.poke nD.symm).more (by omega)
    · intros; trivial
    · rintro i x H' H'' hi ⟨cs, g5, hq5, hD5, hcl, hcs⟩ ⟨rfl, rfl⟩
      walk_at "gs"
      refine ⟨rfl, ?_⟩
      refine S.yes (S.iteT rfl ?_)
      walk_at "gs"
      refine ⟨F, q, 16, _, rfl, g5.sub, fq, hq5, by omega, by decide, by decide, fun y H6 g6 hq6 y0 y1 => ?_⟩
      have hD6 := g6.at (by simp [nD]) hD5
      refine ⟨_, hD6, by rw [List.length_map]; exact size1000000 (by omega), cs ++ [y], (g5.trans g6).poke hD fD, (hq6.poke nD.symm).more (by omega), by rw [upd_same]; simp, by simp [hcl], fun c hc => ?_⟩
      rcases List.mem_append.mp hc with hc | hc
      · exact hcs c hc
      · rw [List.mem_singleton.mp hc]; omega
    · rintro H5 ⟨cs, g5, hq5, hD5, hcl, hcs⟩
      have g05 := g4.trans g5
      walk_at "gs"
      refine ⟨D, _, rfl, .inl ⟨SqL.of hD5, ?_⟩⟩
      refine made_tupG (K := K) (ds := cs.map PyData.int) g5.sub (dp_ints _) fun t F6 g6 ht hv6 => ?_
      have hq6 := hq5.gr g6 (by simp)
      have g06 := g05.trans (g6.any (W := [q]))
      generalize upd H5 t _ = H6 at *
      walk_at "go"
      refine new_tupG (K := K) g6.sub (.cons (.str _) (.cons hv6 .nil)) (by show 2 ≤ sizeLine; decide) fun t2 F7 g7 ht2 hv7 => ?_
      have hq7 := hq6.gr g7 (by simp)
      have g07 := g06.trans (g7.any (W := [q]))
      have fq7 : F7 q = none := g7.own q (g6.own q fq hq5.live) hq6.live
      generalize upd H6 t2 _ = H7 at *
      walk_at "go"
      refine own_lstG g7.sub (by show 4 ≤ sizeLine; decide) fun D8 g8 hD8 fD8 hDD8 => ?_
      have hq8 := hq7.gr g8 (by simp)
      have n8 : D8 ≠ q := fun z => hq7.live (by rw [← z]; exact hD8)
      generalize upd H7 D8 _ = H8 at *
      refine ⟨F7, q, D8, [.str "first", .str "longest", .str "clock", .ref t2], _, rfl, g8.sub, fq7, hq8, by omega, .inl (SqL.of hDD8), (pick_own (F := F7) n8 (SqL.of hDD8)).2, by simp, by simp, fun j x H9 hj g9 hq9 => ?_⟩
      have hDp : DpAll K F7 [.str "first", .str "longest", .str "clock", .ref t2] ([Rule.first, .longest, .clock, .told cs].map ruleD) := .cons (.str _) (.cons (.str _) (.cons (.str _) (.cons hv7 .nil)))
      obtain ⟨d, hd, hxd⟩ := dp_getV hDp hj
      obtain ⟨R, rfl, hR⟩ := rules_ok (cs := cs) (by omega) hcs (List.mem_of_getElem? hd)
      exact k R x F7 H9 ((g07.trans g8.any).trans g9) (hq9.more (by omega)) hR hxd

theorem ok__law_address {P : Program} {w : World} {K : PySem.W.Frag} {mg : Str → Option Value} {base : Heap} {f : Addr} {fd : FuncData} (F : Fun K "_law_address" "_law_address" s__law_address f fd) (B : Blt mg)
    (c__law_draw : Cal P w K mg base CX0 1 "_law_draw" P__law_draw spDraw) (c__law_pick : Cal P w K mg base CX0 2 "_law_pick" P__law_pick (spPick K))
    : FnOk P w K mg base CX0 (2 + 1) f fd P__law_address (spAddr) := by
  refine F.ok sc__law_address (fun vs H Q E h => ?_) (fun cdv A outer s H vs Q E hr h => ?_)
  · obtain ⟨F, q, m, rfl, _⟩ := h; rfl
  · have hu := hu_of hr
    have hu64 := Room.units hr
    obtain ⟨F, q, m, rfl, sm, fq, hq, hm, k⟩ := h
    refine ⟨_, (pss_cons (ps_if (pt_cmpR (op_eqU hu64) (pe_cal c__law_draw (hr.mono (by first | decide | omega)) pass0 (pa_cons (pv 0) (pa_cons (pe_int) pa_nil))) (pe_int) (nomark _)) (pss_one (ps_ret (pe_cal c__law_draw (hr.mono (by first | decide | omega)) pass0 (pa_cons (pv 0) (pa_cons (pe_int) pa_nil))))) pss_nil)
      (pss_one (ps_ret (pe_cal c__law_pick (hr.mono (by first | decide | omega)) pass0 (pa_cons (pv 0) (pa_cons (pe_lst (pa_cons (pe_int) (pa_cons (pe_int) (pa_cons (pe_int) (pa_cons (pe_int) (pa_cons (pe_int) (pa_cons (pe_int) (pa_cons (pe_int) (pa_cons (pe_int) (pa_cons (pe_int) (pa_cons (pe_int) pa_nil))))))))))) pa_nil)))))), ?_⟩
    try dsimp only [cxOf, Cx.nox, Cx.wish]
    walk_at "sq"
    walk_at "gs"
    refine ⟨F, q, 6, m, rfl, sm, fq, hq, by omega, by decide, by decide, fun x H1 g1 hq1 x0 x1 => ?_⟩
    walk_at "gs"
    refine S.ite (fun e => ?_) (fun e => ?_)
    · walk_at "gs"
      refine ⟨F, q, 4096, _, rfl, g1.sub, fq, hq1, by omega, by decide, by decide, fun y H2 g2 hq2 y0 y1 => ?_⟩
      exact k y H2 (g1.trans g2) hq2 y0 y1
    · walk_at "gs"
      refine own_lstG g1.sub (by show 10 ≤ sizeLine; decide) fun D1 g2 hD1 fD1 hDD1 => ?_
      have hq2 := hq1.gr g2 (by simp)
      have n1 : D1 ≠ q := fun z => hq1.live (by rw [← z]; exact hD1)
      generalize upd H1 D1 _ = H2 at *
      refine ⟨F, q, D1, ([0, 1, 63, 64, 65, 127, 128, 4031, 4032, 4095] : List Int).map V.int, _, rfl, g2.sub, fq, hq2, by omega, .inl (SqL.of hDD1), (pick_own (F := F) n1 (SqL.of hDD1)).2, by simp, by simp, fun j x H3 hj g3 hq3 => ?_⟩
      rw [List.getElem?_map] at hj
      obtain ⟨a, ha, rfl⟩ : ∃ a, a ∈ ([0, 1, 63, 64, 65, 127, 128, 4031, 4032, 4095] : List Int) ∧ x = .int a := by
        cases q5 : ([0, 1, 63, 64, 65, 127, 128, 4031, 4032, 4095] : List Int)[j]? with
        | none => rw [q5] at hj; cases hj
        | some t => rw [q5] at hj; exact ⟨t, List.mem_of_getElem? q5, (Option.some.inj hj).symm⟩
      have ha2 : 0 ≤ a ∧ a < 4096 := by simp at ha; omega
      exact k a H3 ((g1.trans g2.any).trans g3) hq3 ha2.1 ha2.2

theorem ok__law_rows {P : Program} {w : World} {K : PySem.W.Frag} {mg : Str → Option Value} {base : Heap} {f : Addr} {fd : FuncData} (F : Fun K "_law_rows" "_law_rows" s__law_rows f fd) (B : Blt mg)
    : FnOk P w K mg base CX0 (0 + 1) f fd P__law_rows (spRowsL K) := by
  refine F.ok sc__law_rows (fun vs H Q E h => ?_) (fun cdv A outer s H vs Q E hr h => ?_)
  · obtain ⟨F, d, cells, rfl, _⟩ := h; rfl
  · have hu := hu_of hr
    have hu64 := Room.units hr
    obtain ⟨F, d, cells, rfl, sm, hd, nd, hl, k⟩ := h
    refine ⟨_, (pss_one (ps_ret (pe_callTy call_tuple_of rfl B.m_tuple (by decide +kernel) (pa_cons (pe_lc (own := [("address", 1)]) rfl sc__law_rows.nd (pi_seq (pe_callB (call_sortedKeys rfl) rfl B.m_sorted (by first | exact PySem.boot_sorted | decide +kernel) (pa_cons (pv 0) pa_nil))) (blkOk_by (N := N__law_rows) (sc := defScope s__law_rows) (by decide +kernel)) (fun _ _ _ _ _ => (pg_name (i := 1) sc__law_rows.nd rfl (Or.inl rfl))) (fun _ _ _ _ _ => pts_one (pt_cmpR (op_neUK (K := K) rfl hu64) (pe_dget hu (pv 0) (pv 1) (fun _ _ => rfl)) (pe_int) (nomark _))) (fun _ _ _ _ _ => (pe_tup (pa_cons (pv 1) (pa_cons (pe_dget hu (pv 0) (pv 1) (fun _ _ => rfl)) pa_nil))))) pa_nil)))), ?_⟩
    try dsimp only [cxOf, Cx.nox, Cx.wish]
    walk_at "gs"
    refine S.lcS (S.iSeqL ?_)
    walk_at "gs"
    refine ⟨d, _, keysA cells, rfl, hd, ?_, fun ys L hperm hpw hL => ?_⟩
    · unfold kM keysA; rw [List.map_map, List.map_map]; rfl
    obtain rfl := sortI_uniq hperm hpw
    have g2 : Gr [] F H F _ := Gr.newOwn (o := .lst ((sortI (keysA cells)).map V.int)) sm hL
    have hLL : upd H L (.lst ((sortI (keysA cells)).map V.int)) L = _ := upd_same
    have hd2 := g2.at0 hd
    generalize upd H L _ = H2 at *
    refine ⟨L, rfl, ⟨_, SqL.of hLL⟩, fun D hD => ?_⟩
    have fD := sub_free g2.sub hD
    have hkl : (sortI (keysA cells)).length ≤ 4096 := by rw [(sortI_perm _).length_eq]; simpa [keysA] using hl
    refine lc_it (walk_list (K := K) (a := L) (xs := (sortI (keysA cells)).map V.int)) (fun j H5 => ∃ F5 acc, Gr [] F H2 F5 H5 ∧ F5 D = none ∧ H5 D = some (.lst acc) ∧ DpAll K F5 acc (((((sortI (keysA cells)).take j).filter fun a => !decide ((getA cells a).getD 0 = 0)).map fun a => (a, (getA cells a).getD 0)).map prZ) ∧ acc.length ≤ j)
      ⟨F, [], Gr.newOwn g2.sub hD, fD, upd_same, .nil, Nat.le_refl _⟩ ?_ ?_ ?_
    · rintro j H5 _ ⟨F5, acc, g5, _⟩
      exact SqL.of (g5.at0 hLL)
    · rintro j w H5 H6 hj ⟨F5, acc, g5, fD5, hD5, hacc, hal⟩ ⟨rfl, hw⟩
      rw [List.getElem?_map] at hw
      obtain ⟨s, hs⟩ : ∃ s, (sortI (keysA cells))[j]? = some s := by
        cases q : (sortI (keysA cells))[j]? with
        | none => rw [q] at hw; cases hw
        | some t => exact ⟨t, rfl⟩
      rw [hs] at hw
      obtain rfl : V.int s = w := Option.some.inj hw
      obtain ⟨own, hown⟩ := getA_isSome_of_mem ((sortI_perm _).subset (List.mem_of_getElem? hs))
      have hrow5 := g5.at0 hd2
      have hfil : ((sortI (keysA cells)).take (j + 1)).filter (fun a => !decide ((getA cells a).getD 0 = 0)) = if own = 0 then ((sortI (keysA cells)).take j).filter (fun a => !decide ((getA cells a).getD 0 = 0)) else ((sortI (keysA cells)).take j).filter (fun a => !decide ((getA cells a).getD 0 = 0)) ++ [s] := by
        rw [take_succ_get hs, filter_snoc, hown]
        by_cases e : own = 0 <;> simp [e]
      rw [hfil]
      rw [List.length_map] at hj
      walk_at "gs"
      refine ⟨rfl, ?_⟩
      walk_at "gs"
      refine dget_of (k := Sum.inl s) hrow5 (by rw [valV_kM, hown]; rfl) ?_
      walk_at "gs"
      refine S.ite (fun e => ?_) (fun e => ?_)
      · have e' : ¬ own = 0 := by simpa using e
        rw [if_neg e']
        walk_at "gs"
        refine dget_of (k := Sum.inl s) hrow5 (by rw [valV_kM, hown]; rfl) ?_
        refine new_tupG (K := K) g5.sub (ds := [.int s, .int own]) (.cons (.int _) (.cons (.int _) .nil)) (by show 2 ≤ sizeLine; decide) fun z F7 g7 hz hvz => ?_
        have hD7 := g7.at0 hD5
        have fD7 : F7 D = none := g7.own D fD5 (by rw [hD5]; exact fun z => nomatch z)
        generalize upd H6 z _ = H7 at *
        refine ⟨acc, hD7, size1000000 (by omega), F7, acc ++ [.ref z], (g5.trans g7).poke hD fD7, fD7, upd_same, ?_, by simp; omega⟩
        rw [List.map_append, List.map_append]
        refine dp_app (hacc.to g7.fs) (.cons ?_ .nil)
        show Dp K F7 (.ref z) (.tuple [.int s, .int ((getA cells s).getD 0)])
        rw [hown]
        exact hvz
      · have e' : own = 0 := by simpa using e
        rw [if_pos e']
        exact ⟨F5, acc, g5, fD5, hD5, hacc, by omega⟩
    · rintro H5 ⟨F5, acc, g5, fD5, hD5, hacc, hal⟩
      rw [List.length_map, List.take_length] at hacc
      walk_at "gs"
      refine ⟨D, acc, rfl, .inl ⟨SqL.of hD5, made_tupG (K := K) g5.sub hacc fun l F8 g8 hl2 hv => ?_⟩⟩
      exact k _ F8 _ ((g2.trans g5).trans g8) hv

theorem ok__law_call {P : Program} {w : World} {K : PySem.W.Frag} {mg : Str → Option Value} {base : Heap} {f : Addr} {fd : FuncData} (F : Fun K "_law_call" "_law_call" s__law_call f fd) (B : Blt mg)
    (c__law_draw : Cal P w K mg base CX0 1 "_law_draw" P__law_draw spDraw) (c__law_pick : Cal P w K mg base CX0 2 "_law_pick" P__law_pick (spPick K)) (c__law_address : Cal P w K mg base CX0 3 "_law_address" P__law_address spAddr)
    : FnOk P w K mg base CX0 (4 + 1) f fd P__law_call (spCallL K) := by
  refine F.ok sc__law_call (fun vs H Q E h => ?_) (fun cdv A outer s H vs Q E hr h => ?_)
  · obtain ⟨F, q, tA, mA, there, met, m, rfl, _⟩ := h; rfl
  · have hu := hu_of hr
    have hu64 := Room.units hr
    obtain ⟨F, q, tA, mA, there, met, m, rfl, sm, fq, hq, hm, hT, hM, ntq, nmq, hne, htl, hml, k⟩ := h
    refine ⟨_, (pss_cons (ps_par (i := 3) (j := 4) rfl sc__law_call.nd rfl rfl (by decide) rfl rfl (pa_cons (pe_cal c__law_draw (hr.mono (by first | decide | omega)) pass0 (pa_cons (pv 0) (pa_cons (pe_int) pa_nil))) (pa_cons (pe_cal c__law_pick (hr.mono (by first | decide | omega)) pass0 (pa_cons (pv 0) (pa_cons (pv 1) pa_nil))) pa_nil)) rfl)
      (pss_cons (ps_if (PW.pt (pw_and (pt_cmpR (op_eqU hu64) (pv 3) (pe_int) (nomark _)) (pw_and1 (pt_cmpR op_lt (pe_callB call_lenU rfl B.m_len (by first | exact PySem.boot_len | decide +kernel) (pa_cons (pv 2) pa_nil)) (pe_int) (nomark _))))) (pss_one (ps_ret (pe_tup (pa_cons (pe_str) (pa_cons (pv 4) (pa_cons (pe_cal c__law_pick (hr.mono (by first | decide | omega)) pass0 (pa_cons (pv 0) (pa_cons (pe_lc (own := [("child", 6)]) rfl sc__law_call.nd (pi_range2 rfl B.m_range (pa_cons (pe_int) (pa_cons (pe_int) pa_nil))) (blkOk_by (N := N__law_call) (sc := defScope s__law_call) (by decide +kernel)) (fun _ _ _ _ _ => (pg_name (i := 6) sc__law_call.nd rfl (Or.inl rfl))) (fun _ _ _ _ _ => pts_one (pt_cmpR (op_notIn_seqK (K := K) rfl) (pv 6) (pv 2) (by first | rfl | exact nomark _))) (fun _ _ _ _ _ => (pv 6))) pa_nil))) pa_nil)))))) pss_nil)
      (pss_cons (ps_if (PW.pt (pw_and (pt_cmpR (op_eqU hu64) (pv 3) (pe_int) (nomark _)) (pw_and1 (pt_cmpR op_gt (pe_callB call_lenU rfl B.m_len (by first | exact PySem.boot_len | decide +kernel) (pa_cons (pv 1) pa_nil)) (pe_int) (nomark _))))) (pss_one (ps_ret (pe_tup (pa_cons (pe_str) (pa_cons (pv 4) pa_nil))))) pss_nil)
      (pss_cons (ps_if (pt_cmpR op_lt (pv 3) (pe_int) (nomark _)) (pss_one (ps_ret (pe_tup (pa_cons (pe_str) (pa_cons (pv 4) (pa_cons (pe_cal c__law_address (hr.mono (by first | decide | omega)) pass0 (pa_cons (pv 0) pa_nil)) pa_nil)))))) pss_nil)
      (pss_cons (ps_set (i := 5) sc__law_call.nd rfl (Or.inl rfl) (pe_cal c__law_pick (hr.mono (by first | decide | omega)) pass0 (pa_cons (pv 0) (pa_cons (pe_lst (pa_cons (pe_int) (pa_cons (pe_int) (pa_cons (pe_int) (pa_cons (pe_int) (pa_cons (pe_cal c__law_draw (hr.mono (by first | decide | omega)) pass0 (pa_cons (pv 0) (pa_cons (pe_int) pa_nil))) pa_nil)))))) pa_nil))))
      (pss_one (ps_ret (pe_tup (pa_cons (pe_str) (pa_cons (pv 4) (pa_cons (pe_cal c__law_address (hr.mono (by first | decide | omega)) pass0 (pa_cons (pv 0) pa_nil)) (pa_cons (pv 5) pa_nil)))))))))))), ?_⟩
    try dsimp only [cxOf, Cx.nox, Cx.wish]
    have pickI : ∀ {l : List Int} {j : Nat} {x : V}, (l.map V.int)[j]? = some x → ∃ t ∈ l, x = .int t := fun {l j x} hj => by
      rw [List.getElem?_map] at hj
      cases q5 : l[j]? with
      | none => rw [q5] at hj; cases hj
      | some t => rw [q5] at hj; exact ⟨t, List.mem_of_getElem? q5, (Option.some.inj hj).symm⟩
    walk_at "sq"
    walk_at "gs"
    refine ⟨F, q, 16, m, rfl, sm, fq, hq, by omega, by decide, by decide, fun way H1 g1 hq1 w0 w1 => ?_⟩
    have hT1 := g1.at (by simp [ntq]) hT
    have hM1 := g1.at (by simp [nmq]) hM
    walk_at "gs"
    refine ⟨F, q, tA, _, _, rfl, g1.sub, fq, hq1, by omega, .inl (SqL.of hT1), (pick_own (F := F) ntq (SqL.of hT1)).2, by simpa using hne, by rw [List.length_map]; omega, fun j x H2 hj g2 hq2 => ?_⟩
    obtain ⟨task, htask, rfl⟩ := pickI hj
    have hT2 := g2.at (by simp [ntq]) hT1
    have hM2 := g2.at (by simp [nmq]) hM1
    have g02 := g1.trans g2
    walk_at "gs"
    refine ⟨_, _, rfl, ?_⟩
    with_reducible refine S.seqQ (fun σ' H' => H' = H2 ∧ σ' = [some (V.ref q), some (V.ref tA), some (V.ref mA), some (V.int way), some (V.int task), none, none]) ?_ ?_
    · rintro σ' H' ⟨rfl, rfl⟩
      with_reducible refine S.seqQ (fun σ' H2 => H2 = H' ∧ σ' = [some (V.ref q), some (V.ref tA), some (V.ref mA), some (V.int way), some (V.int task), none, none]) ?_ ?_
      · rintro σ' H2 ⟨rfl, rfl⟩
        walk_at "sq"
        walk_at "gs"
        refine S.ite (fun e => ?_) (fun e => ?_)
        · walk_at "gs"
          refine ⟨F, q, _, rfl, g2.sub, fq, hq2, by omega, fun a H3 g3 hq3 a0 a1 => ?_⟩
          walk_at "gs"
          refine new_tupG (K := K) g3.sub (ds := [.str "load", .int task, .int a]) (.cons (.str _) (.cons (.int _) (.cons (.int _) .nil))) (by show 3 ≤ sizeLine; decide) fun t F10 g10 ht hv => ?_
          exact k (.load task a) _ F10 _ ((g02.trans g3).trans g10.any) ((hq3.gr g10 (by simp)).more (by omega)) ⟨htask, a0, a1⟩ hv
        · walk_at "gs"
          walk_at "sq"
          walk_at "gs"
          refine ⟨F, q, 65536, _, rfl, g2.sub, fq, hq2, by omega, by decide, by decide, fun f4 H3 g3 hq3 y0 y1 => ?_⟩
          walk_at "gs"
          refine own_lstG g3.sub (by show 5 ≤ sizeLine; decide) fun D1 g4 hD1 fD1 hDD1 => ?_
          have hq4 := hq3.gr g4 (by simp)
          have n1 : D1 ≠ q := fun z => hq3.live (by rw [← z]; exact hD1)
          generalize upd H3 D1 _ = H4 at *
          refine ⟨F, q, D1, ([0, 0, 1, 65535, f4] : List Int).map V.int, _, rfl, g4.sub, fq, hq4, by omega, .inl (SqL.of hDD1), (pick_own (F := F) n1 (SqL.of hDD1)).2, by simp, by simp, fun j x H5 hj g5 hq5 => ?_⟩
          obtain ⟨f, hf, rfl⟩ := pickI hj
          have hf2 : 0 ≤ f ∧ f ≤ 65535 := by simp at hf; omega
          have g05 := ((g02.trans g3).trans g4.any).trans g5
          walk_at "gs"
          refine ⟨F, q, _, rfl, g5.sub, fq, hq5, by omega, fun a H6 g6 hq6 a0 a1 => ?_⟩
          walk_at "gs"
          refine new_tupG (K := K) g6.sub (ds := [.str "store", .int task, .int a, .int f]) (.cons (.str _) (.cons (.int _) (.cons (.int _) (.cons (.int _) .nil)))) (by show 4 ≤ sizeLine; decide) fun t F10 g10 ht hv => ?_
          exact k (.store task a f) _ F10 _ ((g05.trans g6).trans g10.any) ((hq6.gr g10 (by simp)).more (by omega)) ⟨htask, ⟨a0, a1⟩, hf2⟩ hv
      · intro nx9 hrest
        walk_at "gs"
        refine S.ite (fun e => ?_) (fun e => ?_)
        · walk_at "gs"
          refine S.lenO hT2 ?_
          rw [List.length_map]
          walk_at "gs"
          refine S.ite (fun e2 => ?_) (fun e2 => ?_)
          · walk_at "gs"
            refine new_tupG (K := K) g2.sub (ds := [.str "end", .int task]) (.cons (.str _) (.cons (.int _) .nil)) (by show 2 ≤ sizeLine; decide) fun t F10 g10 ht hv => ?_
            exact k (.fin task) _ F10 _ (g02.trans g10.any) ((hq2.gr g10 (by simp)).more (by omega)) ⟨htask, by have := of_decide_eq_true e2; omega⟩ hv
          · exact S.next (hrest _ _ ⟨rfl, rfl⟩)
        · exact S.next (hrest _ _ ⟨rfl, rfl⟩)
    · intro nx9 hrest
      walk_at "gs"
      refine S.ite (fun e => ?_) (fun e => ?_)
      · walk_at "gs"
        refine S.lenO hM2 ?_
        rw [List.length_map]
        walk_at "gs"
        refine S.ite (fun e2 => ?_) (fun e2 => ?_)
        · have hm6 : met.length < 6 := by have := of_decide_eq_true e2; omega
          walk_at "gs"
          refine S.lcS (S.iRng2 ?_)
          walk_at "gs"
          refine ⟨(by decide), fun D hD => ?_⟩
          have nDm : D ≠ mA := fun z => by rw [z, hM2] at hD; cases hD
          have nDq : D ≠ q := fun z => hq2.live (by rw [← z]; exact hD)
          have fD := sub_free g2.sub hD
          refine lc_it (walk_range (lo := 1) (n := ((7 : Int) - 1).toNat)) (fun i H9 => ∃ acc : List Int, H9 = upd H2 D (.lst (acc.map V.int)) ∧ acc.length ≤ i ∧ (∀ n ∈ acc, (1 ≤ n ∧ n ≤ 6) ∧ n ∉ met) ∧ ∀ n : Int, 1 ≤ n → n < 1 + i → n ∉ met → n ∈ acc) ⟨[], rfl, Nat.le_refl _, (fun _ h => nomatch h), fun n h1 h2 _ => by omega⟩ ?_ ?_ ?_
          · intros; trivial
          · rintro i2 x H8 H9 hi2 ⟨acc, rfl, hal2, hacc, hall⟩ ⟨rfl, rfl⟩
            have hi3 : i2 < 6 := hi2
            walk_at "gs"
            refine ⟨rfl, ?_⟩
            walk_at "gs"
            refine S.ninL (K := K) (p := mA) ((upd_ne nDm.symm).trans hM2) rfl (flat_ints _) ?_
            rw [inV_ints]
            walk_at "gs"
            refine S.ite (fun e => ?_) (fun e => ?_)
            · have hn : (1 + (i2 : Int)) ∉ met := by simpa using e
              walk_at "gs"
              refine ⟨_, upd_same, by rw [List.length_map]; exact size1000000 (by omega), acc ++ [1 + (i2 : Int)], by rw [upd_upd]; simp, by simp; omega, fun n hnn => ?_, fun n h1 h2 h3 => ?_⟩
              · rcases List.mem_append.mp hnn with h | h
                · exact hacc n h
                · rw [List.mem_singleton.mp h]; exact ⟨⟨by omega, by omega⟩, hn⟩
              · by_cases z : n = 1 + (i2 : Int)
                · rw [z]; simp
                · exact List.mem_append_left _ (hall n h1 (by omega) h3)
            · have hn : (1 + (i2 : Int)) ∈ met := by simpa using e
              refine ⟨acc, rfl, by omega, hacc, fun n h1 h2 h3 => hall n h1 ?_ h3⟩
              by_cases z : n = 1 + (i2 : Int)
              · rw [z] at h3; exact absurd hn h3
              · omega
          rintro H8 ⟨acc, rfl, hal2, hacc, hall⟩
          have hne2 : acc ≠ [] := by
            rintro rfl
            have hsub : ∀ x ∈ ([1, 2, 3, 4, 5, 6] : List Int), x ∈ met := fun x hx => by
              by_cases z : x ∈ met
              · exact z
              · have hx2 : 1 ≤ x ∧ x < 1 + (((7 : Int) - 1).toNat : Int) := by
                  simp at hx
                  show 1 ≤ x ∧ x < 1 + 6
                  omega
                exact absurd (hall x hx2.1 hx2.2 z) (by simp)
            have := len_of_sub (l := [1, 2, 3, 4, 5, 6]) (by decide) hsub
            simp at this
            omega
          have hal3 : acc.length ≤ 6 := hal2
          have g8 : Gr [] F H2 F _ := Gr.newOwn (o := .lst (acc.map V.int)) g2.sub hD
          have hD8 : upd H2 D (.lst (acc.map V.int)) D = _ := upd_same
          have hq8 := hq2.gr g8 (by simp)
          generalize upd H2 D _ = H8 at *
          walk_at "gs"
          refine ⟨F, q, D, _, _, rfl, g8.sub, fq, hq8, by omega, .inl (SqL.of hD8), (pick_own (F := F) nDq (SqL.of hD8)).2, by simpa using hne2, by rw [List.length_map]; omega, fun j x H9 hj g9 hq9 => ?_⟩
          obtain ⟨child, hch, rfl⟩ := pickI hj
          walk_at "gs"
          refine new_tupG (K := K) g9.sub (ds := [.str "fork", .int task, .int child]) (.cons (.str _) (.cons (.int _) (.cons (.int _) .nil))) (by show 3 ≤ sizeLine; decide) fun t F10 g10 ht hv => ?_
          exact k (.fork task child) _ F10 _ (((g02.trans g8.any).trans g9).trans g10.any) ((hq9.gr g10 (by simp)).more (by omega)) ⟨htask, (hacc child hch).1, (hacc child hch).2⟩ hv
        · exact S.next (hrest _ _ ⟨rfl, rfl⟩)
      · exact S.next (hrest _ _ ⟨rfl, rfl⟩)

theorem ok__law_done {P : Program} {w : World} {K : PySem.W.Frag} {mg : Str → Option Value} {base : Heap} {f : Addr} {fd : FuncData} (F : Fun K "_law_done" "_law_done" s__law_done f fd) (B : Blt mg)
    {C C2 C3 : Addr} (TP3 : PgC K C3) (c_Pages_load : MCal P w K mg base CX0 5 C3 "load" P_Pages_load (spPLoad K C C2 C3)) (c_Pages_store : MCal P w K mg base CX0 5 C3 "store" P_Pages_store (spPStore K C C2 C3)) (c_Pages_fork : MCal P w K mg base CX0 4 C3 "fork" P_Pages_fork (spPFork K C C2 C3)) (c_Pages_end : MCal P w K mg base CX0 5 C3 "end" P_Pages_end (spPEnd K C C2 C3))
    : FnOk P w K mg base CX0 (5 + 1) f fd P__law_done (spDone13 K C C2 C3) := by
  refine F.ok sc__law_done (fun vs H Q E h => ?_) (fun cdv A outer s H vs Q E hr h => ?_)
  · obtain ⟨F, pg, Z, W, w, c, n, R, rfl, _⟩ := h; rfl
  · have hu := hu_of hr
    have hu64 := Room.units hr
    have cl_Pages := TP3.cl
    obtain ⟨F, pg, Z, W, wv, c, n, R, rfl, sm, hA, hW, ho, ha, hd, k⟩ := h
    have hob : ∃ dx fs, H pg = some (.ins C3 dx fs) ∧ fs = (fs : List (Str × V)) ∧ fs.lookup ("load" : Str) = none ∧ fs.lookup ("store" : Str) = none ∧ fs.lookup ("fork" : Str) = none ∧ fs.lookup ("end" : Str) = none := by
      obtain ⟨p1, p2, fa, pa, oa, T, W1, W2, ps, xs, rfl, P0⟩ := hA
      obtain ⟨dx, hp⟩ := P0.ob
      exact ⟨dx, _, hp, rfl, rfl, rfl, rfl, rfl⟩
    obtain ⟨dx, fs, hp, _, l1, l2, l3, l4⟩ := hob
    refine ⟨_, (pss_cons (ps_if (pt_cmpR (op_eqU hu64) (pe_ix ix_seq (pv 1) (pe_int) (fun _ _ => rfl)) (pe_str) (nomark _)) (pss_one (ps_ret (pe_mcal c_Pages_load cl_Pages (hr.mono (by first | decide | omega)) pass0 (pv 0) (pa_cons (pe_ix ix_seq (pv 1) (pe_int) (fun _ _ => rfl)) (pa_cons (pe_ix ix_seq (pv 1) (pe_int) (fun _ _ => rfl)) pa_nil))))) pss_nil)
      (pss_cons (ps_if (pt_cmpR (op_eqU hu64) (pe_ix ix_seq (pv 1) (pe_int) (fun _ _ => rfl)) (pe_str) (nomark _)) (pss_one (ps_ret (pe_mcal c_Pages_store cl_Pages (hr.mono (by first | decide | omega)) pass0 (pv 0) (pa_cons (pe_ix ix_seq (pv 1) (pe_int) (fun _ _ => rfl)) (pa_cons (pe_ix ix_seq (pv 1) (pe_int) (fun _ _ => rfl)) (pa_cons (pe_ix ix_seq (pv 1) (pe_int) (fun _ _ => rfl)) pa_nil)))))) pss_nil)
      (pss_one (ps_ret (pe_ifExp (pt_cmpR (op_eqU hu64) (pe_ix ix_seq (pv 1) (pe_int) (fun _ _ => rfl)) (pe_str) (nomark _)) (pe_mcal c_Pages_fork cl_Pages (hr.mono (by first | decide | omega)) pass0 (pv 0) (pa_cons (pe_ix ix_seq (pv 1) (pe_int) (fun _ _ => rfl)) (pa_cons (pe_ix ix_seq (pv 1) (pe_int) (fun _ _ => rfl)) pa_nil))) (pe_mcal c_Pages_end cl_Pages (hr.mono (by first | decide | omega)) pass0 (pv 0) (pa_cons (pe_ix ix_seq (pv 1) (pe_int) (fun _ _ => rfl)) pa_nil))))))), ?_⟩
    try dsimp only [cxOf, Cx.nox, Cx.wish]
    cases c with
    | load t a =>
      obtain ⟨a0, a1⟩ := ha
      walk_at "go"
      refine S.ixT (K := K) hd sm (d := .str "load") S.atI_0 fun w0 hw0 => ?_
      obtain rfl := dp_str hw0
      walk_at "gs"
      refine S.iteT rfl ?_
      walk_at "gs"
      refine meth_of hp l1 ?_
      walk_at "gs"
      refine S.ixT (K := K) hd sm (d := .int t) S.atI_1 fun w0 hw0 => ?_
      obtain rfl := dp_int hw0
      walk_at "gs"
      refine S.ixT (K := K) hd sm (d := .int a) S.atI_2 fun w0 hw0 => ?_
      obtain rfl := dp_int hw0
      exact ⟨F, pg, Z, W, t, a, n, R, rfl, sm, hA, hW, okD_there ho t (.inl ⟨a, rfl⟩), a0, a1, k⟩
    | store t a f =>
      obtain ⟨⟨a0, a1⟩, f0, f1⟩ := ha
      walk_at "go"
      refine S.ixT (K := K) hd sm (d := .str "store") S.atI_0 fun w0 hw0 => ?_
      obtain rfl := dp_str hw0
      walk_at "go"
      refine S.iteF rfl ?_
      walk_at "go"
      refine S.ixT (K := K) hd sm (d := .str "store") S.atI_0 fun w0 hw0 => ?_
      obtain rfl := dp_str hw0
      walk_at "go"
      refine S.iteT rfl ?_
      walk_at "go"
      refine meth_of hp l2 ?_
      walk_at "gs"
      refine S.ixT (K := K) hd sm (d := .int t) S.atI_1 fun w0 hw0 => ?_
      obtain rfl := dp_int hw0
      walk_at "gs"
      refine S.ixT (K := K) hd sm (d := .int a) S.atI_2 fun w0 hw0 => ?_
      obtain rfl := dp_int hw0
      walk_at "gs"
      refine S.ixT (K := K) hd sm (d := .int f) (S.atI_nat (j := 3) rfl) fun w0 hw0 => ?_
      obtain rfl := dp_int hw0
      exact ⟨F, pg, Z, W, t, a, f, n, R, rfl, sm, hA, hW, okD_there ho t (.inr ⟨a, f, rfl⟩), a0, a1, f0, f1, k⟩
    | fork t c =>
      walk_at "go"
      refine S.ixT (K := K) hd sm (d := .str "fork") S.atI_0 fun w0 hw0 => ?_
      obtain rfl := dp_str hw0
      walk_at "go"
      refine S.iteF rfl ?_
      walk_at "go"
      refine S.ixT (K := K) hd sm (d := .str "fork") S.atI_0 fun w0 hw0 => ?_
      obtain rfl := dp_str hw0
      walk_at "go"
      refine S.iteF rfl ?_
      walk_at "go"
      refine S.ixT (K := K) hd sm (d := .str "fork") S.atI_0 fun w0 hw0 => ?_
      obtain rfl := dp_str hw0
      walk_at "go"
      refine S.iteT rfl ?_
      walk_at "go"
      refine meth_of hp l3 ?_
      walk_at "gs"
      refine S.ixT (K := K) hd sm (d := .int t) S.atI_1 fun w0 hw0 => ?_
      obtain rfl := dp_int hw0
      walk_at "gs"
      refine S.ixT (K := K) hd sm (d := .int c) S.atI_2 fun w0 hw0 => ?_
      obtain rfl := dp_int hw0
      exact ⟨F, pg, Z, W, t, c, n, R, rfl, sm, hA, hW, ho, k⟩
    | fin t =>
      walk_at "go"
      refine S.ixT (K := K) hd sm (d := .str "end") S.atI_0 fun w0 hw0 => ?_
      obtain rfl := dp_str hw0
      walk_at "go"
      refine S.iteF rfl ?_
      walk_at "go"
      refine S.ixT (K := K) hd sm (d := .str "end") S.atI_0 fun w0 hw0 => ?_
      obtain rfl := dp_str hw0
      walk_at "go"
      refine S.iteF rfl ?_
      walk_at "go"
      refine S.ixT (K := K) hd sm (d := .str "end") S.atI_0 fun w0 hw0 => ?_
      obtain rfl := dp_str hw0
      walk_at "go"
      refine S.iteF rfl ?_
      walk_at "go"
      refine meth_of hp l4 ?_
      walk_at "gs"
      refine S.ixT (K := K) hd sm (d := .int t) S.atI_1 fun w0 hw0 => ?_
      obtain rfl := dp_int hw0
      exact ⟨F, pg, Z, W, t, n, R, rfl, sm, hA, hW, ho, k⟩

theorem ok__law_bodies_right {P : Program} {w : World} {K : PySem.W.Frag} {mg : Str → Option Value} {base : Heap} {f : Addr} {fd : FuncData} (F : Fun K "_law_bodies_right" "_law_bodies_right" s__law_bodies_right f fd) (B : Blt mg)
    {C C2 C3 : Addr} (TP3 : PgC K C3) (c_Pages_body : MCal P w K mg base CX0 4 C3 "body" P_Pages_body (spPBody K C C2 C3))
    : FnOk P w K mg base CX0 (4 + 1) f fd P__law_bodies_right (spBodR K C C2 C3) := by
  refine F.ok sc__law_bodies_right (fun vs H Q E h => ?_) (fun cdv A outer s H vs Q E hr h => ?_)
  · obtain ⟨F, pg, fl, sl, Z, W, TF, sxs, stL, there, met, n, R, rfl, _⟩ := h; rfl
  · have hu := hu_of hr
    have hu64 := Room.units hr
    have cl_Pages := TP3.cl
    have hu65 := hu65_of hr
    obtain ⟨F, pg, fl, sl, Z, W, TF, sxs, stL, there, met, n, R, rfl, sm, hA, hW, hT, hsl, hsd, rel, k⟩ := h
    have htl : TF.length ≤ 6 := by have := rel.tl; simpa [sheetsOf] using this
    have hnk : (keysA TF).Nodup := by have := rel.nk; rwa [keys_sheetsOf] at this
    refine ⟨_, (pss_cons (ps_set (i := 3) sc__law_bodies_right.nd rfl (Or.inl rfl) (pe_dnewK))
      (pss_cons (ps_for PassesOwn.never rfl (pi_seq (pe_callB (call_sortedDI rfl) rfl B.m_sorted (by first | exact PySem.boot_sorted | decide +kernel) (pa_cons (pv 1) pa_nil))) (pg_name (i := 4) sc__law_bodies_right.nd rfl (Or.inr rfl)) (pss_one (ps_for PassesOwn.never rfl (pi_seq (pe_tup (pa_cons (pe_int) (pa_cons (pe_int) (pa_cons (pe_int) (pa_cons (pe_int) (pa_cons (pe_int) pa_nil))))))) (pg_name (i := 5) sc__law_bodies_right.nd rfl (Or.inr rfl)) (pss_cons (ps_set (i := 6) sc__law_bodies_right.nd rfl (Or.inl rfl) (pe_mcal c_Pages_body cl_Pages (hr.mono (by first | decide | omega)) pass0 (pv 0) (pa_cons (pv 4) (pa_cons (pv 5) pa_nil))))
      (pss_cons (ps_if (pt_cmpR (op_neU hu64) (pe_cmpR op_isU (pv 6) (pe_non) (nomark _)) (pe_cmpR (op_notInD hu65) (pe_tup (pa_cons (pv 4) (pa_cons (pv 5) pa_nil))) (pv 2) (by first | rfl | exact nomark _)) (nomark _)) (pss_one (ps_ret (pe_bl))) pss_nil)
      (pss_cons (ps_setLc (i := 7) (own := [("at", 8)]) rfl sc__law_bodies_right.nd rfl rfl (sw_true rfl rfl rfl (by decide +kernel)) (pi_range1 rfl B.m_range (pa_cons (pe_int) pa_nil)) (blkOk_by (N := N__law_bodies_right) (sc := defScope s__law_bodies_right) (by decide +kernel)) (fun _ _ _ _ _ => (pg_name (i := 8) sc__law_bodies_right.nd rfl (Or.inl rfl))) (fun _ _ _ _ _ => pts_nil) (fun _ _ _ _ _ => (pe_dget2 hu (pe_dget hu (pv 1) (pv 4) (fun _ _ => rfl)) (pe_op (op_addUK (K := K) rfl) (pe_op op_mulW (pe_int) (pv 5)) (pv 8)) (pe_int) ⟨rfl, rfl, rfl, rfl⟩)))
      (pss_cons (ps_if (PW.pt (pw_and (pt_cmpR op_isNotU (pv 6) (pe_non) (nomark _)) (pw_and1 (pt_cmpR (op_neU hu64) (pe_dget2 hu (pv 3) (pv 6) (pe_tup (pa_cons (pv 5) (pa_cons (pv 7) pa_nil))) ⟨rfl, rfl, rfl, rfl⟩) (pe_tup (pa_cons (pv 5) (pa_cons (pv 7) pa_nil))) (nomark _))))) (pss_one (ps_ret (pe_bl))) pss_nil)
      (pss_one (ps_if (pt_cmpR op_isNotU (pv 6) (pe_non) (nomark _)) (pss_one (ps_dput hu (pv 3) (pv 6) (pe_tup (pa_cons (pv 5) (pa_cons (pv 7) pa_nil))) rfl)) pss_nil)))))))))
      (pss_one (ps_ret (pe_bl))))), ?_⟩
    try dsimp only [cxOf, Cx.nox, Cx.wish]
    walk_at "sq"
    walk_at "gs"
    refine S.dnewK fun sn hsn => ?_
    have fsn := sub_free sm hsn
    have g1 : Gr [] F H F _ := Gr.newOwn (o := .dK []) sm hsn
    have hs1 : upd H sn (.dK []) sn = some (.dK []) := upd_same
    generalize upd H sn _ = H1 at *
    walk_at "gs"
    walk_at "sq"
    refine S.forS (S.iSeqL ?_)
    walk_at "gs"
    refine ⟨fl, _, keysA TF, rfl, .inl (g1.at0 hT.tab), ?_, by simp only [keysA, List.length_map]; omega, fun ys L hperm hpw hL => ?_⟩
    · unfold kM keysA; rw [List.map_map, List.map_map]; rfl
    obtain rfl := sortI_uniq hperm hpw
    have g2 : Gr [] F H1 F _ := Gr.newOwn (o := .lst ((sortI (keysA TF)).map V.int)) g1.sub hL
    have hLL : upd H1 L (.lst ((sortI (keysA TF)).map V.int)) L = _ := upd_same
    have g02 := g1.trans g2
    have hs2 := g2.at0 hs1
    generalize upd H1 L _ = H2 at *
    refine ⟨L, rfl, ⟨_, SqL.of hLL⟩, ?_⟩
    have hlen : (sortI (keysA TF)).length ≤ 6 := by rw [(sortI_perm _).length_eq]; simpa [keysA] using htl
    have nLs : L ≠ sn := fun z => by rw [z, hs2] at hLL; cases hLL
    refine for_it (walk_list (K := K) (a := L) (xs := (sortI (keysA TF)).map V.int)) (fun i σ H' => ∃ F' D o4 o5 o6 o7 o8, Gr [] F H F' H' ∧ H' L = some (.lst ((sortI (keysA TF)).map V.int)) ∧ F' sn = none ∧ H' sn = some (.dK (kM (fun v : V => v) D)) ∧ SeenOk K F' Z.st Z.fg D ∧ D.length ≤ 5 * i ∧
      σ = [some (V.ref pg), some (V.ref fl), some (V.ref sl), some (V.ref sn), o4, o5, o6, o7, o8]) ?_ ?_ ?_ ?_
    · exact ⟨F, [], none, none, none, none, none, g02, hLL, fsn, hs2, (fun b v q => nomatch q), Nat.le_refl _, rfl⟩
    · rintro i σ H' _ ⟨F', D, o4, o5, o6, o7, o8, g, hL', _⟩
      exact SqL.of hL'
    · rintro i v σ H0 H' hi ⟨F', D, o4, o5, o6, o7, o8, g, hL', fs', hs', hse, hDl, rfl⟩ ⟨rfl, hv⟩
      rw [List.getElem?_map] at hv
      obtain ⟨t, ht⟩ : ∃ t, (sortI (keysA TF))[i]? = some t := by
        cases q : (sortI (keysA TF))[i]? with
        | none => rw [q] at hv; cases hv
        | some t => exact ⟨t, rfl⟩
      rw [ht] at hv
      obtain rfl : V.int t = v := Option.some.inj hv
      have hi6 : i < 6 := by rw [List.length_map] at hi; omega
      obtain ⟨⟨d, row⟩, hTt⟩ := getA_isSome_of_mem ((sortI_perm _).subset (List.mem_of_getElem? ht))
      have hft : getA (sheetsOf TF) t = some row := by rw [getA_rows, hTt]; rfl
      have hth : t ∈ there := (rel.fk t).mp (by rw [hft]; rfl)
      have hrow := hT.rows _ (getA_mem hTt)
      have htab := hT.tab
      walk_at "gs"
      refine S.forS (S.iSeqT ?_)
      walk_at "gs"
      refine new_tupS g.sub (fun tq g3 htq => ?_) (by show 5 ≤ sizeLine; decide)
      have hL3 := g3.at0 hL'
      have hs3 := g3.at0 hs'
      have g03 := g.trans g3
      generalize upd H' tq _ = H3 at *
      refine ⟨tq, rfl, ⟨_, .inl (.inl htq)⟩, ?_⟩
      refine for_it (walk_tup (K := K) (a := tq) (xs := [V.int 0, V.int 1, V.int 2, V.int 62, V.int 63])) (fun j σ H' => ∃ F' D o5 o6 o7 o8, Gr [] F H F' H' ∧ H' L = some (.lst ((sortI (keysA TF)).map V.int)) ∧ H' tq = some (.tup [V.int 0, V.int 1, V.int 2, V.int 62, V.int 63]) ∧ F' sn = none ∧ H' sn = some (.dK (kM (fun v : V => v) D)) ∧ SeenOk K F' Z.st Z.fg D ∧ D.length ≤ 5 * i + j ∧
        σ = [some (V.ref pg), some (V.ref fl), some (V.ref sl), some (V.ref sn), some (V.int t), o5, o6, o7, o8]) ?_ ?_ ?_ ?_
      · exact ⟨F', D, _, _, _, _, g03, hL3, htq, fs', hs3, hse, by omega, rfl⟩
      · rintro j σ H' _ ⟨F', D, o5, o6, o7, o8, g, hL', hq, _⟩
        exact .inl (.inl hq)
      · rintro j v σ H0 H4 hj ⟨F4, D4, o5, o6, o7, o8, g4, hL4, hq4, fs4, hs4, hse4, hDl4, rfl⟩ ⟨rfl, hv⟩
        obtain ⟨s, rfl, hs0, hs63⟩ : ∃ s : Int, v = .int s ∧ 0 ≤ s ∧ s < 64 := by
          have hm := List.mem_of_getElem? hv
          simp only [List.mem_cons, List.not_mem_nil, or_false] at hm
          rcases hm with rfl | rfl | rfl | rfl | rfl
          · exact ⟨0, rfl, by decide, by decide⟩
          · exact ⟨1, rfl, by decide, by decide⟩
          · exact ⟨2, rfl, by decide, by decide⟩
          · exact ⟨62, rfl, by decide, by decide⟩
          · exact ⟨63, rfl, by decide, by decide⟩
        have hj5 : j < 5 := hj
        have hA4 := hA.gr0 g4
        obtain ⟨dx4, fs, hob, _, _, _, _, lkb, _⟩ := Pg_ob hA4
        walk_at "gs"
        walk_at "sq"
        walk_at "gs"
        refine meth_of hob lkb ?_
        walk_at "gs"
        refine ⟨F4, pg, Z, W, t, s, rfl, g4.sub, hA4, rel.gi.there hth, ?_⟩
        walk_at "gs"
        walk_at "sq"
        walk_at "gs"
        refine new_tupG (K := K) g4.sub (ds := [.int t, .int s]) (.cons (.int _) (.cons (.int _) .nil)) (by show 2 ≤ sizeLine; decide) fun p F5 g5 hp hvp => ?_
        have g05 := g4.trans g5
        have hs5 := g5.at0 hs4
        have fs5 : F5 sn = none := g5.own sn fs4 (by rw [hs4]; exact fun z => nomatch z)
        have hL5 := g5.at0 hL4
        have hq5 := g5.at0 hq4
        generalize upd H4 p _ = H5 at *
        walk_at "gs"
        have hsd5 : Dp K H5 (.ref sl) (.list (stL.map prZ)) := .lst (SqL.of (g05.at0 hsl)) (hsd.to (g05.fs.trans g05.sub))
        refine S.ninD (F := H5) (d := prZ (t, s)) (hvp.to g5.sub) hsd5 (Same.refl _) (prZ_shaped _) (pairs_shaped fun x hx => ?_) ?_
        · obtain ⟨p, _, rfl⟩ := List.mem_map.mp hx
          exact ⟨p.1, p.2, rfl⟩
        rw [any_in]
        refine S.neBB ?_
        have hso := rel.so t s hth
        have ecmp : (!decide (decide (optV (bodyOf Z.st t s) = V.non) = !decide ((t, s) ∈ stL))) = false := by
          cases q : bodyOf Z.st t s with
          | none => rw [q] at hso; simp [optV, hso]
          | some b => rw [q] at hso; simp [optV, hso]
        rw [ecmp]
        refine S.bl ?_
        refine S.iteF rfl ?_
        walk_at "gs"
        walk_at "sq"
        walk_at "gs"
        refine S.lcS (S.iRng1 ?_)
        walk_at "gs"
        refine ⟨by decide, by decide, fun D hD => ?_⟩
        have fD := sub_free g05.sub hD
        have hHD := g05.free hD
        have nDs : D ≠ sn := fun z => by rw [z, hs5] at hD; cases hD
        have hrow5 := g05.at0 hrow
        have htab5 := g05.at0 htab
        have nDL : D ≠ L := fun z => by rw [z, hL5] at hD; cases hD
        refine lc_it (walk_range (lo := 0) (n := ((64 : Int)).toNat)) (fun m H6 => H6 = upd H5 D (.lst (((List.range m).map fun (x : Nat) => valP Z.st Z.fg t (64 * s + (x : Int))).map V.int))) rfl ?_ ?_ ?_
        · intros; trivial
        · rintro m x H6 H7 hm rfl ⟨rfl, rfl⟩
          have hm64 : m < 64 := hm
          have ndd : d ≠ D := fun z => by rw [← z, hrow5] at hD; cases hD
          have nfl : fl ≠ D := fun z => by rw [← z, htab5] at hD; cases hD
          walk_at "gs"
          refine ⟨rfl, ?_⟩
          refine S.yes (S.iteT rfl ?_)
          refine S.dget2 ?_
          walk_at "gs"
          refine dget_of (k := Sum.inl t) ((upd_ne nfl).trans htab5) (by rw [valV_kM, hTt]; rfl) ?_
          have hrow6 : upd H5 D (.lst (((List.range m).map fun (x : Nat) => valP Z.st Z.fg t (64 * s + (x : Int))).map V.int)) d = _ := (upd_ne ndd).trans hrow5
          refine ⟨d, rfl, .inl ⟨_, .inl hrow6⟩, ?_⟩
          walk_at "gs"
          refine S.rI (wide_mul (a := 7) (b := 7) (by decide) (abs_lt (n := 7) hs0 (by show s < 128; omega)) (by decide) (by decide) (by decide)) ?_
          walk_at "gs"
          refine ⟨_, DGet.k (k := Sum.inl (64 * s + (0 + (m : Int)))) hrow6, ?_⟩
          rw [valV_kM]
          have ev : ((getA row (64 * s + (0 + (m : Int)))).map V.int).getD (.int 0) = .int (valP Z.st Z.fg t (64 * s + (m : Int))) := by
            rw [Int.zero_add, ← rel.fv t row hft (64 * s + (m : Int)) (by omega) (by omega)]
            cases getA row (64 * s + (m : Int)) <;> rfl
          show ∃ acc, _ ∧ _ ∧ upd _ D (.lst (acc ++ [((getA row (64 * s + (0 + (m : Int)))).map V.int).getD (.int 0)])) = _
          rw [ev]
          refine ⟨_, upd_same, by rw [List.length_map, List.length_map, List.length_range]; exact size1000000 (by omega), ?_⟩
          rw [upd_upd, List.range_succ]
          simp
        rintro H6 rfl
        have e64 : ((64 : Int)).toNat = 64 := rfl
        rw [e64]
        generalize hfs : (List.range 64).map (fun (x : Nat) => valP Z.st Z.fg t (64 * s + (x : Int))) = figs
        have g6 : Gr [] F H F5 (upd H5 D (.lst (figs.map V.int))) := g05.poke hHD fD
        have hDD : upd H5 D (.lst (figs.map V.int)) D = _ := upd_same
        have hL6 : upd H5 D (.lst (figs.map V.int)) L = _ := (upd_ne nDL.symm).trans hL5
        have hs6 : upd H5 D (.lst (figs.map V.int)) sn = _ := (upd_ne nDs.symm).trans hs5
        have hq6 : upd H5 D (.lst (figs.map V.int)) tq = _ := (upd_ne fun z => by rw [← z, hq5] at hD; cases hD).trans hq5
        generalize upd H5 D _ = H6 at *
        have g7 := g6.frz hHD fD hDD
        have fs7 : upd F5 D (.lst (figs.map V.int)) sn = none := (upd_ne nDs.symm).trans fs5
        have sF : Same F5 (upd F5 D (.lst (figs.map V.int))) := fun b o e => by rw [upd_ne (ne_of_none e fD)]; exact e
        have hfd : Dp K (upd F5 D (.lst (figs.map V.int))) (.ref D) (.list (figs.map PyData.int)) := .lst (.inl (.inl upd_same)) (dp_ints _)
        have hse7 := (hse4.to g5.fs).to sF
        generalize upd F5 D _ = F7 at *
        walk_at "gs"
        walk_at "sq"
        walk_at "gs"
        cases hb : bodyOf Z.st t s with
        | none =>
          refine S.iteF rfl ?_
          walk_at "gs"
          refine S.iteF rfl ?_
          walk_at "gs"
          exact ⟨F7, D4, _, _, _, _, g7, hL6, hq6, fs7, hs6, hse7, by omega, rfl⟩
        | some b =>
          have efigs : PyData.list (figs.map PyData.int) = figsD Z.fg b := by
            unfold figsD
            rw [← hfs, show (List.range 64).map (fun (x : Nat) => valP Z.st Z.fg t (64 * s + (x : Int))) = (List.range 64).map (fun (i : Nat) => figOf Z.fg b (i : Int)) from List.map_congr_left fun x hx => valP_fig hb (by omega) (by have := List.mem_range.mp hx; omega)]
          rw [efigs] at hfd
          refine S.iteT rfl ?_
          walk_at "gs"
          refine S.dget2 ?_
          walk_at "gs"
          refine ⟨sn, rfl, .inl ⟨_, .inl hs6⟩, ?_⟩
          walk_at "gs"
          refine new_tupG (K := K) g7.sub (ds := [.int s, figsD Z.fg b]) (.cons (.int _) (.cons hfd .nil)) (by show 2 ≤ sizeLine; decide) fun p1 F8 g8 hp1 hv1 => ?_
          have hs8 := g8.at0 hs6
          have g08 := g7.trans g8
          have fs8 : F8 sn = none := g8.own sn fs7 (by rw [hs6]; exact fun z => nomatch z)
          have hL8 := g8.at0 hL6
          have hq8 := g8.at0 hq6
          have hse8 := hse7.to g8.fs
          have hfd8 := hfd.to g8.fs
          generalize upd H6 p1 _ = H8 at *
          refine ⟨_, DGet.k (k := Sum.inl b) hs8, ?_⟩
          rw [valV_kM]
          have hold : Dp K F8 (((getA D4 b).map fun v : V => v).getD (.ref p1)) (seenD Z.fg s b) := by
            cases q : getA D4 b with
            | none => exact hv1
            | some v =>
              obtain ⟨t', s', e1, e2⟩ := hse8 b v q
              rw [hW.pi.us t t' s s' b hb e1]
              exact e2
          generalize ((getA D4 b).map fun v : V => v).getD (.ref p1) = old at *
          walk_at "gs"
          refine new_tupG (K := K) g8.sub (ds := [.int s, figsD Z.fg b]) (.cons (.int _) (.cons hfd8 .nil)) (by show 2 ≤ sizeLine; decide) fun p2 F9 g9 hp2 hv2 => ?_
          have hs9 := g9.at0 hs8
          have g09 := g08.trans g9
          have fs9 : F9 sn = none := g9.own sn fs8 (by rw [hs8]; exact fun z => nomatch z)
          have hL9 := g9.at0 hL8
          have hq9 := g9.at0 hq8
          have hse9 := hse8.to g9.fs
          have hfd9 := hfd8.to g9.fs
          generalize upd H8 p2 _ = H9 at *
          refine S.neD (F := F9) (hold.to g9.fs) hv2 g9.sub (seen_shaped ..) (seen_shaped ..) ?_
          rw [show PyData.eqv (seenD Z.fg s b) (PyData.tuple [.int s, figsD Z.fg b]) = true from seen_eqv ..]
          walk_at "gs"
          refine S.iteF rfl ?_
          walk_at "gs"
          refine S.iteT rfl ?_
          walk_at "gs"
          refine new_tupG (K := K) g9.sub (ds := [.int s, figsD Z.fg b]) (.cons (.int _) (.cons hfd9 .nil)) (by show 2 ≤ sizeLine; decide) fun p3 F10 g10 hp3 hv3 => ?_
          have hs10 := g10.at0 hs9
          have g010 := g09.trans g10
          have fs10 : F10 sn = none := g10.own sn fs9 (by rw [hs9]; exact fun z => nomatch z)
          have hL10 := g10.at0 hL9
          have hq10 := g10.at0 hq9
          have hse10 := hse9.to g10.fs
          generalize upd H9 p3 _ = H10 at *
          walk_at "gs"
          refine dput_of (k := Sum.inl b) hs10 (by rw [kM_len]; exact size1000000 (by omega)) ?_
          rw [putK_kM (f := fun v : V => v)]
          have ntq : tq ≠ sn := fun z => by rw [z, hs10] at hq10; cases hq10
          have hpl := putA_len D4 b (V.ref p3)
          refine S.next ⟨F10, _, _, _, _, _, g010.poke hsn fs10, (upd_ne nLs).trans hL10, (upd_ne ntq).trans hq10, fs10, upd_same, hse10.put hb hv3, by omega, rfl⟩
      · rintro σ H' ⟨F', D, o5, o6, o7, o8, g, hL', hq, fs', hs', hse, hDl, rfl⟩
        exact ⟨F', D, _, _, _, _, _, g, hL', fs', hs', hse, by show D.length ≤ 5 * (i + 1); simp at hDl; omega, rfl⟩
    · rintro σ H' ⟨F', D, o4, o5, o6, o7, o8, g, hL', fs', hs', hse, hDl, rfl⟩
      walk_at "gs"
      exact k F' H' g

theorem ok__law_asked {P : Program} {w : World} {K : PySem.W.Frag} {mg : Str → Option Value} {base : Heap} {f : Addr} {fd : FuncData} (F : Fun K "_law_asked" "_law_asked" s__law_asked f fd) (B : Blt mg)
    {C C2 C3 : Addr} (TP3 : PgC K C3) (c__law_draw : Cal P w K mg base CX0 1 "_law_draw" P__law_draw spDraw) (c__law_same : Cal P w K mg base CX0 3 "_law_same" P__law_same (spSame K 3)) (c__law_rows : Cal P w K mg base CX0 1 "_law_rows" P__law_rows (spRowsL K)) (c__law_bodies_right : Cal P w K mg base CX0 5 "_law_bodies_right" P__law_bodies_right (spBodR K C C2 C3))
    (c_Pages_memory : MCal P w K mg base CX0 4 C3 "memory" P_Pages_memory (spPMem K C C2 C3)) (c_Pages_deeds : MCal P w K mg base CX0 1 C3 "deeds" P_Pages_deeds (spPDeeds K C C2 C3)) (c_Pages_misses : MCal P w K mg base CX0 1 C3 "misses" P_Pages_misses (spPMisses K C C2 C3)) (c_Pages_inside : MCal P w K mg base CX0 2 C3 "inside" P_Pages_inside (spPInside K C C2 C3)) (c_misses : Cal P w K mg base CX0 6 "misses" P_misses (spMisses K))
    : FnOk P w K mg base CX0 (6 + 1) f fd P__law_asked (spAsked K C C2 C3) := by
  refine F.ok sc__law_asked (fun vs H Q E h => ?_) (fun cdv A outer s H vs Q E hr h => ?_)
  · obtain ⟨F, q, pg, fl, sl, dl, m, Z, W, TF, sxs, dxs, stL, there, met, n, R, u, rfl, _⟩ := h; rfl
  · have hu := hu_of hr
    have hu64 := Room.units hr
    have cl_Pages := TP3.cl
    obtain ⟨F, q, pg, fl, sl, dl, m, Z, W, TF, sxs, dxs, stL, there, met, n, R, u, rfl, fq, hq, hm, ask, nqW, nqT, nsq, ndq, k⟩ := h
    refine ⟨_, (pss_cons (ps_set (i := 7) sc__law_asked.nd rfl (Or.inl rfl) (pe_cal c__law_draw (hr.mono (by first | decide | omega)) pass0 (pa_cons (pv 0) (pa_cons (pe_int) pa_nil))))
      (pss_cons (ps_for PassesOwn.never rfl (pi_range1 rfl B.m_range (pa_cons (pe_int) pa_nil)) (pg_name (i := 8) sc__law_asked.nd rfl (Or.inl rfl)) (pss_cons (ps_set (i := 9) sc__law_asked.nd rfl (Or.inl rfl) (pe_op op_mod (pe_callTy call_int1 rfl B.m_int (by decide +kernel) (pa_cons (pe_op op_addU (pv 7) (pv 8)) pa_nil)) (pe_int)))
      (pss_cons (ps_if (PW.pt (pw_and (pt_cmpR (op_eqU hu64) (pv 9) (pe_int) (nomark _)) (pw_and1 (pt_cmpR (op_neU hu64) (pe_lock (pe_lc (own := [("task", 11)]) rfl sc__law_asked.nd (pi_keys (pv 2)) (blkOk_by (N := N__law_asked) (sc := defScope s__law_asked) (by decide +kernel)) (fun _ _ _ _ _ => (pg_name (i := 11) sc__law_asked.nd rfl (Or.inl rfl))) (fun _ _ _ _ _ => pts_one (pt_not (pt_val (pe_cal c__law_same (hr.mono (by first | decide | omega)) pass0 (pa_cons (pe_mcal c_Pages_memory cl_Pages (hr.mono (by first | decide | omega)) pass0 (pv 1) (pa_cons (pv 11) pa_nil)) (pa_cons (pe_cal c__law_rows (hr.mono (by first | decide | omega)) pass0 (pa_cons (pe_dget hu (pv 2) (pv 11) (fun _ _ => rfl)) pa_nil)) pa_nil)))))) (fun _ _ _ _ _ => (pv 11)))) (pe_lst pa_nil) (nomark _))))) (pss_one (ps_ret (pe_bl))) pss_nil)
      (pss_cons (ps_if (PW.pt (pw_and (pt_cmpR (op_eqU hu64) (pv 9) (pe_int) (nomark _)) (pw_and1 (pt_not (pt_val (pe_cal c__law_bodies_right (hr.mono (by first | decide | omega)) pass0 (pa_cons (pv 1) (pa_cons (pv 2) (pa_cons (pv 3) pa_nil))))))))) (pss_one (ps_ret (pe_bl))) pss_nil)
      (pss_one (ps_if (pt_cmpR (op_eqU hu64) (pv 9) (pe_int) (nomark _)) (pss_cons (ps_set (i := 10) sc__law_asked.nd rfl (Or.inl rfl) (pe_tup (pa_cons (pe_mcal0 c_Pages_misses cl_Pages (hr.mono (by first | decide | omega)) pass0 (pv 1)) (pa_cons (pe_mcal0 c_Pages_inside cl_Pages (hr.mono (by first | decide | omega)) pass0 (pv 1)) pa_nil))))
      (pss_one (ps_if (PW.pt (pw_or (pt_not (pt_val (pe_cal c__law_same (hr.mono (by first | decide | omega)) pass0 (pa_cons (pe_mcal0 c_Pages_deeds cl_Pages (hr.mono (by first | decide | omega)) pass0 (pv 1)) (pa_cons (pe_callTy call_tuple_of rfl B.m_tuple (by decide +kernel) (pa_cons (pv 4) pa_nil)) pa_nil))))) (pw_or1 (pt_not (pt_val (pe_cal c__law_same (hr.mono (by first | decide | omega)) pass0 (pa_cons (pv 10) (pa_cons (pe_cal c_misses (hr.mono (by first | decide | omega)) pass0 (pa_cons (pe_callTy call_tuple_of rfl B.m_tuple (by decide +kernel) (pa_cons (pv 4) pa_nil)) (pa_cons (pv 5) (pa_cons (pv 6) pa_nil)))) pa_nil)))))))) (pss_one (ps_ret (pe_bl))) pss_nil))) pss_nil))))))
      (pss_one (ps_ret (pe_bl))))), ?_⟩
    try dsimp only [cxOf, Cx.nox, Cx.wish]
    walk_at "sq"
    walk_at "gs"
    refine ⟨F, q, 3, m, rfl, ask.sm, fq, hq, by omega, by decide, by decide, fun first H1 g1 hq1 w0 w1 => ?_⟩
    have ask1 := ask.gr g1 (fun x hx z => nqW (by rw [← List.mem_singleton.mp z]; exact hx)) (fun x hx z => nqT (by rw [← List.mem_singleton.mp z]; exact hx)) (by simpa using nsq) (by simpa using ndq)
    walk_at "gs"
    walk_at "sq"
    refine S.forS (S.iRng1 ?_)
    walk_at "gs"
    refine ⟨by decide, by decide, ?_⟩
    refine for_it (walk_range (lo := 0) (n := ((3 : Int)).toNat)) (fun i σ H' => ∃ F' o8 o9 o10 o11, Gr [] F H1 F' H' ∧ σ = [some (V.ref q), some (V.ref pg), some (V.ref fl), some (V.ref sl), some (V.ref dl), some (V.int n), some u, some (V.int first), o8, o9, o10, o11]) ?_ ?_ ?_ ?_
    · exact ⟨F, none, none, none, none, Gr.refl ask1.sm, rfl⟩
    · intros; trivial
    · rintro i x σ H0 H2 hi ⟨F2, o8, o9, o10, o11, g2, rfl⟩ ⟨rfl, rfl⟩
      have hi3 : i < 3 := hi
      have ask2 := ask1.gr g2 (fun _ _ z => nomatch z) (fun _ _ z => nomatch z) (fun z => nomatch z) (fun z => nomatch z)
      walk_at "gs"
      walk_at "sq"
      walk_at "gs"
      refine .inl ⟨_, rfl, ?_⟩
      walk_at "gs"
      refine S.rI (by decide) ?_
      have hx0 : 0 ≤ (first + (0 + (i : Int))) % 3 := Int.emod_nonneg _ (by decide)
      have hx3 : (first + (0 + (i : Int))) % 3 < 3 := Int.emod_lt_of_pos _ (by decide)
      generalize (first + (0 + (i : Int))) % 3 = x at *
      walk_at "gs"
      -- memories
      with_reducible refine S.seqQ (fun σ' H' => ∃ F' o10 o11, Gr [] F H1 F' H' ∧ σ' = [some (V.ref q), some (V.ref pg), some (V.ref fl), some (V.ref sl), some (V.ref dl), some (V.int n), some u, some (V.int first), some (V.int (0 + (i : Int))), some (V.int x), o10, o11]) ?_ ?_
      · rintro σ' H3 ⟨F3, o10, o11, g3, rfl⟩
        have ask3 := ask1.gr g3 (fun _ _ z => nomatch z) (fun _ _ z => nomatch z) (fun z => nomatch z) (fun z => nomatch z)
        -- bodies
        with_reducible refine S.seqQ (fun σ' H' => ∃ F' o10 o11, Gr [] F H1 F' H' ∧ σ' = [some (V.ref q), some (V.ref pg), some (V.ref fl), some (V.ref sl), some (V.ref dl), some (V.int n), some u, some (V.int first), some (V.int (0 + (i : Int))), some (V.int x), o10, o11]) ?_ ?_
        · rintro σ' H4 ⟨F4, o10, o11, g4, rfl⟩
          have ask4 := ask1.gr g4 (fun _ _ z => nomatch z) (fun _ _ z => nomatch z) (fun z => nomatch z) (fun z => nomatch z)
          walk_at "gs"
          refine S.ite (fun e => ?_) (fun e => ?_)
          · obtain ⟨dx4, fs4, hob4, _, _, _, _, _, _, lkd, lkmi, lki⟩ := Pg_ob ask4.pg
            walk_at "gs"
            walk_at "sq"
            walk_at "gs"
            refine meth_of hob4 lkmi ?_
            walk_at "gs"
            refine ⟨F4, pg, Z, W, rfl, ask4.sm, ask4.pg, ?_⟩
            walk_at "gs"
            refine meth_of hob4 lki ?_
            walk_at "gs"
            refine ⟨F4, pg, Z, W, rfl, ask4.sm, ask4.pg, fun w F5 H5 g5 hw => ?_⟩
            walk_at "gs"
            refine new_tupG (K := K) g5.sub (.cons (.int _) (.cons hw .nil)) (by show 2 ≤ sizeLine; decide) fun tt F6 g6 htt hvt => ?_
            have g46 := g5.trans g6
            rw [ask4.pw.fs] at hvt
            have hvt' : Dp K F6 (.ref tt) (toldD n R (runAll ([], st0) Z.ds).1) := hvt
            generalize upd H5 tt _ = H6 at *
            have ask6 := ask4.gr g46 (fun _ _ z => nomatch z) (fun _ _ z => nomatch z) (fun z => nomatch z) (fun z => nomatch z)
            obtain ⟨dx6, fs6, hob6, _, _, _, _, _, _, lkd6, _, _⟩ := Pg_ob ask6.pg
            have hdl := ask6.pw.len
            walk_at "gs"
            refine meth_of hob6 lkd6 ?_
            walk_at "gs"
            refine ⟨F6, pg, Z, W, rfl, ask6.sm, ask6.pg, fun w7 F7 H7 g7 hw7 => ?_⟩
            walk_at "gs"
            refine ⟨dl, dxs, rfl, .inl ⟨SqL.of (g7.at0 ask6.dl), made_tupG (K := K) g7.sub (ask6.dd.to g7.fs) fun l F8 g8 hl hv => ?_⟩⟩
            generalize upd H7 l _ = H8 at *
            obtain ⟨d1, d2⟩ := dds_ok Z.ds (by omega)
            refine ⟨F8, w7, .ref l, _, rfl, g8.sub, hw7.to g8.fs, hv, d1, d2, fun F9 H9 g9 => ?_⟩
            have g69 := (g7.trans g8).trans g9
            have ask9 := ask6.gr g69 (fun _ _ z => nomatch z) (fun _ _ z => nomatch z) (fun z => nomatch z) (fun z => nomatch z)
            walk_at "gs"
            refine S.iteF rfl ?_
            walk_at "gs"
            refine ⟨dl, dxs, rfl, .inl ⟨SqL.of ask9.dl, made_tupG (K := K) ask9.sm ask9.dd fun l2 F10 g10 hl2 hv2 => ?_⟩⟩
            generalize upd H9 l2 _ = H10 at *
            walk_at "gs"
            refine ⟨F10, .ref l2, u, Z.ds, n, R, rfl, g10.sub, hv2, by omega, ask9.pw.ok, ask9.pw.n1, ask9.pw.n2, ask9.ru.to g10.fs, ask9.rk, fun w11 F11 H11 g11 hw11 => ?_⟩
            walk_at "gs"
            refine ⟨F11, .ref tt, w11, toldD n R (runAll ([], st0) Z.ds).1, rfl, g11.sub, ((hvt'.to g69.fs).to g10.fs).to g11.fs, hw11, told_depth .., told_wid ask9.pw.n1 ask9.pw.n2 .., fun F12 H12 g12 => ?_⟩
            walk_at "gs"
            refine S.iteF rfl ?_
            exact S.next ⟨F12, _, _, _, _, ((((g4.trans g46).trans g69).trans g10).trans g11).trans g12, rfl⟩
          · exact S.next ⟨F4, _, _, _, _, g4, rfl⟩
        · intro nx9 hrest
          walk_at "gs"
          refine S.ite (fun e => ?_) (fun e => ?_)
          · walk_at "gs"
            refine ⟨F3, pg, fl, sl, Z, W, TF, sxs, stL, there, met, n, R, rfl, ask3.sm, ask3.pg, ask3.pw, ask3.tp.tabs, ask3.sl, ask3.sd, ask3.rel, fun F4 H4 g4 => ?_⟩
            walk_at "gs"
            refine S.iteF rfl ?_
            exact S.next (hrest _ _ ⟨F4, _, _, g3.trans g4, rfl⟩)
          · exact S.next (hrest _ _ ⟨F3, _, _, g3, rfl⟩)
      · intro nx9 hrest
        walk_at "gs"
        refine S.ite (fun e => ?_) (fun e => ?_)
        · walk_at "gs"
          refine S.lock1 ask2.tp.tabs.tab trivial fun od => ?_
          have ffl : F2 fl = none := ask2.tp.off fl (by simp)
          have g3 : Gr [fl] F2 H2 F2 _ := Gr.lock1 (u := .dK (kM (fun x : Addr × AL Int => V.ref x.1) TF)) (od := od) ask2.sm ffl
          have hfl3 : upd H2 fl (.frz od (.dK (kM (fun x : Addr × AL Int => V.ref x.1) TF))) fl = _ := upd_same
          have pg3 := ask2.pg.gr g3 fun x hx z => ask2.nw (by rw [← List.mem_singleton.mp z]; exact hx)
          have hun := fun F' H' => Gr.unlock1 (od := od) (F' := F') (H' := H') ask2.tp.tabs.tab ffl
          have hrows3 : ∀ t ∈ TF, upd H2 fl (.frz od (.dK (kM (fun x : Addr × AL Int => V.ref x.1) TF))) t.2.1 = some (.dK (kM V.int t.2.2)) := fun t ht => by
            rw [upd_ne fun z => (List.nodup_cons.mp ask2.tp.nd).1 (by rw [← z]; exact addr_mem ht)]
            exact ask2.tp.tabs.rows t ht
          generalize upd H2 fl _ = H3 at *
          refine S.lcS (S.iKeys ?_)
          walk_at "gs"
          refine ⟨fl, od, rfl, .inl ⟨_, hfl3, fun D hD => ?_⟩⟩
          have fD := sub_free g3.sub hD
          refine lc_it (walk_keys (d := fl) (o := od) (kvs := kM (fun x : Addr × AL Int => V.ref x.1) TF)) (fun j H4 => ∃ F4, Gr [] F2 H3 F4 H4 ∧ F4 D = none ∧ H4 D = some (.lst [])) ⟨F2, Gr.newOwn g3.sub hD, fD, upd_same⟩ ?_ ?_ ?_
          · rintro j H4 _ ⟨F4, g4, _⟩
            exact g4.at0 hfl3
          · rintro j x9 H40 H4 hj ⟨F4, g4, fD4, hD4⟩ ⟨rfl, kk, vv, hkv, rfl⟩
            rw [kM_len] at hj
            obtain ⟨⟨t, d, row⟩, hx0⟩ : ∃ x0, TF[j]? = some x0 := ⟨_, List.getElem?_eq_getElem hj⟩
            have hkv' : (kM (fun x : Addr × AL Int => V.ref x.1) TF)[j]? = some (Sum.inl t, V.ref d) := by unfold kM; rw [List.getElem?_map, hx0]; rfl
            rw [hkv'] at hkv
            obtain ⟨rfl, rfl⟩ := Prod.mk.inj (Option.some.inj hkv)
            have hmem := List.mem_of_getElem? hx0
            have hnk : (keysA TF).Nodup := by have := ask2.rel.nk; rwa [keys_sheetsOf] at this
            have hTt : getA TF t = some (d, row) := getA_of_mem hnk hmem
            have hft : getA (sheetsOf TF) t = some row := by rw [getA_rows, hTt]; rfl
            have hth : t ∈ there := (ask2.rel.fk t).mp (by rw [hft]; rfl)
            have pg4 := pg3.gr0 g4
            obtain ⟨dx4, fs, hob, _, _, _, _, _, lkm, _⟩ := Pg_ob pg4
            walk_at "gs"
            refine ⟨rfl, ?_⟩
            walk_at "gs"
            refine meth_of hob lkm ?_
            walk_at "gs"
            refine ⟨F4, pg, Z, W, t, n, R, rfl, g4.sub, pg4, ask2.pw, ask2.rel.gi.there hth, fun w F5 H5 l g5 hl hw => ?_⟩
            have g35 := g4.trans g5
            walk_at "gs"
            have hfl5 := g35.at0 hfl3
            refine ⟨fl, .ref d, rfl, .inl ⟨_, Sum.inl t, .inr ⟨od, hfl5⟩, rfl, by rw [valV_kM, hTt]; rfl⟩, ?_⟩
            have hnd := ask2.rel.rn _ (getA_mem hft)
            have hrg := ask2.rel.rr _ (getA_mem hft)
            refine ⟨F5, d, row, rfl, g5.sub, g35.at0 (hrows3 _ hmem), hnd, row_cap hnd hrg, fun w2 F6 H6 g6 hw2 => ?_⟩
            rw [rows_eq (n := n) (R := R) ask2.rel hft hl] at hw2
            have hll := hl.len
            obtain ⟨d1, d2⟩ := prs_ok (prZ_pairs l) (by rw [List.length_map]; omega)
            refine ⟨F6, w, w2, _, rfl, g6.sub, hw.to g6.fs, hw2, d1, d2, fun F7 H7 g7 => ?_⟩
            have g47 := (g5.trans g6).trans g7
            have hD7 := g47.at0 hD4
            have fD7 : F7 D = none := g47.own D fD4 (by rw [hD4]; exact fun z => nomatch z)
            walk_at "gs"
            refine S.iteF rfl ?_
            exact ⟨F7, g4.trans g47, fD7, hD7⟩
          · rintro H4 ⟨F4, g4, fD4, hD4⟩
            refine ⟨g4.at0 hfl3, ?_⟩
            have g5 := hun F4 H4 g4
            have nDf : D ≠ fl := fun z => by rw [z, hfl3] at hD; cases hD
            have hD5 : upd H4 fl (.dK (kM (fun x : Addr × AL Int => V.ref x.1) TF)) D = _ := (upd_ne nDf).trans hD4
            generalize upd H4 fl _ = H5 at *
            walk_at "gs"
            refine new_lstG (K := K) (ds := []) g5.sub .nil (by show 0 ≤ sizeLine; decide) fun e0 F6 g6 he0 hve => ?_
            have hD6 := g6.at0 hD5
            generalize upd H5 e0 _ = H6 at *
            refine S.neD (F := H6) (.lst (SqL.of hD6) .nil) (hve.to g6.sub) (Same.refl H6) (ints_shaped []) (ints_shaped []) ?_
            rw [show PyData.eqv (.list []) (.list []) = true from rfl]
            walk_at "gs"
            refine S.iteF rfl ?_
            exact S.next (hrest _ _ ⟨F6, _, _, (g2.trans g5).trans g6, rfl⟩)
        · exact S.next (hrest _ _ ⟨F2, _, _, g2, rfl⟩)
    · rintro σ H' ⟨F', o8, o9, o10, o11, g, rfl⟩
      walk_at "gs"
      exact k F' H' (g1.trans g.any) (hq1.gr g (by simp))

theorem ok__law_owners_right {P : Program} {w : World} {K : PySem.W.Frag} {mg : Str → Option Value} {base : Heap} {f : Addr} {fd : FuncData} (F : Fun K "_law_owners_right" "_law_owners_right" s__law_owners_right f fd) (B : Blt mg)
    {C C2 C3 : Addr} (TP3 : PgC K C3) (c__law_same : Cal P w K mg base CX0 3 "_law_same" P__law_same (spSame K 3)) (c_Pages_body : MCal P w K mg base CX0 4 C3 "body" P_Pages_body (spPBody K C C2 C3)) (c_owners : Cal P w K mg base CX0 6 "owners" P_owners (spOwners K))
    : FnOk P w K mg base CX0 (6 + 1) f fd P__law_owners_right (spOwnR K C C2 C3) := by
  refine F.ok sc__law_owners_right (fun vs H Q E h => ?_) (fun cdv A outer s H vs Q E hr h => ?_)
  · obtain ⟨F, pg, fl, sl, dl, Z, W, TF, sxs, dxs, stL, there, met, n, R, u, rfl, _⟩ := h; rfl
  · have hu := hu_of hr
    have hu64 := Room.units hr
    have cl_Pages := TP3.cl
    obtain ⟨F, pg, fl, sl, dl, Z, W, TF, sxs, dxs, stL, there, met, n, R, u, rfl, ask, k⟩ := h
    have htl : TF.length ≤ 6 := by have := ask.rel.tl; simpa [sheetsOf] using this
    have hks : keysA (sheetsOf TF) = keysA TF := keys_sheetsOf _
    refine ⟨_, (pss_cons (ps_for PassesOwn.never rfl (pi_range1 rfl B.m_range (pa_cons (pe_int) pa_nil)) (pg_name (i := 3) sc__law_owners_right.nd rfl (Or.inr rfl)) (pss_cons (ps_set (i := 4) sc__law_owners_right.nd rfl (Or.inl rfl) (pe_lst pa_nil))
      (pss_cons (ps_for PassesOwn.never rfl (pi_seq (pe_callB (call_sortedDI rfl) rfl B.m_sorted (by first | exact PySem.boot_sorted | decide +kernel) (pa_cons (pv 1) pa_nil))) (pg_name (i := 5) sc__law_owners_right.nd rfl (Or.inr rfl)) (pss_one (ps_set (i := 4) sc__law_owners_right.nd rfl (Or.inl rfl) (pe_op op_addU (pv 4) (pe_lc (own := [("sheet", 6)]) rfl sc__law_owners_right.nd (pi_range1 rfl B.m_range (pa_cons (pe_int) pa_nil)) (blkOk_by (N := N__law_owners_right) (sc := defScope s__law_owners_right) (by decide +kernel)) (fun _ _ _ _ _ => (pg_name (i := 6) sc__law_owners_right.nd rfl (Or.inl rfl))) (fun _ _ _ _ _ => pts_one (pt_cmpR (op_eqUK (K := K) rfl hu64) (pe_mcal c_Pages_body cl_Pages (hr.mono (by first | decide | omega)) pass0 (pv 0) (pa_cons (pv 5) (pa_cons (pv 6) pa_nil))) (pv 3) (nomark _))) (fun _ _ _ _ _ => (pe_tup (pa_cons (pv 5) (pa_cons (pv 6) pa_nil)))))))))
      (pss_one (ps_if (pt_not (pt_val (pe_cal c__law_same (hr.mono (by first | decide | omega)) pass0 (pa_cons (pe_cal c_owners (hr.mono (by first | decide | omega)) pass0 (pa_cons (pe_callTy call_tuple_of rfl B.m_tuple (by decide +kernel) (pa_cons (pv 2) pa_nil)) (pa_cons (pv 3) pa_nil))) (pa_cons (pe_callTy call_tuple_of rfl B.m_tuple (by decide +kernel) (pa_cons (pv 4) pa_nil)) pa_nil))))) (pss_one (ps_ret (pe_bl))) pss_nil)))))
      (pss_one (ps_ret (pe_bl)))), ?_⟩
    try dsimp only [cxOf, Cx.nox, Cx.wish]
    walk_at "sq"
    refine S.forS (S.iRng1 ?_)
    walk_at "gs"
    refine ⟨by decide, by decide, ?_⟩
    refine for_it (walk_range (lo := 0) (n := ((4 : Int)).toNat)) (fun i σ H' => ∃ F' o3 o4 o5 o6, Gr [] F H F' H' ∧ σ = [some (V.ref pg), some (V.ref fl), some (V.ref dl), o3, o4, o5, o6]) ?_ ?_ ?_ ?_
    · exact ⟨F, none, none, none, none, Gr.refl ask.sm, rfl⟩
    · intros; trivial
    · rintro i x σ H0 H1 hi ⟨F1, o3, o4, o5, o6, g1, rfl⟩ ⟨rfl, rfl⟩
      have hi4 : i < 4 := hi
      have hb0 : (0 : Int) ≤ 0 + (i : Int) := by omega
      show gName 3 (V.int (0 + (i : Int))) _ _ _
      generalize (0 : Int) + (i : Int) = b at *
      have ask1 := ask.gr g1 (fun _ _ z => nomatch z) (fun _ _ z => nomatch z) (fun z => nomatch z) (fun z => nomatch z)
      walk_at "gs"
      walk_at "sq"
      walk_at "gs"
      refine own_lstG g1.sub (by show 0 ≤ sizeLine; decide) fun r0 g2 hr0 fr0 hrr0 => ?_
      generalize upd H1 r0 _ = H2 at *
      walk_at "gs"
      walk_at "sq"
      refine S.forS (S.iSeqL ?_)
      walk_at "gs"
      refine ⟨fl, _, keysA TF, rfl, .inl (g2.at0 ask1.tp.tabs.tab), ?_, by simp only [keysA, List.length_map]; omega, fun ys L hperm hpw hL => ?_⟩
      · unfold kM keysA; rw [List.map_map, List.map_map]; rfl
      obtain rfl := sortI_uniq hperm hpw
      have g3 : Gr [] F1 H2 F1 _ := Gr.newOwn (o := .lst ((sortI (keysA TF)).map V.int)) g2.sub hL
      have hLL : upd H2 L (.lst ((sortI (keysA TF)).map V.int)) L = _ := upd_same
      have hrr3 := g3.at0 hrr0
      have hHr := g1.free hr0
      have g03 := (g1.trans g2).trans g3
      generalize upd H2 L _ = H3 at *
      refine ⟨L, rfl, ⟨_, SqL.of hLL⟩, ?_⟩
      have hlen : (sortI (keysA TF)).length ≤ 6 := by rw [(sortI_perm _).length_eq]; simpa [keysA] using htl
      refine for_it (walk_list (K := K) (a := L) (xs := (sortI (keysA TF)).map V.int)) (fun j σ H' => ∃ F' rA xs o5 o6, Gr [] F H F' H' ∧ H' L = some (.lst ((sortI (keysA TF)).map V.int)) ∧ H' rA = some (.lst xs) ∧ DpAll K F' xs ((((sortI (keysA TF)).take j).flatMap fun t => ownRow Z.st t b 64).map prZ) ∧ xs.length ≤ 64 * j ∧
        σ = [some (V.ref pg), some (V.ref fl), some (V.ref dl), some (V.int b), some (V.ref rA), o5, o6]) ?_ ?_ ?_ ?_
      · exact ⟨F1, r0, [], _, _, g03, hLL, hrr3, .nil, Nat.le_refl _, rfl⟩
      · rintro j σ H' _ ⟨F', rA, xs, o5, o6, g, hL', _⟩
        exact SqL.of hL'
      · rintro j v σ H0 H4 hj ⟨F4, rA, xs, o5, o6, g4, hL4, hr4, hx4, hxl, rfl⟩ ⟨rfl, hv⟩
        rw [List.getElem?_map] at hv
        obtain ⟨t, ht⟩ : ∃ t, (sortI (keysA TF))[j]? = some t := by
          cases q : (sortI (keysA TF))[j]? with
          | none => rw [q] at hv; cases hv
          | some t => exact ⟨t, rfl⟩
        rw [ht] at hv
        obtain rfl : V.int t = v := Option.some.inj hv
        have hj6 : j < 6 := by rw [List.length_map] at hj; omega
        obtain ⟨⟨d, row⟩, hTt⟩ := getA_isSome_of_mem ((sortI_perm _).subset (List.mem_of_getElem? ht))
        have hft : getA (sheetsOf TF) t = some row := by rw [getA_rows, hTt]; rfl
        have hth : t ∈ there := (ask.rel.fk t).mp (by rw [hft]; rfl)
        walk_at "gs"
        refine S.lcS (S.iRng1 ?_)
        walk_at "gs"
        refine ⟨by decide, by decide, fun D hD => ?_⟩
        have fD := sub_free g4.sub hD
        have hHD := g4.free hD
        have nrD : rA ≠ D := fun z => by rw [← z, hr4] at hD; cases hD
        refine lc_it (walk_range (lo := 0) (n := ((64 : Int)).toNat)) (fun m H5 => ∃ F5 acc, Gr [] F4 H4 F5 H5 ∧ F5 D = none ∧ H5 D = some (.lst acc) ∧ DpAll K F5 acc ((ownRow Z.st t b m).map prZ) ∧ acc.length ≤ m)
          ⟨F4, [], Gr.newOwn g4.sub hD, fD, upd_same, .nil, Nat.le_refl _⟩ ?_ ?_ ?_
        · intros; trivial
        · rintro m y H50 H5 hm ⟨F5, acc, g5, fD5, hD5, hacc, hal⟩ ⟨rfl, rfl⟩
          have hm64 : m < 64 := hm
          rw [ownRow_succ]
          show gName 6 (V.int (0 + (m : Int))) _ _ _
          rw [Int.zero_add]
          have pg5 := (ask.pg.gr0 g4).gr0 g5
          obtain ⟨dx5, fs, hob, _, _, _, _, lkb, _⟩ := Pg_ob pg5
          walk_at "gs"
          refine ⟨rfl, ?_⟩
          walk_at "gs"
          refine meth_of hob lkb ?_
          walk_at "gs"
          refine ⟨F5, pg, Z, W, t, (m : Int), rfl, g5.sub, pg5, ask.rel.gi.there hth, ?_⟩
          walk_at "gs"
          refine S.eqOpt ?_
          walk_at "gs"
          refine S.ite (fun e => ?_) (fun e => ?_)
          · have e' : bodyOf Z.st t (m : Int) = some b := of_decide_eq_true e
            rw [if_pos e']
            walk_at "gs"
            refine new_tupG (K := K) g5.sub (ds := [.int t, .int (m : Int)]) (.cons (.int _) (.cons (.int _) .nil)) (by show 2 ≤ sizeLine; decide) fun z F7 g7 hz hvz => ?_
            have hD7 := g7.at0 hD5
            have fD7 : F7 D = none := g7.own D fD5 (by rw [hD5]; exact fun z => nomatch z)
            generalize upd H5 z _ = H7 at *
            refine ⟨acc, hD7, size1000000 (by omega), F7, acc ++ [.ref z], (g5.trans g7).poke hD fD7, fD7, upd_same, ?_, by simp; omega⟩
            rw [List.map_append]
            exact dp_app (hacc.to g7.fs) (.cons hvz .nil)
          · have e' : ¬ bodyOf Z.st t (m : Int) = some b := of_decide_eq_false e
            rw [if_neg e', List.append_nil]
            exact ⟨F5, acc, g5, fD5, hD5, hacc, by omega⟩
        · rintro H5 ⟨F5, acc, g5, fD5, hD5, hacc, hal⟩
          have hacc64 : DpAll K F5 acc ((ownRow Z.st t b 64).map prZ) := hacc
          have hal64 : acc.length ≤ 64 := hal
          walk_at "gs"
          refine S.catL (g5.at0 hr4) hD5 (app_len (n := 64 * 6) (m := 64) (by omega) hal64 (by decide)) fun p hp => ?_
          have g6 : Gr [] F5 H5 F5 _ := Gr.newOwn (o := .lst (xs ++ acc)) g5.sub hp
          walk_at "gs"
          refine ⟨F5, p, xs ++ acc, _, _, (g4.trans g5).trans g6, (g5.trans g6).at0 hL4, upd_same, ?_, by rw [List.length_append]; omega, rfl⟩
          rw [take_succ_get ht, List.flatMap_append, List.map_append, List.flatMap_cons, List.flatMap_nil, List.append_nil]
          exact dp_app (hx4.to g5.fs) hacc64
      · rintro σ H4 ⟨F4, rA, xs, o5, o6, g4, hL4, hr4, hx4, hxl, rfl⟩
        rw [List.length_map, List.take_length, ← hks, own_eq ask.pw ask.rel] at hx4
        have ask4 := ask.gr g4 (fun _ _ z => nomatch z) (fun _ _ z => nomatch z) (fun z => nomatch z) (fun z => nomatch z)
        have hdl := ask4.pw.len
        have hhl : (havingP Z.st.sheets b).length ≤ 384 := by
          rw [← own_eq ask.pw ask.rel]
          have := own_len (st := Z.st) b (sortI (keysA (sheetsOf TF)))
          rw [hks] at this
          rw [hks]
          omega
        walk_at "gs"
        refine ⟨dl, dxs, rfl, .inl ⟨SqL.of ask4.dl, made_tupG (K := K) ask4.sm ask4.dd fun l2 F5 g5 hl2 hv2 => ?_⟩⟩
        generalize upd H4 l2 _ = H5 at *
        walk_at "gs"
        refine ⟨F5, .ref l2, Z.ds, b, rfl, g5.sub, hv2, by omega, ask4.pw.ok, hb0, fun w F6 H6 g6 hw => ?_⟩
        rw [← ask4.pw.st, having_P] at hw
        walk_at "gs"
        refine ⟨rA, xs, rfl, .inl ⟨SqL.of ((g5.trans g6).at0 hr4), made_tupG (K := K) g6.sub (hx4.to (g5.fs.trans g6.fs)) fun l3 F7 g7 hl3 hv3 => ?_⟩⟩
        generalize upd H6 l3 _ = H7 at *
        obtain ⟨d1, d2⟩ := prs_ok (prZ_pairs (havingP Z.st.sheets b)) (by rw [List.length_map]; omega)
        refine ⟨F7, w, .ref l3, _, rfl, g7.sub, hw.to g7.fs, hv3, d1, d2, fun F8 H8 g8 => ?_⟩
        walk_at "gs"
        refine S.iteF rfl ?_
        exact S.next ⟨F8, _, _, _, _, (((g4.trans g5).trans g6).trans g7).trans g8, rfl⟩
    · rintro σ H' ⟨F', o3, o4, o5, o6, g, rfl⟩
      walk_at "gs"
      exact k F' H' g

theorem ok_law {P : Program} {w : World} {K : PySem.W.Frag} {mg : Str → Option Value} {base : Heap} {f : Addr} {fd : FuncData} (F : Fun K "law" "law" s_law f fd) (B : Blt mg)
    {C C2 C3 : Addr} (TP3 : PgC K C3) (c__law_deck : Cal P w K mg base CX0 1 "_law_deck" P__law_deck (spDeck K)) (c__law_draw : Cal P w K mg base CX0 1 "_law_draw" P__law_draw spDraw) (c__law_rule : Cal P w K mg base CX0 3 "_law_rule" P__law_rule (spRule K)) (c_Pages : CCal P w K mg base CX0 6 C3 "Pages" P_Pages___init__ (spPInit K C C2 C3))
    (c__law_call : Cal P w K mg base CX0 5 "_law_call" P__law_call (spCallL K)) (c__law_done : Cal P w K mg base CX0 6 "_law_done" P__law_done (spDone13 K C C2 C3)) (c__law_same : Cal P w K mg base CX0 3 "_law_same" P__law_same (spSame K 3)) (c__law_asked : Cal P w K mg base CX0 7 "_law_asked" P__law_asked (spAsked K C C2 C3)) (c__law_owners_right : Cal P w K mg base CX0 7 "_law_owners_right" P__law_owners_right (spOwnR K C C2 C3))
    : FnOk P w K mg base CX0 (8 + 1) f fd P_law (spLawK13 K) := by
  refine F.ok sc_law (fun vs H Q E h => ?_) (fun cdv A outer s H vs Q E hr h => ?_)
  · obtain ⟨a, ns, rfl, _⟩ := h; rfl
  · have hu := hu_of hr
    have hu64 := Room.units hr
    have cl_Pages := TP3.cl
    obtain ⟨sa, ns, rfl, hsq, hnl, k⟩ := h
    refine ⟨_, (pss_cons (ps_for PassesOwn.never rfl (pi_range1 rfl B.m_range (pa_cons (pe_callB (call_max2 rfl) rfl B.m_max (by first | exact PySem.boot_max | decide +kernel) (pa_cons (pe_int) (pa_cons (pe_callB (call_min2 rfl) rfl B.m_min (by first | exact PySem.boot_min | decide +kernel) (pa_cons (pe_int) (pa_cons (pe_callB call_lenU rfl B.m_len (by first | exact PySem.boot_len | decide +kernel) (pa_cons (pv 0) pa_nil)) pa_nil))) pa_nil))) pa_nil)) (pg_name (i := 1) sc_law.nd rfl (Or.inl rfl)) (pss_cons (ps_set (i := 2) sc_law.nd rfl (Or.inl rfl) (pe_cal c__law_deck (hr.mono (by first | decide | omega)) pass0 (pa_cons (pv 0) (pa_cons (pv 1) pa_nil))))
      (pss_cons (ps_par (i := 3) (j := 4) rfl sc_law.nd rfl rfl (by decide) rfl rfl (pa_cons (pe_op op_addU (pe_int) (pe_cal c__law_draw (hr.mono (by first | decide | omega)) pass0 (pa_cons (pv 2) (pa_cons (pe_int) pa_nil)))) (pa_cons (pe_cal c__law_rule (hr.mono (by first | decide | omega)) pass0 (pa_cons (pv 2) pa_nil)) pa_nil)) rfl)
      (pss_cons (ps_asg (pe_tup (pa_cons (pe_ccal c_Pages (hr.mono (by first | decide | omega)) pass0 (pa_cons (pv 3) (pa_cons (pv 4) pa_nil))) (pa_cons (pe_disp (pps_cons (pe_int) (pe_dnewK) pps_nil) rfl rfl (by simp) (by simp)) (pa_cons (pe_lst pa_nil) (pa_cons (pe_lst pa_nil) pa_nil))))) (pg_tup rfl (pgs_cons (pg_name (i := 5) sc_law.nd rfl (Or.inl rfl) (by first | exact Or.inl rfl | exact Or.inr rfl)) (pgs_cons (pg_name (i := 6) sc_law.nd rfl (Or.inl rfl) (by first | exact Or.inl rfl | exact Or.inr rfl)) (pgs_cons (pg_name (i := 7) sc_law.nd rfl (Or.inl rfl) (by first | exact Or.inl rfl | exact Or.inr rfl)) (pgs_cons (pg_name (i := 8) sc_law.nd rfl (Or.inl rfl) (by first | exact Or.inl rfl | exact Or.inr rfl)) pgs_nil))))))
      (pss_cons (ps_par (i := 9) (j := 10) rfl sc_law.nd rfl rfl (by decide) rfl rfl (pa_cons (pe_lst (pa_cons (pe_int) pa_nil)) (pa_cons (pe_lst (pa_cons (pe_int) pa_nil)) pa_nil)) rfl)
      (pss_cons (ps_for PassesOwn.never rfl (pi_range1 rfl B.m_range (pa_cons (pe_op op_addU (pe_int) (pe_cal c__law_draw (hr.mono (by first | decide | omega)) pass0 (pa_cons (pv 2) (pa_cons (pe_int) pa_nil)))) pa_nil)) (pg_name (i := 11) sc_law.nd rfl (Or.inl rfl)) (pss_cons (ps_set (i := 12) sc_law.nd rfl (Or.inr rfl) (pe_cal c__law_call (hr.mono (by first | decide | omega)) pass0 (pa_cons (pv 2) (pa_cons (pv 9) (pa_cons (pv 10) pa_nil)))))
      (pss_cons (ps_set (i := 13) sc_law.nd rfl (Or.inr rfl) (pe_ix ix_seq (pv 12) (pe_int) (fun _ _ => rfl)))
      (pss_cons (ps_set (i := 14) sc_law.nd rfl (Or.inl rfl) (pe_ifExp (pt_cmpR (op_eqU hu64) (pe_ix ix_seq (pv 12) (pe_int) (fun _ _ => rfl)) (pe_str) (nomark _)) (pe_dget2 hu (pe_dget hu (pv 6) (pv 13) (fun _ _ => rfl)) (pe_ix ix_seq (pv 12) (pe_int) (fun _ _ => rfl)) (pe_int) ⟨rfl, rfl, rfl, rfl⟩) (pe_non)))
      (pss_cons (ps_if (pt_not (pt_val (pe_cal c__law_same (hr.mono (by first | decide | omega)) pass0 (pa_cons (pe_cal c__law_done (hr.mono (by first | decide | omega)) pass0 (pa_cons (pv 5) (pa_cons (pv 12) pa_nil))) (pa_cons (pv 14) pa_nil))))) (pss_one (ps_ret (pe_bl))) pss_nil)
      (pss_cons (ps_if (pt_cmpR (op_eqU hu64) (pe_ix ix_seq (pv 12) (pe_int) (fun _ _ => rfl)) (pe_str) (nomark _)) (pss_cons (ps_set (i := 15) sc_law.nd rfl (Or.inl rfl) (pe_dget hu (pv 6) (pv 13) (fun _ _ => rfl)))
      (pss_cons (ps_dput hu (pv 15) (pe_ix ix_seq (pv 12) (pe_int) (fun _ _ => rfl)) (pe_ix ix_seq (pv 12) (pe_int) (fun _ _ => rfl)) rfl)
      (pss_one (ps_expr (pe_bm PySem.F.plainAttrs_list PySem.F.slot_list_append PySem.F.type_list_append mt_append (pv 7) (pa_cons (pe_tup (pa_cons (pv 13) (pa_cons (pe_op op_fdivW (pe_ix ix_seq (pv 12) (pe_int) (fun _ _ => rfl)) (pe_int)) pa_nil))) pa_nil)))))) pss_nil)
      (pss_cons (ps_if (pt_cmpR (op_eqU hu64) (pe_ix ix_seq (pv 12) (pe_int) (fun _ _ => rfl)) (pe_str) (nomark _)) (pss_cons (ps_dput hu (pv 6) (pe_ix ix_seq (pv 12) (pe_int) (fun _ _ => rfl)) (pe_callTy call_dictD rfl B.m_dict (by decide +kernel) (pa_cons (pe_dget hu (pv 6) (pv 13) (fun _ _ => rfl)) pa_nil)) rfl)
      (pss_cons (ps_set (i := 7) sc_law.nd rfl (Or.inl rfl) (pe_op op_addU (pv 7) (pe_lc (own := [("own", 16), ("sheet", 17)]) rfl sc_law.nd (pi_seq (pv 7)) (blkOk_by (N := N_law) (sc := defScope s_law) (by decide +kernel)) (fun _ _ _ _ _ => (pg_tupK (K := K) (n := 2) rfl rfl (pgs_cons (pg_name (i := 16) sc_law.nd rfl (Or.inl rfl) (by first | exact Or.inl rfl | exact Or.inr rfl)) (pgs_cons (pg_name (i := 17) sc_law.nd rfl (Or.inl rfl) (by first | exact Or.inl rfl | exact Or.inr rfl)) pgs_nil)))) (fun _ _ _ _ _ => pts_one (pt_cmpR (op_eqUK (K := K) rfl hu64) (pv 16) (pv 13) (nomark _))) (fun _ _ _ _ _ => (pe_tup (pa_cons (pe_ix (ix_seqK (K := K) rfl) (pv 12) (pe_int) (fun _ _ => rfl)) (pa_cons (pv 17) pa_nil)))))))
      (pss_one (ps_par (i := 9) (j := 10) rfl sc_law.nd rfl rfl (by decide) rfl rfl (pa_cons (pe_op op_addU (pv 9) (pe_lst (pa_cons (pe_ix ix_seq (pv 12) (pe_int) (fun _ _ => rfl)) pa_nil))) (pa_cons (pe_op op_addU (pv 10) (pe_lst (pa_cons (pe_ix ix_seq (pv 12) (pe_int) (fun _ _ => rfl)) pa_nil))) pa_nil)) rfl)))) pss_nil)
      (pss_cons (ps_if (pt_cmpR (op_eqU hu64) (pe_ix ix_seq (pv 12) (pe_int) (fun _ _ => rfl)) (pe_str) (nomark _)) (pss_cons (ps_expr (pe_dpop1 (pv 6) (pv 13) ⟨rfl, rfl, rfl, rfl⟩))
      (pss_one (ps_setLc (i := 9) (own := [("own", 16)]) rfl sc_law.nd rfl rfl (sw_true rfl rfl rfl (by decide +kernel)) (pi_seq (pv 9)) (blkOk_by (N := N_law) (sc := defScope s_law) (by decide +kernel)) (fun _ _ _ _ _ => (pg_name (i := 16) sc_law.nd rfl (Or.inl rfl))) (fun _ _ _ _ _ => pts_one (pt_cmpR (op_neUK (K := K) rfl hu64) (pv 16) (pv 13) (nomark _))) (fun _ _ _ _ _ => (pv 16))))) pss_nil)
      (pss_cons (ps_expr (pe_bm PySem.F.plainAttrs_list PySem.F.slot_list_append PySem.F.type_list_append mt_append (pv 8) (pa_cons (pe_ifExp (pt_cmpR op_in_seq (pe_ix ix_seq (pv 12) (pe_int) (fun _ _ => rfl)) (pe_tup (pa_cons (pe_str) (pa_cons (pe_str) pa_nil))) (by first | rfl | exact nomark _)) (pv 12) (pe_tup (pa_cons (pe_ix ix_seq (pv 12) (pe_int) (fun _ _ => rfl)) (pa_cons (pv 13) (pa_cons (pe_op op_fdivW (pe_ix ix_seq (pv 12) (pe_int) (fun _ _ => rfl)) (pe_int)) pa_nil))))) pa_nil)))
      (pss_one (ps_if (PW.pt (pw_and (pt_cmpR (op_eqU hu64) (pe_cal c__law_draw (hr.mono (by first | decide | omega)) pass0 (pa_cons (pv 2) (pa_cons (pe_int) pa_nil))) (pe_int) (nomark _)) (pw_and1 (pt_not (pt_val (pe_cal c__law_asked (hr.mono (by first | decide | omega)) pass0 (pa_cons (pv 2) (pa_cons (pv 5) (pa_cons (pv 6) (pa_cons (pv 7) (pa_cons (pv 8) (pa_cons (pv 3) (pa_cons (pv 4) pa_nil))))))))))))) (pss_one (ps_ret (pe_bl))) pss_nil)))))))))))
      (pss_one (ps_if (PW.pt (pw_or (pt_not (pt_val (pe_cal c__law_asked (hr.mono (by first | decide | omega)) pass0 (pa_cons (pv 2) (pa_cons (pv 5) (pa_cons (pv 6) (pa_cons (pv 7) (pa_cons (pv 8) (pa_cons (pv 3) (pa_cons (pv 4) pa_nil)))))))))) (pw_or1 (pt_not (pt_val (pe_cal c__law_owners_right (hr.mono (by first | decide | omega)) pass0 (pa_cons (pv 5) (pa_cons (pv 6) (pa_cons (pv 8) pa_nil))))))))) (pss_one (ps_ret (pe_bl))) pss_nil))))))))
      (pss_one (ps_ret (pe_bl)))), ?_⟩
    try dsimp only [cxOf, Cx.nox, Cx.wish]
    walk_at "sq"
    refine S.forS (S.iRng1 ?_)
    walk_at "gs"
    refine S.lenSL hsq ?_
    walk_at "gs"
    have hb := lim3 ((ns.map V.int).length : Int)
    generalize (if (if ((ns.map V.int).length : Int) < 3 then ((ns.map V.int).length : Int) else 3) > 1 then (if ((ns.map V.int).length : Int) < 3 then ((ns.map V.int).length : Int) else 3) else (1 : Int)) = M at hb ⊢
    refine ⟨by omega, by omega, ?_⟩
    refine for_it (walk_range (lo := 0) (n := M.toNat)) (fun i σ H' => ∃ F' o1 o2 o3 o4 o5 o6 o7 o8 o9 o10 o11 o12 o13 o14 o15 o16 o17, Gr [] (fun _ => none) H F' H' ∧ σ = [some (V.ref sa), o1, o2, o3, o4, o5, o6, o7, o8, o9, o10, o11, o12, o13, o14, o15, o16, o17]) ?_ ?_ ?_ ?_
    · exact ⟨fun _ => none, none, none, none, none, none, none, none, none, none, none, none, none, none, none, none, none, none, Gr.refl (fun _ _ z => by cases z), rfl⟩
    · intros; trivial
    · rintro i x σ H' H'' hi ⟨F', o1, o2, o3, o4, o5, o6, o7, o8, o9, o10, o11, o12, o13, o14, o15, o16, o17, g, rfl⟩ ⟨rfl, rfl⟩
      have hi3 : i < 3 := by omega
      walk_at "gs"
      walk_at "sq"
      walk_at "gs"
      -- deck
      refine ⟨F', sa, ns, 0 + (i : Int), rfl, g.sub, sql_same g hsq, hnl, by omega, by omega, fun q H1 g1 hq fq hdk => ?_⟩
      have hq1 : H1 q ≠ none := hdk.live
      walk_at "gs"
      walk_at "sq"
      walk_at "gs"
      -- frames, rule
      refine ⟨F', q, 16, _, rfl, g1.sub, fq, hdk, by omega, by decide, by decide, fun fr0 H2 g2 hdk2 f0 f1 => ?_⟩
      have g02 := g1.fresh g2 fun x hx => by rw [List.mem_singleton.mp hx]; exact hq
      walk_at "gs"
      refine ⟨F', q, _, rfl, g2.sub, fq, hdk2, by omega, fun R u F3 H3 g3 hdk3 hR hu3 => ?_⟩
      have g03 := g02.fresh g3 fun x hx => by rw [List.mem_singleton.mp hx]; exact hq
      have fq3 : F3 q = none := g3.own q fq hdk2.live
      walk_at "gs"
      refine ⟨_, _, rfl, ?_⟩
      have hn1 : 1 ≤ 1 + fr0 := by omega
      have hn16 : 1 + fr0 ≤ 16 := by omega
      generalize 1 + fr0 = n at *
      walk_at "gs"
      walk_at "sq"
      walk_at "gs"
      -- pages
      intro pg dxp hp0 hdx0 ndx
      have gA : Gr [] F3 H3 F3 _ := (Gr.newOwn (o := .own pg) g3.sub hdx0).poke (q := pg) (o := .ins C3 dxp []) hp0 (sub_free g3.sub hp0)
      have hpg1 : upd (upd H3 dxp (.own pg)) pg (.ins C3 dxp []) pg = _ := upd_same
      generalize upd (upd H3 dxp (.own pg)) pg (.ins C3 dxp []) = HA at *
      refine ⟨F3, pg, dxp, n, u, R, rfl, gA.sub, sub_free g3.sub hp0, hpg1, hu3, hR, hn1, hn16, fun F4 H4 W g4 hP hW => ⟨rfl, ?_⟩⟩
      have g34 : Gr [] F3 H3 F4 H4 := gA.fresh g4 fun x hx => by rw [List.mem_singleton.mp hx]; exact hp0
      have hWn : ∀ b ∈ W, H3 b = none := fun b hb => (hW b hb).elim (fun e => by rw [e]; exact hp0) gA.free
      have hdk4 := hdk3.gr g34 (by simp)
      have fq4 : F4 q = none := g34.own q fq3 hdk3.live
      have g04 := g03.trans g34
      have hu4 := hu3.to g34.fs
      walk_at "gs"
      -- flat
      refine S.disp fun fl hfl => ?_
      have g5 : Gr [] F4 H4 F4 _ := Gr.newOwn (o := .dK []) g04.sub hfl
      have ffl := sub_free g04.sub hfl
      have hfl1 : upd H4 fl (.dK []) fl = some (.dK []) := upd_same
      generalize upd H4 fl (.dK []) = H5 at *
      refine S.pairsC ?_
      walk_at "gs"
      refine S.dnewK fun d hd0 => ?_
      have ndf : d ≠ fl := fun z => by rw [z, hfl1] at hd0; cases hd0
      have fd' := sub_free g5.sub hd0
      have hd4 := g5.free hd0
      have g6 := g5.poke (q := d) (o := .dK []) hd4 fd'
      have hfl2 := (upd_ne (o := .dK []) (a := d) (H := H5) ndf.symm).trans hfl1
      have hd2 : upd H5 d (.dK []) d = some (.dK []) := upd_same
      generalize upd H5 d _ = H6 at *
      refine S.pairsN ⟨hfl2, [(Sum.inl 1, .ref d)], rfl, (by show 1 ≤ 15; decide), ?_⟩
      rw [show mergeK [] [((Sum.inl 1 : Key), V.ref d)] = kM (fun x : Addr × AL Int => V.ref x.1) [(1, (d, []))] from rfl]
      have g7 := g6.poke (q := fl) (o := .dK (kM (fun x : Addr × AL Int => V.ref x.1) [(1, (d, []))])) hfl ffl
      have hd3 := (upd_ne (o := .dK (kM (fun x : Addr × AL Int => V.ref x.1) [(1, (d, []))])) (a := fl) (H := H6) ndf).trans hd2
      have hfl3 : upd H6 fl (.dK (kM (fun x : Addr × AL Int => V.ref x.1) [(1, (d, []))])) fl = _ := upd_same
      generalize upd H6 fl _ = H7 at *
      have hmT : ∀ x ∈ fl :: addrsOf [((1 : Int), (d, ([] : AL Int)))], x = fl ∨ x = d := fun x hx => by simpa [addrsOf] using hx
      have tp7 : TP F4 H7 fl [(1, (d, []))] := ⟨⟨hfl3, fun t ht => by rw [List.mem_singleton.mp ht]; exact hd3⟩, by simp [addrsOf, ndf.symm], fun x hx => (hmT x hx).elim (fun e => by rw [e]; exact ffl) fun e => by rw [e]; exact fd'⟩
      have hT4 : ∀ x ∈ fl :: addrsOf [((1 : Int), (d, ([] : AL Int)))], H4 x = none := fun x hx => (hmT x hx).elim (fun e => by rw [e]; exact hfl) fun e => by rw [e]; exact hd4
      walk_at "gs"
      -- stored
      refine own_lstG g7.sub (by show 0 ≤ sizeLine; decide) fun sl g8 hsl fsl hsl8 => ?_
      generalize upd H7 sl _ = H8 at *
      walk_at "gs"
      -- deeds
      refine own_lstG g8.sub (by show 0 ≤ sizeLine; decide) fun dl g9 hdl fdl hdl9 => ?_
      generalize upd H8 dl _ = H9 at *
      walk_at "gs"
      refine new_tupS g9.sub (fun tq g10 htq => ?_) (by show 4 ≤ sizeLine; decide)
      generalize upd H9 tq _ = H10 at *
      refine S.gTupO htq rfl ?_
      walk_at "gs"
      walk_at "sq"
      walk_at "gs"
      -- there, met
      refine own_lstG g10.sub (by show 1 ≤ sizeLine; decide) fun tA g11 htA ftA htA11 => ?_
      generalize upd H10 tA _ = H11 at *
      walk_at "gs"
      refine own_lstG g11.sub (by show 1 ≤ sizeLine; decide) fun mA g12 hmA fmA hmA12 => ?_
      generalize upd H11 mA _ = H12 at *
      walk_at "gs"
      refine ⟨_, _, rfl, ?_⟩
      have g712 := (((g8.trans g9).trans g10).trans g11).trans g12
      have g412 := g7.trans g712
      have g012 := g04.trans g412
      have hH10 : ∀ x, H3 x = none → H1 x = none := fun x hx => g2.free (g3.free hx)
      have hLH : LH K C C2 C3 F' H'' F4 H12 q pg fl sl dl tA mA 13 ⟨st0, fst0 n R, [], []⟩ W [(1, (d, []))] [] [] [] [] [1] [1] u R (colOf [(H'', 9), (H1, 2), (H4, 0), (H7, 1), (H8, 3), (H9, 4), (H11, 5), (H12, 6)]) := by
        refine ⟨g012, hP.gr0 g412, tp7.gr0 g712, (hdk4.gr g412 (by simp)).more (by omega), (((g9.trans g10).trans g11).trans g12).at0 hsl8, .nil, ((g10.trans g11).trans g12).at0 hdl9, .nil, g12.at0 htA11, hmA12, hu4, fq4, fsl, fdl, ftA, fmA, fun x hx => ?_, fun x hx => ?_, ?_, ?_, ?_, ?_, ?_, fun x hx => ?_⟩
        · have h3 := hWn x hx
          rw [colOf_miss (g1.free (hH10 x h3)), colOf_miss (hH10 x h3)]
          exact colOf_hit (hP.live x hx)
        · have h4 := hT4 x hx
          have h3 := g34.free h4
          rw [colOf_miss (g1.free (hH10 x h3)), colOf_miss (hH10 x h3), colOf_miss h4]
          exact colOf_hit (tp7.live x hx)
        · rw [colOf_miss hq]
          exact colOf_hit hq1
        · have h4 := g7.free hsl
          have h3 := g34.free h4
          rw [colOf_miss (g1.free (hH10 _ h3)), colOf_miss (hH10 _ h3), colOf_miss h4, colOf_miss hsl]
          exact colOf_hit (by show H8 sl ≠ none; rw [hsl8]; exact fun z => nomatch z)
        · have h7 := g8.free hdl
          have h4 := g7.free h7
          have h3 := g34.free h4
          rw [colOf_miss (g1.free (hH10 _ h3)), colOf_miss (hH10 _ h3), colOf_miss h4, colOf_miss h7, colOf_miss hdl]
          exact colOf_hit (by show H9 dl ≠ none; rw [hdl9]; exact fun z => nomatch z)
        · have h9 := g10.free htA
          have h8 := g9.free h9
          have h7 := g8.free h8
          have h4 := g7.free h7
          have h3 := g34.free h4
          rw [colOf_miss (g1.free (hH10 _ h3)), colOf_miss (hH10 _ h3), colOf_miss h4, colOf_miss h7, colOf_miss h8, colOf_miss h9]
          exact colOf_hit (by show H11 tA ≠ none; rw [htA11]; exact fun z => nomatch z)
        · have h10 := g11.free hmA
          have h9 := g10.free h10
          have h8 := g9.free h9
          have h7 := g8.free h8
          have h4 := g7.free h7
          have h3 := g34.free h4
          rw [colOf_miss (g1.free (hH10 _ h3)), colOf_miss (hH10 _ h3), colOf_miss h4, colOf_miss h7, colOf_miss h8, colOf_miss h9, colOf_miss hmA]
          exact colOf_hit (by show H12 mA ≠ none; rw [hmA12]; exact fun z => nomatch z)
        · cases e : H'' x with
          | none => rfl
          | some o =>
            rw [colOf_hit (p := (H'', 9)) (show H'' x ≠ none by rw [e]; exact fun z => nomatch z)] at hx
            exact absurd (show (9 : Nat) < 7 from hx) (by decide)
      have hPW : PWell n R ⟨st0, fst0 n R, [], []⟩ := PWell.zero hn1 hn16 R
      walk_at "gs"
      walk_at "sq"
      refine S.forS (S.iRng1 ?_)
      walk_at "gs"
      refine ⟨F4, q, 81, 13, rfl, hLH.g.sub, fq4, hLH.dk, by omega, by decide, by decide, fun tn H13 g13 hdk13 tn0 tn1 => ?_⟩
      have hL13 := hLH.deck g13 hdk13
      walk_at "gs"
      refine ⟨by omega, by omega, ?_⟩
      have hN : (10 + tn).toNat ≤ 90 := by omega
      refine for_it (walk_range (lo := 0) (n := (10 + tn).toNat)) (fun j σ H' => LS K C C2 C3 F' H'' sa q pg fl dl n u R j (14 + 8 * j) σ H') ?_ ?_ ?_ ?_
      · exact ⟨F4, _, _, _, _, _, _, _, _, _, _, sl, tA, mA, _, _, _, _, _, _, _, _, hL13, hPW, LRel.zero, hR, rfl, Nat.le_refl _, by simp, by simp, by intro t ht; simp at ht; omega, rfl⟩
      · intros; trivial
      · rintro j x σ H20 H21 hj hS ⟨rfl, rfl⟩
        have hj90 : j < 90 := by omega
        clear hLH hPW hL13
        obtain ⟨F21, m, Z, W1, TF, sxs, dxs, stL, there, met, col, sl1, tA1, mA1, p1, p11, p12, p13, p14, p15, p16, p17, hL, pw, rel, rk, hzl, hm, hsl9, hmn, hmr, rfl⟩ := hS
        walk_at "gs"
        have hslots : True := trivial
        refine S.seqQ8 (fun σ' H' => LS K C C2 C3 F' H'' sa q pg fl dl n u R (j + 1) (14 + 8 * j + 6) σ' H') ?_ ?_
        · clear hL pw rel hzl hm hsl9 hmn hmr
          rintro σ' H22 hS
          obtain ⟨F22, m, Z, W1, TF, sxs, dxs, stL, there, met, col, sl1, tA1, mA1, p1, p11, p12, p13, p14, p15, p16, p17, hL, pw, rel, rk, hzl, hm, hsl9, hmn, hmr, rfl⟩ := hS
          walk_at "gs"
          refine ⟨F22, q, 6, m, rfl, hL.g.sub, hL.fq, hL.dk, by omega, by decide, by decide, fun y H23 g23 hdk23 _ _ => ?_⟩
          have hL23 := hL.deck g23 hdk23
          walk_at "gs"
          refine S.ite (fun e => ?_) (fun e => ?_)
          · obtain ⟨a1, a2, a3, a4, a5, a6⟩ := hL23.apart
            walk_at "gs"
            refine ⟨F22, q, pg, fl, sl1, dl, m + 1, Z, W1, TF, sxs, dxs, stL, there, met, n, R, u, rfl, hL23.fq, hL23.dk, by omega, hL23.asked pw rel rk, a1, a2, a3, a4, fun F24 H24 g24 hdk24 => ?_⟩
            have hL24 := hL23.deck g24 hdk24
            walk_at "gs"
            refine S.iteF rfl ?_
            exact S.next ⟨F24, _, _, _, _, _, _, _, _, _, _, sl1, tA1, mA1, _, _, _, _, _, _, _, _, hL24, pw, rel, rk, hzl, by omega, hsl9, hmn, hmr, rfl⟩
          · exact S.next ⟨F22, _, _, _, _, _, _, _, _, _, _, sl1, tA1, mA1, _, _, _, _, _, _, _, _, hL23, pw, rel, rk, hzl, by omega, hsl9, hmn, hmr, rfl⟩
        · intro nx9 hnx
          obtain ⟨a1, a2, a3, a4, a5, a6⟩ := hL.apart
          have hml := met_len hmn hmr
          have htl := met_len rel.gi.nt rel.gi.rg
          have hsc := sl_cap hsl9 hml (by omega)
          walk_at "sq"
          walk_at "gs"
          refine ⟨F21, q, tA1, mA1, there, met, m, rfl, hL.g.sub, hL.fq, hL.dk, by omega, hL.tl, hL.ml, a5, a6, rel.gi.ne, by omega, by omega, fun c w F22 H22 g22 hdk22 ok hw => ?_⟩
          have hL22 := hL.deck g22 hdk22
          clear hL g22 hdk22 a1 a2 a3 a4 a5 a6
          have okd := call_okD rel.gi ok rel.tm
          have harg := ok.arg
          have hpw := pw.step okd (by omega)
          have hrel := rel.step pw.bok pw.pi ok
          have hsl10 := sl_len hsl9 c
          obtain ⟨hmn', hmr'⟩ := met_ok hmn hmr ok
          have hml' := met_len hmn' hmr'
          have hsc' := sl_cap hsl10 hml' (by omega)
          have hzl' : (stepP Z c).ds.length = j + 1 := by show (Z.ds ++ [deedOf c]).length = j + 1; simp [hzl]
          have hdxl := dp_len hL22.dd
          rw [List.length_map] at hdxl
          have hsxl := dp_len hL22.sd
          rw [List.length_map] at hsxl
          have hnk : (keysA TF).Nodup := by have := rel.nk; rwa [keys_sheetsOf] at this
          have hTl : TF.length ≤ 6 := by have := rel.tl; simpa [sheetsOf] using this
          have hrow : ∀ t ∈ there, ∃ d row, getA TF t = some (d, row) ∧ getA (sheetsOf TF) t = some row ∧ row.length ≤ 4096 := fun t ht => by
            have h1 := (rel.fk t).mpr ht
            obtain ⟨d, row, h2, h3⟩ := tab_of rfl h1
            exact ⟨d, row, h2, h3, row_cap (rel.rn _ (getA_mem h3)) (rel.rr _ (getA_mem h3))⟩
          walk_at "go"
          cases c with
          | load t a =>
            obtain ⟨d, row, hTt, hft, hrl⟩ := hrow t ok.1
            refine S.ixT (K := K) hw hL22.g.sub (d := .int t) S.atI_1 fun w0 hw0 => ?_
            obtain rfl := dp_int hw0
            walk_at "go"
            refine S.ixT (K := K) hw hL22.g.sub (d := .str "load") S.atI_0 fun w0 hw0 => ?_
            obtain rfl := dp_str hw0
            walk_at "go"
            refine S.iteT rfl ?_
            refine S.dget2 ?_
            walk_at "go"
            refine dget_of (k := Sum.inl t) hL22.tp.tabs.tab (by rw [valV_kM, hTt]; rfl) ?_
            have hrowd := hL22.tp.tabs.rows _ (getA_mem hTt)
            refine ⟨d, rfl, .inl ⟨_, .inl hrowd⟩, ?_⟩
            walk_at "go"
            refine S.ixT (K := K) hw hL22.g.sub (d := .int a) S.atI_2 fun w0 hw0 => ?_
            obtain rfl := dp_int hw0
            walk_at "go"
            refine ⟨_, DGet.k (k := Sum.inl a) hrowd, ?_⟩
            rw [valV_kM]
            have ev : ((getA row a).map V.int).getD (.int 0) = .int (valP Z.st Z.fg t a) := by
              rw [← rel.fv t row hft a ok.2.1 ok.2.2]
              cases getA row a <;> rfl
            rw [ev]
            walk_at "go"
            refine ⟨F22, pg, Z, W1, w, .load t a, n, R, rfl, hL22.g.sub, hL22.pg, pw, okd, harg, hw, fun F23 H23 go => ?_⟩
            obtain ⟨W2, col2, hL23⟩ := hL22.page go
            have hw23 := hw.to go.1.fs
            walk_at "go"
            refine ⟨F23, _, _, .int (valP Z.st Z.fg t a), rfl, hL23.g.sub, .int _, .int _, by simp [PyData.depth], by simp [wid], fun F24 H24 g24 => ?_⟩
            have hL24 := hL23.gr0 g24
            have hw24 := hw23.to g24.fs
            walk_at "go"
            refine S.iteF rfl ?_
            walk_at "go"
            refine S.ixT (K := K) hw24 hL24.g.sub (d := .str "load") S.atI_0 fun w0 hw0 => ?_
            obtain rfl := dp_str hw0
            walk_at "go"
            refine S.iteF rfl ?_
            walk_at "go"
            refine S.ixT (K := K) hw24 hL24.g.sub (d := .str "load") S.atI_0 fun w0 hw0 => ?_
            obtain rfl := dp_str hw0
            walk_at "go"
            refine S.iteF rfl ?_
            walk_at "go"
            refine S.ixT (K := K) hw24 hL24.g.sub (d := .str "load") S.atI_0 fun w0 hw0 => ?_
            obtain rfl := dp_str hw0
            walk_at "go"
            refine S.iteF rfl ?_
            walk_at "go"
            refine S.tyO hL24.hd ?_
            walk_at "go"
            refine S.ixT (K := K) hw24 hL24.g.sub (d := .str "load") S.atI_0 fun w0 hw0 => ?_
            obtain rfl := dp_str hw0
            walk_at "go"
            refine new_tupS hL24.g.sub (fun t2 g25 ht2 => ?_) (by show 2 ≤ sizeLine; decide)
            have hL25 := hL24.gr0 g25
            have hw25 := hw24.to g25.fs
            generalize upd H24 t2 _ = H25 at *
            refine S.inT (K := K) ht2 rfl rfl ?_
            walk_at "go"
            refine S.iteF (by decide) ?_
            walk_at "go"
            refine S.ixT (K := K) hw25 hL25.g.sub (d := .str "load") S.atI_0 fun w0 hw0 => ?_
            obtain rfl := dp_str hw0
            walk_at "go"
            refine S.ixT (K := K) hw25 hL25.g.sub (d := .int a) S.atI_2 fun w0 hw0 => ?_
            obtain rfl := dp_int hw0
            walk_at "go"
            refine S.rI (wide_div (b := 7) (by decide) (by decide) (by decide) (by decide)) ?_
            walk_at "go"
            refine new_tupG (K := K) hL25.g.sub (ds := [.str "load", .int t, .int (a / 64)]) (.cons (.str _) (.cons (.int _) (.cons (.int _) .nil))) (by show 3 ≤ sizeLine; decide) fun t3 F26 g26 ht3 hv3 => ?_
            have hL26 := hL25.gr0 g26
            generalize upd H25 t3 _ = H26 at *
            walk_at "go"
            refine S.appO hL26.hd (size1000000 (by omega)) ?_
            have hL27 := hL26.dapp (p := .load t (a / 64)) hv3
            generalize upd H26 dl _ = H27 at *
            exact hnx _ _ ⟨F26, m + 6, stepP Z (.load t a), W2, TF, sxs, _, stL, there, met, col2, sl1, tA1, mA1, _, _, _, _, _, _, _, _, hL27, hpw, hrel, rk, hzl', by omega, hsl10, hmn', hmr', rfl⟩
          | store t a f =>
            obtain ⟨d, row, hTt, hft, hrl⟩ := hrow t ok.1
            refine S.ixT (K := K) hw hL22.g.sub (d := .int t) S.atI_1 fun w0 hw0 => ?_
            obtain rfl := dp_int hw0
            walk_at "go"
            refine S.ixT (K := K) hw hL22.g.sub (d := .str "store") S.atI_0 fun w0 hw0 => ?_
            obtain rfl := dp_str hw0
            walk_at "go"
            refine S.iteF rfl ?_
            walk_at "go"
            refine ⟨F22, pg, Z, W1, w, .store t a f, n, R, rfl, hL22.g.sub, hL22.pg, pw, okd, harg, hw, fun F23 H23 go => ?_⟩
            obtain ⟨W2, col2, hL23⟩ := hL22.page go
            have hw23 := hw.to go.1.fs
            walk_at "go"
            refine ⟨F23, _, _, .none, rfl, hL23.g.sub, .non, .non, by simp [PyData.depth], by simp [wid], fun F24 H24 g24 => ?_⟩
            have hL24 := hL23.gr0 g24
            have hw24 := hw23.to g24.fs
            walk_at "go"
            refine S.iteF rfl ?_
            walk_at "go"
            refine S.ixT (K := K) hw24 hL24.g.sub (d := .str "store") S.atI_0 fun w0 hw0 => ?_
            obtain rfl := dp_str hw0
            walk_at "go"
            refine S.iteT rfl ?_
            walk_at "go"
            refine dget_of (k := Sum.inl t) hL24.tp.tabs.tab (by rw [valV_kM, hTt]; rfl) ?_
            have hrowd : H24 d = some (.dK (kM V.int row)) := hL24.tp.tabs.rows _ (getA_mem hTt)
            walk_at "go"
            refine S.ixT (K := K) hw24 hL24.g.sub (d := .int f) (S.atI_nat (j := 3) rfl) fun w0 hw0 => ?_
            obtain rfl := dp_int hw0
            walk_at "go"
            refine S.ixT (K := K) hw24 hL24.g.sub (d := .int a) S.atI_2 fun w0 hw0 => ?_
            obtain rfl := dp_int hw0
            walk_at "go"
            refine dput_of (k := Sum.inl a) hrowd (by rw [kM_len]; exact size1000000 (by omega)) ?_
            rw [putK_kM]
            have hL25 := hL24.row hnk hTt (putA row a f)
            generalize upd H24 d _ = H25 at *
            walk_at "go"
            refine S.tyO hL25.hs ?_
            walk_at "go"
            refine S.ixT (K := K) hw24 hL25.g.sub (d := .int a) S.atI_2 fun w0 hw0 => ?_
            obtain rfl := dp_int hw0
            walk_at "go"
            refine S.rI (wide_div (b := 7) (by decide) (by decide) (by decide) (by decide)) ?_
            walk_at "go"
            refine new_tupG (K := K) hL25.g.sub (ds := [.int t, .int (a / 64)]) (.cons (.int _) (.cons (.int _) .nil)) (by show 2 ≤ sizeLine; decide) fun t3 F26 g26 ht3 hv3 => ?_
            have hL26 := hL25.gr0 g26
            have hw26 := hw24.to g26.fs
            generalize upd H25 t3 _ = H26 at *
            walk_at "go"
            refine S.appO hL26.hs (size1000000 (by omega)) ?_
            have hL27 := hL26.sapp (p := (t, a / 64)) hv3
            generalize upd H26 sl1 _ = H27 at *
            walk_at "go"
            refine S.ixT (K := K) hw26 hL27.g.sub (d := .str "store") S.atI_0 fun w0 hw0 => ?_
            obtain rfl := dp_str hw0
            walk_at "go"
            refine S.iteF rfl ?_
            walk_at "go"
            refine S.ixT (K := K) hw26 hL27.g.sub (d := .str "store") S.atI_0 fun w0 hw0 => ?_
            obtain rfl := dp_str hw0
            walk_at "go"
            refine S.iteF rfl ?_
            walk_at "go"
            refine S.tyO hL27.hd ?_
            walk_at "go"
            refine S.ixT (K := K) hw26 hL27.g.sub (d := .str "store") S.atI_0 fun w0 hw0 => ?_
            obtain rfl := dp_str hw0
            walk_at "go"
            refine new_tupS hL27.g.sub (fun t2 g28 ht2 => ?_) (by show 2 ≤ sizeLine; decide)
            have hL28 := hL27.gr0 g28
            have hw28 := hw26.to g28.fs
            generalize upd H27 t2 _ = H28 at *
            refine S.inT (K := K) ht2 rfl rfl ?_
            walk_at "go"
            refine S.iteF (by decide) ?_
            walk_at "go"
            refine S.ixT (K := K) hw28 hL28.g.sub (d := .str "store") S.atI_0 fun w0 hw0 => ?_
            obtain rfl := dp_str hw0
            walk_at "go"
            refine S.ixT (K := K) hw28 hL28.g.sub (d := .int a) S.atI_2 fun w0 hw0 => ?_
            obtain rfl := dp_int hw0
            walk_at "go"
            refine S.rI (wide_div (b := 7) (by decide) (by decide) (by decide) (by decide)) ?_
            walk_at "go"
            refine new_tupG (K := K) hL28.g.sub (ds := [.str "store", .int t, .int (a / 64)]) (.cons (.str _) (.cons (.int _) (.cons (.int _) .nil))) (by show 3 ≤ sizeLine; decide) fun t4 F29 g29 ht4 hv4 => ?_
            have hL29 := hL28.gr0 g29
            generalize upd H28 t4 _ = H29 at *
            walk_at "go"
            refine S.appO hL29.hd (size1000000 (by omega)) ?_
            have hL30 := hL29.dapp (p := .store t (a / 64)) hv4
            generalize upd H29 dl _ = H30 at *
            have hrel' : LRel (stepP Z (.store t a f)).st (stepP Z (.store t a f)).fg (sheetsOf (setRow TF t (putA row a f))) (stL ++ [(t, a / 64)]) there met := by
              rw [setRow_sheets (by rw [hTt]; rfl)]
              have e : (getA (sheetsOf TF) t).getD [] = row := by rw [hft]; rfl
              have z : LRel (stepP Z (.store t a f)).st (stepP Z (.store t a f)).fg (putA (sheetsOf TF) t (putA ((getA (sheetsOf TF) t).getD []) a f)) (stL ++ [(t, a / 64)]) there met := hrel
              rw [e] at z
              exact z
            exact hnx _ _ ⟨F29, m + 6, stepP Z (.store t a f), W2, _, _, _, _, there, met, col2, sl1, tA1, mA1, _, _, _, _, _, _, _, _, hL30, hpw, hrel', rk, hzl', by omega, hsl10, hmn', hmr', rfl⟩
          | fork t c =>
            obtain ⟨d, row, hTt, hft, hrl⟩ := hrow t ok.1
            refine S.ixT (K := K) hw hL22.g.sub (d := .int t) S.atI_1 fun w0 hw0 => ?_
            obtain rfl := dp_int hw0
            walk_at "go"
            refine S.ixT (K := K) hw hL22.g.sub (d := .str "fork") S.atI_0 fun w0 hw0 => ?_
            obtain rfl := dp_str hw0
            walk_at "go"
            refine S.iteF rfl ?_
            walk_at "go"
            refine ⟨F22, pg, Z, W1, w, .fork t c, n, R, rfl, hL22.g.sub, hL22.pg, pw, okd, harg, hw, fun F23 H23 go => ?_⟩
            obtain ⟨W2, col2, hL23⟩ := hL22.page go
            have hw23 := hw.to go.1.fs
            walk_at "go"
            refine ⟨F23, _, _, .none, rfl, hL23.g.sub, .non, .non, by simp [PyData.depth], by simp [wid], fun F24 H24 g24 => ?_⟩
            have hL24 := hL23.gr0 g24
            have hw24 := hw23.to g24.fs
            walk_at "go"
            refine S.iteF rfl ?_
            walk_at "go"
            refine S.ixT (K := K) hw24 hL24.g.sub (d := .str "fork") S.atI_0 fun w0 hw0 => ?_
            obtain rfl := dp_str hw0
            walk_at "go"
            refine S.iteF rfl ?_
            walk_at "go"
            refine S.ixT (K := K) hw24 hL24.g.sub (d := .str "fork") S.atI_0 fun w0 hw0 => ?_
            obtain rfl := dp_str hw0
            walk_at "go"
            refine S.iteT rfl ?_
            walk_at "go"
            refine dget_of (k := Sum.inl t) hL24.tp.tabs.tab (by rw [valV_kM, hTt]; rfl) ?_
            have hrowd : H24 d = some (.dK (kM V.int row)) := hL24.tp.tabs.rows _ (getA_mem hTt)
            walk_at "go"
            refine ⟨d, _, rfl, .inl hrowd, fun d2 hd2 => ?_⟩
            have g25 : Gr [] F24 H24 F24 _ := Gr.newOwn (o := .dK (kM V.int row)) hL24.g.sub hd2
            have hd25 : upd H24 d2 (.dK (kM V.int row)) d2 = some (.dK (kM V.int row)) := upd_same
            have fd2 := sub_free hL24.g.sub hd2
            have hL25 := hL24.gr0 g25
            have hcn : c ∉ there := fun z => ok.2.2 (rel.tm c z)
            have hcT : getA TF c = none := by
              cases q6 : getA TF c with
              | none => rfl
              | some y => exact absurd ((rel.fk c).mp (by rw [getA_rows, q6]; rfl)) hcn
            have hcT2 : getA (sheetsOf TF) c = none := by rw [getA_rows, hcT]; rfl
            generalize upd H24 d2 _ = H25 at *
            walk_at "go"
            refine S.ixT (K := K) hw24 hL25.g.sub (d := .int c) S.atI_2 fun w0 hw0 => ?_
            obtain rfl := dp_int hw0
            walk_at "go"
            refine dput_of (k := Sum.inl c) hL25.tp.tabs.tab (by rw [kM_len]; exact size1000000 (by omega)) ?_
            rw [show V.ref d2 = (fun x : Addr × AL Int => V.ref x.1) (d2, row) from rfl, putK_kM, putA_new _ hcT]
            obtain ⟨col3, hL26⟩ := hL24.flnew g25 hd2 hd25 fd2 c
            generalize upd H25 fl _ = H26 at *
            walk_at "go"
            refine S.lcS (S.iSeqL ?_)
            walk_at "go"
            refine ⟨sl1, rfl, ⟨_, SqL.of hL26.hs⟩, fun D hD => ?_⟩
            have fD := sub_free hL26.g.sub hD
            refine lc_it (walk_list (K := K) (a := sl1) (xs := sxs)) (fun j2 H5 => ∃ F5 acc, Gr [] F24 H26 F5 H5 ∧ F5 D = none ∧ H5 D = some (.lst acc) ∧ DpAll K F5 acc ((((stL.take j2).filter fun p => decide (p.1 = t)).map fun p => (c, p.2)).map prZ) ∧ acc.length ≤ j2)
              ⟨F24, [], Gr.newOwn hL26.g.sub hD, fD, upd_same, .nil, Nat.le_refl _⟩ ?_ ?_ ?_
            · rintro j2 H5 _ ⟨F5, acc, g5, _⟩
              exact SqL.of (g5.at0 hL26.hs)
            · rintro j2 y H50 H5 hj2 ⟨F5, acc, g5, fD5, hD5, hacc, hal⟩ ⟨rfl, hy⟩
              obtain ⟨dy, hdy, hyd⟩ := dp_getV hL26.sd hy
              rw [List.getElem?_map] at hdy
              obtain ⟨p, hp⟩ : ∃ p, stL[j2]? = some p := by
                cases q : stL[j2]? with
                | none => rw [q] at hdy; cases hdy
                | some p => exact ⟨p, rfl⟩
              rw [hp] at hdy
              obtain rfl : prZ p = dy := Option.some.inj hdy
              have hfil : (stL.take (j2 + 1)).filter (fun p => decide (p.1 = t)) = if p.1 = t then (stL.take j2).filter (fun p => decide (p.1 = t)) ++ [p] else (stL.take j2).filter (fun p => decide (p.1 = t)) := by
                rw [take_succ_get hp, filter_snoc]
                by_cases e : p.1 = t <;> simp [e]
              rw [hfil]
              refine S.gTup2 (K := K) (d1 := .int p.1) (d2 := .int p.2) (hyd.to g5.fs) g5.sub fun x1 y1 hx1 hy1 => ?_
              obtain rfl := dp_int hx1
              obtain rfl := dp_int hy1
              walk_at "gs"
              refine ⟨rfl, ?_⟩
              walk_at "gs"
              refine S.ite (fun e => ?_) (fun e => ?_)
              · have e' : p.1 = t := of_decide_eq_true e
                rw [if_pos e']
                walk_at "gs"
                refine S.ixT (K := K) (hw24.to g5.fs) g5.sub (d := .int c) S.atI_2 fun w0 hw0 => ?_
                obtain rfl := dp_int hw0
                walk_at "gs"
                refine new_tupG (K := K) g5.sub (ds := [.int c, .int p.2]) (.cons (.int _) (.cons (.int _) .nil)) (by show 2 ≤ sizeLine; decide) fun z F7 g7 hz hvz => ?_
                have hD7 := g7.at0 hD5
                have fD7 : F7 D = none := g7.own D fD5 (by rw [hD5]; exact fun z => nomatch z)
                generalize upd H5 z _ = H7 at *
                refine ⟨acc, hD7, size1000000 (by omega), F7, acc ++ [.ref z], (g5.trans g7).poke hD fD7, fD7, upd_same, ?_, by simp; omega⟩
                rw [List.map_append, List.map_append]
                exact dp_app (hacc.to g7.fs) (.cons hvz .nil)
              · have e' : ¬ p.1 = t := of_decide_eq_false e
                rw [if_neg e']
                exact ⟨F5, acc, g5, fD5, hD5, hacc, by omega⟩
            · rintro H27 ⟨F27, acc, g27, fD27, hD27, hacc, hal⟩
              rw [hsxl, List.take_length] at hacc
              have hL27 := hL26.gr0 g27
              have hw27 := hw24.to g27.fs
              walk_at "go"
              refine S.catL hL27.hs hD27 (app_len (n := 6400) (m := 6400) (by omega) (by omega) (by decide)) fun p28 hp28 => ?_
              have g28 : Gr [] F27 H27 F27 _ := Gr.newOwn (o := .lst (sxs ++ acc)) hL27.g.sub hp28
              obtain ⟨col4, hL28⟩ := hL27.snew g28 hp28 upd_same (sub_free hL27.g.sub hp28) (l := slStep stL (.fork t c)) (by
                show DpAll K F27 (sxs ++ acc) ((stL ++ (stL.filter fun p => decide (p.1 = t)).map fun p => (c, p.2)).map prZ)
                rw [List.map_append]
                exact dp_app hL27.sd hacc)
              generalize upd H27 p28 _ = H28 at *
              walk_at "go"
              refine S.ixT (K := K) hw27 hL28.g.sub (d := .int c) S.atI_2 fun w0 hw0 => ?_
              obtain rfl := dp_int hw0
              walk_at "go"
              refine own_lstG hL28.g.sub (by show 1 ≤ sizeLine; decide) fun e29 g29 he29 _ hee29 => ?_
              have hL29 := hL28.gr0 g29
              generalize upd H28 e29 _ = H29 at *
              refine S.catL hL29.tl hee29 (app_len (n := 6) (m := 1) (by rw [List.length_map]; omega) (Nat.le_refl _) (by decide)) fun p30 hp30 => ?_
              have g30 : Gr [] F27 H29 F27 _ := Gr.newOwn (o := .lst (there.map V.int ++ [V.int c])) hL29.g.sub hp30
              obtain ⟨col5, hL30⟩ := hL29.tnew g30 hp30 (l := there ++ [c]) (by rw [List.map_append]; exact upd_same) (sub_free hL29.g.sub hp30)
              generalize upd H29 p30 _ = H30 at *
              walk_at "go"
              refine S.ixT (K := K) hw27 hL30.g.sub (d := .int c) S.atI_2 fun w0 hw0 => ?_
              obtain rfl := dp_int hw0
              walk_at "go"
              refine own_lstG hL30.g.sub (by show 1 ≤ sizeLine; decide) fun e31 g31 he31 _ hee31 => ?_
              have hL31 := hL30.gr0 g31
              generalize upd H30 e31 _ = H31 at *
              refine S.catL hL31.ml hee31 (app_len (n := 6) (m := 1) (by rw [List.length_map]; omega) (Nat.le_refl _) (by decide)) fun p32 hp32 => ?_
              have g32 : Gr [] F27 H31 F27 _ := Gr.newOwn (o := .lst (met.map V.int ++ [V.int c])) hL31.g.sub hp32
              obtain ⟨col6, hL32⟩ := hL31.mnew g32 hp32 (l := met ++ [c]) (by rw [List.map_append]; exact upd_same) (sub_free hL31.g.sub hp32)
              generalize upd H31 p32 _ = H32 at *
              walk_at "go"
              refine ⟨_, _, rfl, ?_⟩
              walk_at "go"
              refine S.ixT (K := K) hw27 hL32.g.sub (d := .str "fork") S.atI_0 fun w0 hw0 => ?_
              obtain rfl := dp_str hw0
              walk_at "go"
              refine S.iteF rfl ?_
              walk_at "go"
              refine S.tyO hL32.hd ?_
              walk_at "go"
              refine S.ixT (K := K) hw27 hL32.g.sub (d := .str "fork") S.atI_0 fun w0 hw0 => ?_
              obtain rfl := dp_str hw0
              walk_at "go"
              refine new_tupS hL32.g.sub (fun t2 g33 ht2 => ?_) (by show 2 ≤ sizeLine; decide)
              have hL33 := hL32.gr0 g33
              have hw33 := hw27.to g33.fs
              generalize upd H32 t2 _ = H33 at *
              refine S.inT (K := K) ht2 rfl rfl ?_
              walk_at "go"
              refine S.iteT (by decide) ?_
              walk_at "go"
              refine S.appO hL33.hd (size1000000 (by omega)) ?_
              have hL34 := hL33.dapp (p := .fork t c) hw33
              generalize upd H33 dl _ = H34 at *
              have hrel' : LRel (stepP Z (.fork t c)).st (stepP Z (.fork t c)).fg (sheetsOf (TF ++ [(c, (d2, row))])) (slStep stL (.fork t c)) (there ++ [c]) (met ++ [c]) := by
                have e : (getA (sheetsOf TF) t).getD [] = row := by rw [hft]; rfl
                have z : LRel (stepP Z (.fork t c)).st (stepP Z (.fork t c)).fg (putA (sheetsOf TF) c ((getA (sheetsOf TF) t).getD [])) (slStep stL (.fork t c)) (there ++ [c]) (met ++ [c]) := hrel
                rw [e, putA_new _ hcT2] at z
                have e2 : sheetsOf (TF ++ [(c, (d2, row))]) = sheetsOf TF ++ [(c, row)] := by simp [sheetsOf]
                rw [e2]
                exact z
              exact hnx _ _ ⟨_, m + 6, stepP Z (.fork t c), W2, _, _, _, _, there ++ [c], met ++ [c], col6, p28, p30, p32, _, _, _, _, _, _, _, _, hL34, hpw, hrel', rk, hzl', by omega, hsl10, hmn', hmr', rfl⟩
          | fin t =>
            obtain ⟨d, row, hTt, hft, hrl⟩ := hrow t ok.1
            refine S.ixT (K := K) hw hL22.g.sub (d := .int t) S.atI_1 fun w0 hw0 => ?_
            obtain rfl := dp_int hw0
            walk_at "go"
            refine S.ixT (K := K) hw hL22.g.sub (d := .str "end") S.atI_0 fun w0 hw0 => ?_
            obtain rfl := dp_str hw0
            walk_at "go"
            refine S.iteF rfl ?_
            walk_at "go"
            refine ⟨F22, pg, Z, W1, w, .fin t, n, R, rfl, hL22.g.sub, hL22.pg, pw, okd, harg, hw, fun F23 H23 go => ?_⟩
            obtain ⟨W2, col2, hL23⟩ := hL22.page go
            have hw23 := hw.to go.1.fs
            walk_at "go"
            refine ⟨F23, _, _, .none, rfl, hL23.g.sub, .non, .non, by simp [PyData.depth], by simp [wid], fun F24 H24 g24 => ?_⟩
            have hL24 := hL23.gr0 g24
            have hw24 := hw23.to g24.fs
            walk_at "go"
            refine S.iteF rfl ?_
            walk_at "go"
            refine S.ixT (K := K) hw24 hL24.g.sub (d := .str "end") S.atI_0 fun w0 hw0 => ?_
            obtain rfl := dp_str hw0
            walk_at "go"
            refine S.iteF rfl ?_
            walk_at "go"
            refine S.ixT (K := K) hw24 hL24.g.sub (d := .str "end") S.atI_0 fun w0 hw0 => ?_
            obtain rfl := dp_str hw0
            walk_at "go"
            refine S.iteF rfl ?_
            walk_at "go"
            refine S.ixT (K := K) hw24 hL24.g.sub (d := .str "end") S.atI_0 fun w0 hw0 => ?_
            obtain rfl := dp_str hw0
            walk_at "go"
            refine S.iteT rfl ?_
            walk_at "go"
            refine ⟨fl, rfl, .inl ⟨_, .inl hL24.tp.tabs.tab⟩, ?_⟩
            walk_at "go"
            refine ⟨_, Sum.inl t, _, hL24.tp.tabs.tab, rfl, (by rw [valV_kM, hTt]; rfl), ?_⟩
            rw [dropK_kM]
            have hL25 := hL24.fldrop t
            generalize upd H24 fl _ = H25 at *
            walk_at "go"
            refine S.lcS (S.iSeqL ?_)
            walk_at "go"
            refine ⟨tA1, rfl, ⟨_, SqL.of hL25.tl⟩, fun D hD => ?_⟩
            have fD := sub_free hL25.g.sub hD
            have nDt : tA1 ≠ D := fun z => by rw [← z, hL25.tl] at hD; cases hD
            refine lc_it (walk_list (K := K) (a := tA1) (xs := there.map V.int)) (fun j2 H5 => H5 = upd H25 D (.lst (((there.take j2).filter fun x => !decide (x = t)).map V.int))) rfl ?_ ?_ ?_
            · rintro j2 H5 _ rfl
              exact SqL.of ((upd_ne nDt).trans hL25.tl)
            · rintro j2 y H50 H5 hj2 rfl ⟨rfl, hy⟩
              rw [List.getElem?_map] at hy
              obtain ⟨x, hx⟩ : ∃ x, there[j2]? = some x := by
                cases q : there[j2]? with
                | none => rw [q] at hy; cases hy
                | some p => exact ⟨p, rfl⟩
              rw [hx] at hy
              obtain rfl : V.int x = y := Option.some.inj hy
              rw [List.length_map] at hj2
              have hfil : (there.take (j2 + 1)).filter (fun x => !decide (x = t)) = if x = t then (there.take j2).filter (fun x => !decide (x = t)) else (there.take j2).filter (fun x => !decide (x = t)) ++ [x] := by
                rw [take_succ_get hx, filter_snoc]
                by_cases e : x = t <;> simp [e]
              rw [hfil]
              have hal : ((there.take j2).filter fun x => !decide (x = t)).length ≤ j2 := Nat.le_trans (List.length_filter_le _ _) (by rw [List.length_take]; omega)
              walk_at "gs"
              refine ⟨rfl, ?_⟩
              walk_at "gs"
              refine S.ite (fun e => ?_) (fun e => ?_)
              · have e' : ¬ x = t := by simpa using e
                rw [if_neg e']
                walk_at "gs"
                refine ⟨_, upd_same, by rw [List.length_map]; exact size1000000 (by omega), ?_⟩
                rw [upd_upd, List.map_append]
                rfl
              · have e' : x = t := by simpa using e
                rw [if_pos e']
            rintro H26 rfl
            rw [List.length_map, List.take_length]
            have g26 : Gr [] F24 H25 F24 _ := Gr.newOwn (o := .lst ((there.filter fun x => !decide (x = t)).map V.int)) hL25.g.sub hD
            obtain ⟨col3, hL26⟩ := hL25.tnew g26 hD (l := there.filter fun x => !decide (x = t)) upd_same fD
            generalize upd H25 D _ = H26 at *
            walk_at "go"
            refine S.tyO hL26.hd ?_
            walk_at "go"
            refine S.ixT (K := K) hw24 hL26.g.sub (d := .str "end") S.atI_0 fun w0 hw0 => ?_
            obtain rfl := dp_str hw0
            walk_at "go"
            refine new_tupS hL26.g.sub (fun t2 g33 ht2 => ?_) (by show 2 ≤ sizeLine; decide)
            have hL33 := hL26.gr0 g33
            have hw33 := hw24.to g33.fs
            generalize upd H26 t2 _ = H33 at *
            refine S.inT (K := K) ht2 rfl rfl ?_
            walk_at "go"
            refine S.iteT (by decide) ?_
            walk_at "go"
            refine S.appO hL33.hd (size1000000 (by omega)) ?_
            have hL34 := hL33.dapp (p := .fin t) hw33
            generalize upd H33 dl _ = H34 at *
            have hrel' : LRel (stepP Z (.fin t)).st (stepP Z (.fin t)).fg (sheetsOf (dropA TF t)) stL (there.filter fun x => !decide (x = t)) met := by
              rw [drop_sheets]
              exact hrel
            exact hnx _ _ ⟨_, m + 6, stepP Z (.fin t), W2, _, _, _, _, _, met, col3, sl1, D, mA1, _, _, _, _, _, _, _, _, hL34, hpw, hrel', rk, hzl', by omega, hsl10, hmn', hmr', rfl⟩
      · rintro σ H20 hS
        obtain ⟨F21, m, Z, W1, TF, sxs, dxs, stL, there, met, col, sl1, tA1, mA1, p1, p11, p12, p13, p14, p15, p16, p17, hL, pw, rel, rk, hzl, hm, hsl9, hmn, hmr, rfl⟩ := hS
        obtain ⟨a1, a2, a3, a4, a5, a6⟩ := hL.apart
        walk_at "gs"
        refine ⟨F21, q, pg, fl, sl1, dl, m, Z, W1, TF, sxs, dxs, stL, there, met, n, R, u, rfl, hL.fq, hL.dk, by omega, hL.asked pw rel rk, a1, a2, a3, a4, fun F22 H22 g22 hdk22 => ?_⟩
        have hL22 := hL.deck g22 hdk22
        walk_at "gs"
        refine S.iteF rfl ?_
        walk_at "gs"
        refine ⟨F22, pg, fl, sl1, dl, Z, W1, TF, sxs, dxs, stL, there, met, n, R, u, rfl, hL22.asked pw rel rk, fun F23 H23 g23 => ?_⟩
        walk_at "gs"
        refine S.iteF rfl ?_
        exact S.next ⟨F23, _, _, _, _, _, _, _, _, _, _, _, _, _, _, _, _, _, g.trans (hL22.g.trans g23), rfl⟩
    · rintro σ H' ⟨F', o1, o2, o3, o4, o5, o6, o7, o8, o9, o10, o11, o12, o13, o14, o15, o16, o17, g, rfl⟩
      walk_at "gs"
      exact k H'

structure DefAt (K : PySem.W.Frag) (mg : Str → Option Value) (x q : Str) (s : Stmt) (ps : List Str) : Prop where
  ex : ∃ (f : Addr) (fd : FuncData), Fun K x q s f fd ∧ mg x = some (.ref f) ∧ PySem.W.keepIn K (.ref f) = true ∧ Binds K fd ps []
structure KDefAt (K : PySem.W.Frag) (mg : Str → Option Value) (x q : Str) (s : Stmt) (ps ks : List Str) (gg : List Value → List Value → List Value) (gV : List V → List V → List V) : Prop where
  ex : ∃ (f : Addr) (fd : FuncData), Fun K x q s f fd ∧ mg x = some (.ref f) ∧ PySem.W.keepIn K (.ref f) = true ∧ KBinds K fd ps ks gg gV
structure MethAt (K : PySem.W.Frag) (C : Addr) (x q : Str) (s : Stmt) (ps : List Str) : Prop where
  ex : ∃ (f : Addr) (fd : FuncData), Fun K x q s f fd ∧ Meth K C x f ∧ Binds K fd ps []
structure InitAt (K : PySem.W.Frag) (mg : Str → Option Value) (C : Addr) (x q : Str) (s : Stmt) (ps : List Str) : Prop where
  ex : ∃ (f : Addr) (fd : FuncData), Fun K "__init__" q s f fd ∧ Mk K C f ∧ mg x = some (.ref C) ∧ Binds K fd ps []
theorem at_is_from {K : PySem.W.Frag} {h : Heap} {mg : Str → Option Value} {f : Addr} {od an : Option Addr} {sl : Array (Option Value)} {oc kV dc pm cd ct : Value} (X : K.In h) (G : h.Ns mainGlobals mg) (a : PySem.W.nsIn K mainGlobals "is_from" = some (some (.ref f))) (l : K.lookup f = some ⟨oc, od, .func (PySem.W.fnOf "is_from" "is_from" (defArgs s_is_from) (defBody s_is_from) (defScope s_is_from) .none kV dc pm an cd ct), sl⟩) (c : PySem.W.codeIn K cd "is_from" = true) (k : PySem.W.keepIn K (.ref f) = true) : DefAt K mg "is_from" "is_from" s_is_from P_is_from :=
  ⟨f, _, fun_mk l c k, PySem.W.mg_of X G a, k, (fun_mk (st := s_is_from) l c k).binds (ps := P_is_from) fun _ _ _ _ _ _ us hl => match us, hl with | [_, _, _], _ => rfl⟩
theorem at_is_tuple {K : PySem.W.Frag} {h : Heap} {mg : Str → Option Value} {f : Addr} {od an : Option Addr} {sl : Array (Option Value)} {oc kV dc pm cd ct : Value} (X : K.In h) (G : h.Ns mainGlobals mg) (a : PySem.W.nsIn K mainGlobals "is_tuple" = some (some (.ref f))) (l : K.lookup f = some ⟨oc, od, .func (PySem.W.fnOf "is_tuple" "is_tuple" (defArgs s_is_tuple) (defBody s_is_tuple) (defScope s_is_tuple) .none kV dc pm an cd ct), sl⟩) (c : PySem.W.codeIn K cd "is_tuple" = true) (k : PySem.W.keepIn K (.ref f) = true) : DefAt K mg "is_tuple" "is_tuple" s_is_tuple P_is_tuple :=
  ⟨f, _, fun_mk l c k, PySem.W.mg_of X G a, k, (fun_mk (st := s_is_tuple) l c k).binds (ps := P_is_tuple) fun _ _ _ _ _ _ us hl => match us, hl with | [_, _, _], _ => rfl⟩
theorem at_Bodies_is_there {K : PySem.W.Frag} {h : Heap} {mg : Str → Option Value} {f : Addr} {od an : Option Addr} {sl : Array (Option Value)} {oc kV dc pm cd ct : Value} {C : Addr} (X : K.In h) (G : h.Ns mainGlobals mg) (a : PySem.W.findIn K (.ref C) "is_there" = some (some (.ref f))) (i : PySem.W.isFn K (.ref f) = true) (l : K.lookup f = some ⟨oc, od, .func (PySem.W.fnOf "is_there" "Bodies.is_there" (defArgs s_Bodies_is_there) (defBody s_Bodies_is_there) (defScope s_Bodies_is_there) .none kV dc pm an cd ct), sl⟩) (c : PySem.W.codeIn K cd "Bodies.is_there" = true) (k : PySem.W.keepIn K (.ref f) = true) : MethAt K C "is_there" "Bodies.is_there" s_Bodies_is_there P_Bodies_is_there :=
  ⟨f, _, fun_mk l c k, ⟨a, i, k⟩, (fun_mk (st := s_Bodies_is_there) l c k).binds (ps := P_Bodies_is_there) fun _ _ _ _ _ _ us hl => match us, hl with | [_, _], _ => rfl⟩
theorem at_Bodies_can_come {K : PySem.W.Frag} {h : Heap} {mg : Str → Option Value} {f : Addr} {od an : Option Addr} {sl : Array (Option Value)} {oc kV dc pm cd ct : Value} {C : Addr} (X : K.In h) (G : h.Ns mainGlobals mg) (a : PySem.W.findIn K (.ref C) "can_come" = some (some (.ref f))) (i : PySem.W.isFn K (.ref f) = true) (l : K.lookup f = some ⟨oc, od, .func (PySem.W.fnOf "can_come" "Bodies.can_come" (defArgs s_Bodies_can_come) (defBody s_Bodies_can_come) (defScope s_Bodies_can_come) .none kV dc pm an cd ct), sl⟩) (c : PySem.W.codeIn K cd "Bodies.can_come" = true) (k : PySem.W.keepIn K (.ref f) = true) : MethAt K C "can_come" "Bodies.can_come" s_Bodies_can_come P_Bodies_can_come :=
  ⟨f, _, fun_mk l c k, ⟨a, i, k⟩, (fun_mk (st := s_Bodies_can_come) l c k).binds (ps := P_Bodies_can_come) fun _ _ _ _ _ _ us hl => match us, hl with | [_, _], _ => rfl⟩
theorem at_Bodies_body {K : PySem.W.Frag} {h : Heap} {mg : Str → Option Value} {f : Addr} {od an : Option Addr} {sl : Array (Option Value)} {oc kV dc pm cd ct : Value} {C : Addr} (X : K.In h) (G : h.Ns mainGlobals mg) (a : PySem.W.findIn K (.ref C) "body" = some (some (.ref f))) (i : PySem.W.isFn K (.ref f) = true) (l : K.lookup f = some ⟨oc, od, .func (PySem.W.fnOf "body" "Bodies.body" (defArgs s_Bodies_body) (defBody s_Bodies_body) (defScope s_Bodies_body) .none kV dc pm an cd ct), sl⟩) (c : PySem.W.codeIn K cd "Bodies.body" = true) (k : PySem.W.keepIn K (.ref f) = true) : MethAt K C "body" "Bodies.body" s_Bodies_body P_Bodies_body :=
  ⟨f, _, fun_mk l c k, ⟨a, i, k⟩, (fun_mk (st := s_Bodies_body) l c k).binds (ps := P_Bodies_body) fun _ _ _ _ _ _ us hl => match us, hl with | [_, _, _], _ => rfl⟩
theorem at_Bodies_with_body {K : PySem.W.Frag} {h : Heap} {mg : Str → Option Value} {f : Addr} {od an : Option Addr} {sl : Array (Option Value)} {oc kV dc pm cd ct : Value} {C : Addr} (X : K.In h) (G : h.Ns mainGlobals mg) (a : PySem.W.findIn K (.ref C) "with_body" = some (some (.ref f))) (i : PySem.W.isFn K (.ref f) = true) (l : K.lookup f = some ⟨oc, od, .func (PySem.W.fnOf "with_body" "Bodies.with_body" (defArgs s_Bodies_with_body) (defBody s_Bodies_with_body) (defScope s_Bodies_with_body) .none kV dc pm an cd ct), sl⟩) (c : PySem.W.codeIn K cd "Bodies.with_body" = true) (k : PySem.W.keepIn K (.ref f) = true) : MethAt K C "with_body" "Bodies.with_body" s_Bodies_with_body P_Bodies_with_body :=
  ⟨f, _, fun_mk l c k, ⟨a, i, k⟩, (fun_mk (st := s_Bodies_with_body) l c k).binds (ps := P_Bodies_with_body) fun _ _ _ _ _ _ us hl => match us, hl with | [_, _, _], _ => rfl⟩
theorem at_Bodies_load {K : PySem.W.Frag} {h : Heap} {mg : Str → Option Value} {f : Addr} {od an : Option Addr} {sl : Array (Option Value)} {oc kV dc pm cd ct : Value} {C : Addr} (X : K.In h) (G : h.Ns mainGlobals mg) (a : PySem.W.findIn K (.ref C) "load" = some (some (.ref f))) (i : PySem.W.isFn K (.ref f) = true) (l : K.lookup f = some ⟨oc, od, .func (PySem.W.fnOf "load" "Bodies.load" (defArgs s_Bodies_load) (defBody s_Bodies_load) (defScope s_Bodies_load) .none kV dc pm an cd ct), sl⟩) (c : PySem.W.codeIn K cd "Bodies.load" = true) (k : PySem.W.keepIn K (.ref f) = true) : MethAt K C "load" "Bodies.load" s_Bodies_load P_Bodies_load :=
  ⟨f, _, fun_mk l c k, ⟨a, i, k⟩, (fun_mk (st := s_Bodies_load) l c k).binds (ps := P_Bodies_load) fun _ _ _ _ _ _ us hl => match us, hl with | [_, _, _], _ => rfl⟩
theorem at_Bodies_store {K : PySem.W.Frag} {h : Heap} {mg : Str → Option Value} {f : Addr} {od an : Option Addr} {sl : Array (Option Value)} {oc kV dc pm cd ct : Value} {C : Addr} (X : K.In h) (G : h.Ns mainGlobals mg) (a : PySem.W.findIn K (.ref C) "store" = some (some (.ref f))) (i : PySem.W.isFn K (.ref f) = true) (l : K.lookup f = some ⟨oc, od, .func (PySem.W.fnOf "store" "Bodies.store" (defArgs s_Bodies_store) (defBody s_Bodies_store) (defScope s_Bodies_store) .none kV dc pm an cd ct), sl⟩) (c : PySem.W.codeIn K cd "Bodies.store" = true) (k : PySem.W.keepIn K (.ref f) = true) : MethAt K C "store" "Bodies.store" s_Bodies_store P_Bodies_store :=
  ⟨f, _, fun_mk l c k, ⟨a, i, k⟩, (fun_mk (st := s_Bodies_store) l c k).binds (ps := P_Bodies_store) fun _ _ _ _ _ _ us hl => match us, hl with | [_, _, _], _ => rfl⟩
theorem at_Bodies_fork {K : PySem.W.Frag} {h : Heap} {mg : Str → Option Value} {f : Addr} {od an : Option Addr} {sl : Array (Option Value)} {oc kV dc pm cd ct : Value} {C : Addr} (X : K.In h) (G : h.Ns mainGlobals mg) (a : PySem.W.findIn K (.ref C) "fork" = some (some (.ref f))) (i : PySem.W.isFn K (.ref f) = true) (l : K.lookup f = some ⟨oc, od, .func (PySem.W.fnOf "fork" "Bodies.fork" (defArgs s_Bodies_fork) (defBody s_Bodies_fork) (defScope s_Bodies_fork) .none kV dc pm an cd ct), sl⟩) (c : PySem.W.codeIn K cd "Bodies.fork" = true) (k : PySem.W.keepIn K (.ref f) = true) : MethAt K C "fork" "Bodies.fork" s_Bodies_fork P_Bodies_fork :=
  ⟨f, _, fun_mk l c k, ⟨a, i, k⟩, (fun_mk (st := s_Bodies_fork) l c k).binds (ps := P_Bodies_fork) fun _ _ _ _ _ _ us hl => match us, hl with | [_, _, _], _ => rfl⟩
theorem at_Bodies_end {K : PySem.W.Frag} {h : Heap} {mg : Str → Option Value} {f : Addr} {od an : Option Addr} {sl : Array (Option Value)} {oc kV dc pm cd ct : Value} {C : Addr} (X : K.In h) (G : h.Ns mainGlobals mg) (a : PySem.W.findIn K (.ref C) "end" = some (some (.ref f))) (i : PySem.W.isFn K (.ref f) = true) (l : K.lookup f = some ⟨oc, od, .func (PySem.W.fnOf "end" "Bodies.end" (defArgs s_Bodies_end) (defBody s_Bodies_end) (defScope s_Bodies_end) .none kV dc pm an cd ct), sl⟩) (c : PySem.W.codeIn K cd "Bodies.end" = true) (k : PySem.W.keepIn K (.ref f) = true) : MethAt K C "end" "Bodies.end" s_Bodies_end P_Bodies_end :=
  ⟨f, _, fun_mk l c k, ⟨a, i, k⟩, (fun_mk (st := s_Bodies_end) l c k).binds (ps := P_Bodies_end) fun _ _ _ _ _ _ us hl => match us, hl with | [_, _], _ => rfl⟩
theorem at_Bodies_done {K : PySem.W.Frag} {h : Heap} {mg : Str → Option Value} {f : Addr} {od an : Option Addr} {sl : Array (Option Value)} {oc kV dc pm cd ct : Value} {C : Addr} (X : K.In h) (G : h.Ns mainGlobals mg) (a : PySem.W.findIn K (.ref C) "done" = some (some (.ref f))) (i : PySem.W.isFn K (.ref f) = true) (l : K.lookup f = some ⟨oc, od, .func (PySem.W.fnOf "done" "Bodies.done" (defArgs s_Bodies_done) (defBody s_Bodies_done) (defScope s_Bodies_done) .none kV dc pm an cd ct), sl⟩) (c : PySem.W.codeIn K cd "Bodies.done" = true) (k : PySem.W.keepIn K (.ref f) = true) : MethAt K C "done" "Bodies.done" s_Bodies_done P_Bodies_done :=
  ⟨f, _, fun_mk l c k, ⟨a, i, k⟩, (fun_mk (st := s_Bodies_done) l c k).binds (ps := P_Bodies_done) fun _ _ _ _ _ _ us hl => match us, hl with | [_, _], _ => rfl⟩
theorem at_Bodies___init__ {K : PySem.W.Frag} {h : Heap} {mg : Str → Option Value} {f : Addr} {od an : Option Addr} {sl : Array (Option Value)} {oc kV dc pm cd ct : Value} {C : Addr} (X : K.In h) (G : h.Ns mainGlobals mg) (aC : PySem.W.nsIn K mainGlobals "Bodies" = some (some (.ref C))) (a : PySem.W.findIn K (.ref C) "__init__" = some (some (.ref f))) (i : PySem.W.isFn K (.ref f) = true) (l : K.lookup f = some ⟨oc, od, .func (PySem.W.fnOf "__init__" "Bodies.__init__" (defArgs s_Bodies___init__) (defBody s_Bodies___init__) (defScope s_Bodies___init__) .none kV dc pm an cd ct), sl⟩) (c : PySem.W.codeIn K cd "Bodies.__init__" = true) (k : PySem.W.keepIn K (.ref f) = true) (mk : PySem.W.makesIn K C = true) (kc : PySem.W.keepIn K (.ref C) = true) : InitAt K mg C "Bodies" "Bodies.__init__" s_Bodies___init__ P_Bodies___init__ :=
  ⟨f, _, fun_mk l c k, ⟨mk, a, i, kc⟩, PySem.W.mg_of X G aC, (fun_mk (st := s_Bodies___init__) l c k).binds (ps := P_Bodies___init__) fun _ _ _ _ _ _ us hl => match us, hl with | [_], _ => rfl⟩
theorem at_is_deed {K : PySem.W.Frag} {h : Heap} {mg : Str → Option Value} {f : Addr} {od an : Option Addr} {sl : Array (Option Value)} {oc kV dc pm cd ct : Value} (X : K.In h) (G : h.Ns mainGlobals mg) (a : PySem.W.nsIn K mainGlobals "is_deed" = some (some (.ref f))) (l : K.lookup f = some ⟨oc, od, .func (PySem.W.fnOf "is_deed" "is_deed" (defArgs s_is_deed) (defBody s_is_deed) (defScope s_is_deed) .none kV dc pm an cd ct), sl⟩) (c : PySem.W.codeIn K cd "is_deed" = true) (k : PySem.W.keepIn K (.ref f) = true) : DefAt K mg "is_deed" "is_deed" s_is_deed P_is_deed :=
  ⟨f, _, fun_mk l c k, PySem.W.mg_of X G a, k, (fun_mk (st := s_is_deed) l c k).binds (ps := P_is_deed) fun _ _ _ _ _ _ us hl => match us, hl with | [_, _], _ => rfl⟩
theorem at_gone_through {K : PySem.W.Frag} {h : Heap} {mg : Str → Option Value} {f : Addr} {od an : Option Addr} {sl : Array (Option Value)} {oc kV dc pm cd ct : Value} (X : K.In h) (G : h.Ns mainGlobals mg) (a : PySem.W.nsIn K mainGlobals "gone_through" = some (some (.ref f))) (l : K.lookup f = some ⟨oc, od, .func (PySem.W.fnOf "gone_through" "gone_through" (defArgs s_gone_through) (defBody s_gone_through) (defScope s_gone_through) .none kV dc pm an cd ct), sl⟩) (c : PySem.W.codeIn K cd "gone_through" = true) (k : PySem.W.keepIn K (.ref f) = true) : DefAt K mg "gone_through" "gone_through" s_gone_through P_gone_through :=
  ⟨f, _, fun_mk l c k, PySem.W.mg_of X G a, k, (fun_mk (st := s_gone_through) l c k).binds (ps := P_gone_through) fun _ _ _ _ _ _ us hl => match us, hl with | [_], _ => rfl⟩
theorem at_need_frames {K : PySem.W.Frag} {h : Heap} {mg : Str → Option Value} {f : Addr} {od an : Option Addr} {sl : Array (Option Value)} {oc kV dc pm cd ct : Value} (X : K.In h) (G : h.Ns mainGlobals mg) (a : PySem.W.nsIn K mainGlobals "need_frames" = some (some (.ref f))) (l : K.lookup f = some ⟨oc, od, .func (PySem.W.fnOf "need_frames" "need_frames" (defArgs s_need_frames) (defBody s_need_frames) (defScope s_need_frames) .none kV dc pm an cd ct), sl⟩) (c : PySem.W.codeIn K cd "need_frames" = true) (k : PySem.W.keepIn K (.ref f) = true) : DefAt K mg "need_frames" "need_frames" s_need_frames P_need_frames :=
  ⟨f, _, fun_mk l c k, PySem.W.mg_of X G a, k, (fun_mk (st := s_need_frames) l c k).binds (ps := P_need_frames) fun _ _ _ _ _ _ us hl => match us, hl with | [_], _ => rfl⟩
theorem at_are_choices {K : PySem.W.Frag} {h : Heap} {mg : Str → Option Value} {f : Addr} {od an : Option Addr} {sl : Array (Option Value)} {oc kV dc pm cd ct : Value} (X : K.In h) (G : h.Ns mainGlobals mg) (a : PySem.W.nsIn K mainGlobals "are_choices" = some (some (.ref f))) (l : K.lookup f = some ⟨oc, od, .func (PySem.W.fnOf "are_choices" "are_choices" (defArgs s_are_choices) (defBody s_are_choices) (defScope s_are_choices) .none kV dc pm an cd ct), sl⟩) (c : PySem.W.codeIn K cd "are_choices" = true) (k : PySem.W.keepIn K (.ref f) = true) : DefAt K mg "are_choices" "are_choices" s_are_choices P_are_choices :=
  ⟨f, _, fun_mk l c k, PySem.W.mg_of X G a, k, (fun_mk (st := s_are_choices) l c k).binds (ps := P_are_choices) fun _ _ _ _ _ _ us hl => match us, hl with | [_], _ => rfl⟩
theorem at_is_rule {K : PySem.W.Frag} {h : Heap} {mg : Str → Option Value} {f : Addr} {od an : Option Addr} {sl : Array (Option Value)} {oc kV dc pm cd ct : Value} (X : K.In h) (G : h.Ns mainGlobals mg) (a : PySem.W.nsIn K mainGlobals "is_rule" = some (some (.ref f))) (l : K.lookup f = some ⟨oc, od, .func (PySem.W.fnOf "is_rule" "is_rule" (defArgs s_is_rule) (defBody s_is_rule) (defScope s_is_rule) .none kV dc pm an cd ct), sl⟩) (c : PySem.W.codeIn K cd "is_rule" = true) (k : PySem.W.keepIn K (.ref f) = true) : DefAt K mg "is_rule" "is_rule" s_is_rule P_is_rule :=
  ⟨f, _, fun_mk l c k, PySem.W.mg_of X G a, k, (fun_mk (st := s_is_rule) l c k).binds (ps := P_is_rule) fun _ _ _ _ _ _ us hl => match us, hl with | [_], _ => rfl⟩
theorem at_need_rule {K : PySem.W.Frag} {h : Heap} {mg : Str → Option Value} {f : Addr} {od an : Option Addr} {sl : Array (Option Value)} {oc kV dc pm cd ct : Value} (X : K.In h) (G : h.Ns mainGlobals mg) (a : PySem.W.nsIn K mainGlobals "need_rule" = some (some (.ref f))) (l : K.lookup f = some ⟨oc, od, .func (PySem.W.fnOf "need_rule" "need_rule" (defArgs s_need_rule) (defBody s_need_rule) (defScope s_need_rule) .none kV dc pm an cd ct), sl⟩) (c : PySem.W.codeIn K cd "need_rule" = true) (k : PySem.W.keepIn K (.ref f) = true) : DefAt K mg "need_rule" "need_rule" s_need_rule P_need_rule :=
  ⟨f, _, fun_mk l c k, PySem.W.mg_of X G a, k, (fun_mk (st := s_need_rule) l c k).binds (ps := P_need_rule) fun _ _ _ _ _ _ us hl => match us, hl with | [_], _ => rfl⟩
theorem at_Frames___init__ {K : PySem.W.Frag} {h : Heap} {mg : Str → Option Value} {f : Addr} {od an : Option Addr} {sl : Array (Option Value)} {oc kV dc pm cd ct : Value} {C : Addr} (X : K.In h) (G : h.Ns mainGlobals mg) (aC : PySem.W.nsIn K mainGlobals "Frames" = some (some (.ref C))) (a : PySem.W.findIn K (.ref C) "__init__" = some (some (.ref f))) (i : PySem.W.isFn K (.ref f) = true) (l : K.lookup f = some ⟨oc, od, .func (PySem.W.fnOf "__init__" "Frames.__init__" (defArgs s_Frames___init__) (defBody s_Frames___init__) (defScope s_Frames___init__) .none kV dc pm an cd ct), sl⟩) (c : PySem.W.codeIn K cd "Frames.__init__" = true) (k : PySem.W.keepIn K (.ref f) = true) (mk : PySem.W.makesIn K C = true) (kc : PySem.W.keepIn K (.ref C) = true) : InitAt K mg C "Frames" "Frames.__init__" s_Frames___init__ P_Frames___init__ :=
  ⟨f, _, fun_mk l c k, ⟨mk, a, i, kc⟩, PySem.W.mg_of X G aC, (fun_mk (st := s_Frames___init__) l c k).binds (ps := P_Frames___init__) fun _ _ _ _ _ _ us hl => match us, hl with | [_, _, _], _ => rfl⟩
theorem at_Frames_inside {K : PySem.W.Frag} {h : Heap} {mg : Str → Option Value} {f : Addr} {od an : Option Addr} {sl : Array (Option Value)} {oc kV dc pm cd ct : Value} {C : Addr} (X : K.In h) (G : h.Ns mainGlobals mg) (a : PySem.W.findIn K (.ref C) "inside" = some (some (.ref f))) (i : PySem.W.isFn K (.ref f) = true) (l : K.lookup f = some ⟨oc, od, .func (PySem.W.fnOf "inside" "Frames.inside" (defArgs s_Frames_inside) (defBody s_Frames_inside) (defScope s_Frames_inside) .none kV dc pm an cd ct), sl⟩) (c : PySem.W.codeIn K cd "Frames.inside" = true) (k : PySem.W.keepIn K (.ref f) = true) : MethAt K C "inside" "Frames.inside" s_Frames_inside P_Frames_inside :=
  ⟨f, _, fun_mk l c k, ⟨a, i, k⟩, (fun_mk (st := s_Frames_inside) l c k).binds (ps := P_Frames_inside) fun _ _ _ _ _ _ us hl => match us, hl with | [_], _ => rfl⟩
theorem at_Frames_chosen {K : PySem.W.Frag} {h : Heap} {mg : Str → Option Value} {f : Addr} {od an : Option Addr} {sl : Array (Option Value)} {oc kV dc pm cd ct : Value} {C : Addr} (X : K.In h) (G : h.Ns mainGlobals mg) (a : PySem.W.findIn K (.ref C) "chosen" = some (some (.ref f))) (i : PySem.W.isFn K (.ref f) = true) (l : K.lookup f = some ⟨oc, od, .func (PySem.W.fnOf "chosen" "Frames.chosen" (defArgs s_Frames_chosen) (defBody s_Frames_chosen) (defScope s_Frames_chosen) .none kV dc pm an cd ct), sl⟩) (c : PySem.W.codeIn K cd "Frames.chosen" = true) (k : PySem.W.keepIn K (.ref f) = true) : MethAt K C "chosen" "Frames.chosen" s_Frames_chosen P_Frames_chosen :=
  ⟨f, _, fun_mk l c k, ⟨a, i, k⟩, (fun_mk (st := s_Frames_chosen) l c k).binds (ps := P_Frames_chosen) fun _ _ _ _ _ _ us hl => match us, hl with | [_], _ => rfl⟩
theorem at_Frames_put_out {K : PySem.W.Frag} {h : Heap} {mg : Str → Option Value} {f : Addr} {od an : Option Addr} {sl : Array (Option Value)} {oc kV dc pm cd ct : Value} {C : Addr} (X : K.In h) (G : h.Ns mainGlobals mg) (a : PySem.W.findIn K (.ref C) "put_out" = some (some (.ref f))) (i : PySem.W.isFn K (.ref f) = true) (l : K.lookup f = some ⟨oc, od, .func (PySem.W.fnOf "put_out" "Frames.put_out" (defArgs s_Frames_put_out) (defBody s_Frames_put_out) (defScope s_Frames_put_out) .none kV dc pm an cd ct), sl⟩) (c : PySem.W.codeIn K cd "Frames.put_out" = true) (k : PySem.W.keepIn K (.ref f) = true) : MethAt K C "put_out" "Frames.put_out" s_Frames_put_out P_Frames_put_out :=
  ⟨f, _, fun_mk l c k, ⟨a, i, k⟩, (fun_mk (st := s_Frames_put_out) l c k).binds (ps := P_Frames_put_out) fun _ _ _ _ _ _ us hl => match us, hl with | [_], _ => rfl⟩
theorem at_Frames_look {K : PySem.W.Frag} {h : Heap} {mg : Str → Option Value} {f : Addr} {od an : Option Addr} {sl : Array (Option Value)} {oc kV dc pm cd ct : Value} {C : Addr} (X : K.In h) (G : h.Ns mainGlobals mg) (a : PySem.W.findIn K (.ref C) "look" = some (some (.ref f))) (i : PySem.W.isFn K (.ref f) = true) (l : K.lookup f = some ⟨oc, od, .func (PySem.W.fnOf "look" "Frames.look" (defArgs s_Frames_look) (defBody s_Frames_look) (defScope s_Frames_look) .none kV dc pm an cd ct), sl⟩) (c : PySem.W.codeIn K cd "Frames.look" = true) (k : PySem.W.keepIn K (.ref f) = true) : MethAt K C "look" "Frames.look" s_Frames_look P_Frames_look :=
  ⟨f, _, fun_mk l c k, ⟨a, i, k⟩, (fun_mk (st := s_Frames_look) l c k).binds (ps := P_Frames_look) fun _ _ _ _ _ _ us hl => match us, hl with | [_, _], _ => rfl⟩
theorem at_Frames_leave {K : PySem.W.Frag} {h : Heap} {mg : Str → Option Value} {f : Addr} {od an : Option Addr} {sl : Array (Option Value)} {oc kV dc pm cd ct : Value} {C : Addr} (X : K.In h) (G : h.Ns mainGlobals mg) (a : PySem.W.findIn K (.ref C) "leave" = some (some (.ref f))) (i : PySem.W.isFn K (.ref f) = true) (l : K.lookup f = some ⟨oc, od, .func (PySem.W.fnOf "leave" "Frames.leave" (defArgs s_Frames_leave) (defBody s_Frames_leave) (defScope s_Frames_leave) .none kV dc pm an cd ct), sl⟩) (c : PySem.W.codeIn K cd "Frames.leave" = true) (k : PySem.W.keepIn K (.ref f) = true) : MethAt K C "leave" "Frames.leave" s_Frames_leave P_Frames_leave :=
  ⟨f, _, fun_mk l c k, ⟨a, i, k⟩, (fun_mk (st := s_Frames_leave) l c k).binds (ps := P_Frames_leave) fun _ _ _ _ _ _ us hl => match us, hl with | [_, _], _ => rfl⟩
theorem at_Frames_come {K : PySem.W.Frag} {h : Heap} {mg : Str → Option Value} {f : Addr} {od an : Option Addr} {sl : Array (Option Value)} {oc kV dc pm cd ct : Value} {C : Addr} (X : K.In h) (G : h.Ns mainGlobals mg) (a : PySem.W.findIn K (.ref C) "come" = some (some (.ref f))) (i : PySem.W.isFn K (.ref f) = true) (l : K.lookup f = some ⟨oc, od, .func (PySem.W.fnOf "come" "Frames.come" (defArgs s_Frames_come) (defBody s_Frames_come) (defScope s_Frames_come) .none kV dc pm an cd ct), sl⟩) (c : PySem.W.codeIn K cd "Frames.come" = true) (k : PySem.W.keepIn K (.ref f) = true) : MethAt K C "come" "Frames.come" s_Frames_come P_Frames_come :=
  ⟨f, _, fun_mk l c k, ⟨a, i, k⟩, (fun_mk (st := s_Frames_come) l c k).binds (ps := P_Frames_come) fun _ _ _ _ _ _ us hl => match us, hl with | [_, _], _ => rfl⟩
theorem at_misses {K : PySem.W.Frag} {h : Heap} {mg : Str → Option Value} {f : Addr} {od an : Option Addr} {sl : Array (Option Value)} {oc kV dc pm cd ct : Value} (X : K.In h) (G : h.Ns mainGlobals mg) (a : PySem.W.nsIn K mainGlobals "misses" = some (some (.ref f))) (l : K.lookup f = some ⟨oc, od, .func (PySem.W.fnOf "misses" "misses" (defArgs s_misses) (defBody s_misses) (defScope s_misses) .none kV dc pm an cd ct), sl⟩) (c : PySem.W.codeIn K cd "misses" = true) (k : PySem.W.keepIn K (.ref f) = true) : DefAt K mg "misses" "misses" s_misses P_misses :=
  ⟨f, _, fun_mk l c k, PySem.W.mg_of X G a, k, (fun_mk (st := s_misses) l c k).binds (ps := P_misses) fun _ _ _ _ _ _ us hl => match us, hl with | [_, _, _], _ => rfl⟩
theorem at_is_integer {K : PySem.W.Frag} {h : Heap} {mg : Str → Option Value} {f : Addr} {od an : Option Addr} {sl : Array (Option Value)} {oc kV dc pm cd ct : Value} (X : K.In h) (G : h.Ns mainGlobals mg) (a : PySem.W.nsIn K mainGlobals "is_integer" = some (some (.ref f))) (l : K.lookup f = some ⟨oc, od, .func (PySem.W.fnOf "is_integer" "is_integer" (defArgs s_is_integer) (defBody s_is_integer) (defScope s_is_integer) .none kV dc pm an cd ct), sl⟩) (c : PySem.W.codeIn K cd "is_integer" = true) (k : PySem.W.keepIn K (.ref f) = true) : DefAt K mg "is_integer" "is_integer" s_is_integer P_is_integer :=
  ⟨f, _, fun_mk l c k, PySem.W.mg_of X G a, k, (fun_mk (st := s_is_integer) l c k).binds (ps := P_is_integer) fun _ _ _ _ _ _ us hl => match us, hl with | [_, _, _], _ => rfl⟩
theorem at_owners {K : PySem.W.Frag} {h : Heap} {mg : Str → Option Value} {f : Addr} {od an : Option Addr} {sl : Array (Option Value)} {oc kV dc pm cd ct : Value} (X : K.In h) (G : h.Ns mainGlobals mg) (a : PySem.W.nsIn K mainGlobals "owners" = some (some (.ref f))) (l : K.lookup f = some ⟨oc, od, .func (PySem.W.fnOf "owners" "owners" (defArgs s_owners) (defBody s_owners) (defScope s_owners) .none kV dc pm an cd ct), sl⟩) (c : PySem.W.codeIn K cd "owners" = true) (k : PySem.W.keepIn K (.ref f) = true) : DefAt K mg "owners" "owners" s_owners P_owners :=
  ⟨f, _, fun_mk l c k, PySem.W.mg_of X G a, k, (fun_mk (st := s_owners) l c k).binds (ps := P_owners) fun _ _ _ _ _ _ us hl => match us, hl with | [_, _], _ => rfl⟩
theorem at_is_figure {K : PySem.W.Frag} {h : Heap} {mg : Str → Option Value} {f : Addr} {od an : Option Addr} {sl : Array (Option Value)} {oc kV dc pm cd ct : Value} (X : K.In h) (G : h.Ns mainGlobals mg) (a : PySem.W.nsIn K mainGlobals "is_figure" = some (some (.ref f))) (l : K.lookup f = some ⟨oc, od, .func (PySem.W.fnOf "is_figure" "is_figure" (defArgs s_is_figure) (defBody s_is_figure) (defScope s_is_figure) .none kV dc pm an cd ct), sl⟩) (c : PySem.W.codeIn K cd "is_figure" = true) (k : PySem.W.keepIn K (.ref f) = true) : DefAt K mg "is_figure" "is_figure" s_is_figure P_is_figure :=
  ⟨f, _, fun_mk l c k, PySem.W.mg_of X G a, k, (fun_mk (st := s_is_figure) l c k).binds (ps := P_is_figure) fun _ _ _ _ _ _ us hl => match us, hl with | [_], _ => rfl⟩
theorem at_is_address {K : PySem.W.Frag} {h : Heap} {mg : Str → Option Value} {f : Addr} {od an : Option Addr} {sl : Array (Option Value)} {oc kV dc pm cd ct : Value} (X : K.In h) (G : h.Ns mainGlobals mg) (a : PySem.W.nsIn K mainGlobals "is_address" = some (some (.ref f))) (l : K.lookup f = some ⟨oc, od, .func (PySem.W.fnOf "is_address" "is_address" (defArgs s_is_address) (defBody s_is_address) (defScope s_is_address) .none kV dc pm an cd ct), sl⟩) (c : PySem.W.codeIn K cd "is_address" = true) (k : PySem.W.keepIn K (.ref f) = true) : DefAt K mg "is_address" "is_address" s_is_address P_is_address :=
  ⟨f, _, fun_mk l c k, PySem.W.mg_of X G a, k, (fun_mk (st := s_is_address) l c k).binds (ps := P_is_address) fun _ _ _ _ _ _ us hl => match us, hl with | [_], _ => rfl⟩
theorem at_Pages_need_task {K : PySem.W.Frag} {h : Heap} {mg : Str → Option Value} {f : Addr} {od an : Option Addr} {sl : Array (Option Value)} {oc kV dc pm cd ct : Value} {C : Addr} (X : K.In h) (G : h.Ns mainGlobals mg) (a : PySem.W.findIn K (.ref C) "need_task" = some (some (.ref f))) (i : PySem.W.isFn K (.ref f) = true) (l : K.lookup f = some ⟨oc, od, .func (PySem.W.fnOf "need_task" "Pages.need_task" (defArgs s_Pages_need_task) (defBody s_Pages_need_task) (defScope s_Pages_need_task) .none kV dc pm an cd ct), sl⟩) (c : PySem.W.codeIn K cd "Pages.need_task" = true) (k : PySem.W.keepIn K (.ref f) = true) : MethAt K C "need_task" "Pages.need_task" s_Pages_need_task P_Pages_need_task :=
  ⟨f, _, fun_mk l c k, ⟨a, i, k⟩, (fun_mk (st := s_Pages_need_task) l c k).binds (ps := P_Pages_need_task) fun _ _ _ _ _ _ us hl => match us, hl with | [_, _], _ => rfl⟩
theorem at_Pages_need_cell {K : PySem.W.Frag} {h : Heap} {mg : Str → Option Value} {f : Addr} {od an : Option Addr} {sl : Array (Option Value)} {oc kV dc pm cd ct : Value} {C : Addr} (X : K.In h) (G : h.Ns mainGlobals mg) (a : PySem.W.findIn K (.ref C) "need_cell" = some (some (.ref f))) (i : PySem.W.isFn K (.ref f) = true) (l : K.lookup f = some ⟨oc, od, .func (PySem.W.fnOf "need_cell" "Pages.need_cell" (defArgs s_Pages_need_cell) (defBody s_Pages_need_cell) (defScope s_Pages_need_cell) .none kV dc pm an cd ct), sl⟩) (c : PySem.W.codeIn K cd "Pages.need_cell" = true) (k : PySem.W.keepIn K (.ref f) = true) : MethAt K C "need_cell" "Pages.need_cell" s_Pages_need_cell P_Pages_need_cell :=
  ⟨f, _, fun_mk l c k, ⟨a, i, k⟩, (fun_mk (st := s_Pages_need_cell) l c k).binds (ps := P_Pages_need_cell) fun _ _ _ _ _ _ us hl => match us, hl with | [_, _, _], _ => rfl⟩
theorem at_Pages_come {K : PySem.W.Frag} {h : Heap} {mg : Str → Option Value} {f : Addr} {od an : Option Addr} {sl : Array (Option Value)} {oc kV dc pm cd ct : Value} {C : Addr} (X : K.In h) (G : h.Ns mainGlobals mg) (a : PySem.W.findIn K (.ref C) "come" = some (some (.ref f))) (i : PySem.W.isFn K (.ref f) = true) (l : K.lookup f = some ⟨oc, od, .func (PySem.W.fnOf "come" "Pages.come" (defArgs s_Pages_come) (defBody s_Pages_come) (defScope s_Pages_come) .none kV dc pm an cd ct), sl⟩) (c : PySem.W.codeIn K cd "Pages.come" = true) (k : PySem.W.keepIn K (.ref f) = true) : MethAt K C "come" "Pages.come" s_Pages_come P_Pages_come :=
  ⟨f, _, fun_mk l c k, ⟨a, i, k⟩, (fun_mk (st := s_Pages_come) l c k).binds (ps := P_Pages_come) fun _ _ _ _ _ _ us hl => match us, hl with | [_, _], _ => rfl⟩
theorem at_Pages_keep {K : PySem.W.Frag} {h : Heap} {mg : Str → Option Value} {f : Addr} {od an : Option Addr} {sl : Array (Option Value)} {oc kV dc pm cd ct : Value} {C : Addr} (X : K.In h) (G : h.Ns mainGlobals mg) (a : PySem.W.findIn K (.ref C) "keep" = some (some (.ref f))) (i : PySem.W.isFn K (.ref f) = true) (l : K.lookup f = some ⟨oc, od, .func (PySem.W.fnOf "keep" "Pages.keep" (defArgs s_Pages_keep) (defBody s_Pages_keep) (defScope s_Pages_keep) .none kV dc pm an cd ct), sl⟩) (c : PySem.W.codeIn K cd "Pages.keep" = true) (k : PySem.W.keepIn K (.ref f) = true) : MethAt K C "keep" "Pages.keep" s_Pages_keep P_Pages_keep :=
  ⟨f, _, fun_mk l c k, ⟨a, i, k⟩, (fun_mk (st := s_Pages_keep) l c k).binds (ps := P_Pages_keep) fun _ _ _ _ _ _ us hl => match us, hl with | [_, _, _], _ => rfl⟩
theorem at_Pages_load {K : PySem.W.Frag} {h : Heap} {mg : Str → Option Value} {f : Addr} {od an : Option Addr} {sl : Array (Option Value)} {oc kV dc pm cd ct : Value} {C : Addr} (X : K.In h) (G : h.Ns mainGlobals mg) (a : PySem.W.findIn K (.ref C) "load" = some (some (.ref f))) (i : PySem.W.isFn K (.ref f) = true) (l : K.lookup f = some ⟨oc, od, .func (PySem.W.fnOf "load" "Pages.load" (defArgs s_Pages_load) (defBody s_Pages_load) (defScope s_Pages_load) .none kV dc pm an cd ct), sl⟩) (c : PySem.W.codeIn K cd "Pages.load" = true) (k : PySem.W.keepIn K (.ref f) = true) : MethAt K C "load" "Pages.load" s_Pages_load P_Pages_load :=
  ⟨f, _, fun_mk l c k, ⟨a, i, k⟩, (fun_mk (st := s_Pages_load) l c k).binds (ps := P_Pages_load) fun _ _ _ _ _ _ us hl => match us, hl with | [_, _, _], _ => rfl⟩
theorem at_Pages_store {K : PySem.W.Frag} {h : Heap} {mg : Str → Option Value} {f : Addr} {od an : Option Addr} {sl : Array (Option Value)} {oc kV dc pm cd ct : Value} {C : Addr} (X : K.In h) (G : h.Ns mainGlobals mg) (a : PySem.W.findIn K (.ref C) "store" = some (some (.ref f))) (i : PySem.W.isFn K (.ref f) = true) (l : K.lookup f = some ⟨oc, od, .func (PySem.W.fnOf "store" "Pages.store" (defArgs s_Pages_store) (defBody s_Pages_store) (defScope s_Pages_store) .none kV dc pm an cd ct), sl⟩) (c : PySem.W.codeIn K cd "Pages.store" = true) (k : PySem.W.keepIn K (.ref f) = true) : MethAt K C "store" "Pages.store" s_Pages_store P_Pages_store :=
  ⟨f, _, fun_mk l c k, ⟨a, i, k⟩, (fun_mk (st := s_Pages_store) l c k).binds (ps := P_Pages_store) fun _ _ _ _ _ _ us hl => match us, hl with | [_, _, _, _], _ => rfl⟩
theorem at_Pages_fork {K : PySem.W.Frag} {h : Heap} {mg : Str → Option Value} {f : Addr} {od an : Option Addr} {sl : Array (Option Value)} {oc kV dc pm cd ct : Value} {C : Addr} (X : K.In h) (G : h.Ns mainGlobals mg) (a : PySem.W.findIn K (.ref C) "fork" = some (some (.ref f))) (i : PySem.W.isFn K (.ref f) = true) (l : K.lookup f = some ⟨oc, od, .func (PySem.W.fnOf "fork" "Pages.fork" (defArgs s_Pages_fork) (defBody s_Pages_fork) (defScope s_Pages_fork) .none kV dc pm an cd ct), sl⟩) (c : PySem.W.codeIn K cd "Pages.fork" = true) (k : PySem.W.keepIn K (.ref f) = true) : MethAt K C "fork" "Pages.fork" s_Pages_fork P_Pages_fork :=
  ⟨f, _, fun_mk l c k, ⟨a, i, k⟩, (fun_mk (st := s_Pages_fork) l c k).binds (ps := P_Pages_fork) fun _ _ _ _ _ _ us hl => match us, hl with | [_, _, _], _ => rfl⟩
theorem at_Pages_end {K : PySem.W.Frag} {h : Heap} {mg : Str → Option Value} {f : Addr} {od an : Option Addr} {sl : Array (Option Value)} {oc kV dc pm cd ct : Value} {C : Addr} (X : K.In h) (G : h.Ns mainGlobals mg) (a : PySem.W.findIn K (.ref C) "end" = some (some (.ref f))) (i : PySem.W.isFn K (.ref f) = true) (l : K.lookup f = some ⟨oc, od, .func (PySem.W.fnOf "end" "Pages.end" (defArgs s_Pages_end) (defBody s_Pages_end) (defScope s_Pages_end) .none kV dc pm an cd ct), sl⟩) (c : PySem.W.codeIn K cd "Pages.end" = true) (k : PySem.W.keepIn K (.ref f) = true) : MethAt K C "end" "Pages.end" s_Pages_end P_Pages_end :=
  ⟨f, _, fun_mk l c k, ⟨a, i, k⟩, (fun_mk (st := s_Pages_end) l c k).binds (ps := P_Pages_end) fun _ _ _ _ _ _ us hl => match us, hl with | [_, _], _ => rfl⟩
theorem at_Pages_memory {K : PySem.W.Frag} {h : Heap} {mg : Str → Option Value} {f : Addr} {od an : Option Addr} {sl : Array (Option Value)} {oc kV dc pm cd ct : Value} {C : Addr} (X : K.In h) (G : h.Ns mainGlobals mg) (a : PySem.W.findIn K (.ref C) "memory" = some (some (.ref f))) (i : PySem.W.isFn K (.ref f) = true) (l : K.lookup f = some ⟨oc, od, .func (PySem.W.fnOf "memory" "Pages.memory" (defArgs s_Pages_memory) (defBody s_Pages_memory) (defScope s_Pages_memory) .none kV dc pm an cd ct), sl⟩) (c : PySem.W.codeIn K cd "Pages.memory" = true) (k : PySem.W.keepIn K (.ref f) = true) : MethAt K C "memory" "Pages.memory" s_Pages_memory P_Pages_memory :=
  ⟨f, _, fun_mk l c k, ⟨a, i, k⟩, (fun_mk (st := s_Pages_memory) l c k).binds (ps := P_Pages_memory) fun _ _ _ _ _ _ us hl => match us, hl with | [_, _], _ => rfl⟩
theorem at_Pages_deeds {K : PySem.W.Frag} {h : Heap} {mg : Str → Option Value} {f : Addr} {od an : Option Addr} {sl : Array (Option Value)} {oc kV dc pm cd ct : Value} {C : Addr} (X : K.In h) (G : h.Ns mainGlobals mg) (a : PySem.W.findIn K (.ref C) "deeds" = some (some (.ref f))) (i : PySem.W.isFn K (.ref f) = true) (l : K.lookup f = some ⟨oc, od, .func (PySem.W.fnOf "deeds" "Pages.deeds" (defArgs s_Pages_deeds) (defBody s_Pages_deeds) (defScope s_Pages_deeds) .none kV dc pm an cd ct), sl⟩) (c : PySem.W.codeIn K cd "Pages.deeds" = true) (k : PySem.W.keepIn K (.ref f) = true) : MethAt K C "deeds" "Pages.deeds" s_Pages_deeds P_Pages_deeds :=
  ⟨f, _, fun_mk l c k, ⟨a, i, k⟩, (fun_mk (st := s_Pages_deeds) l c k).binds (ps := P_Pages_deeds) fun _ _ _ _ _ _ us hl => match us, hl with | [_], _ => rfl⟩
theorem at_Pages_misses {K : PySem.W.Frag} {h : Heap} {mg : Str → Option Value} {f : Addr} {od an : Option Addr} {sl : Array (Option Value)} {oc kV dc pm cd ct : Value} {C : Addr} (X : K.In h) (G : h.Ns mainGlobals mg) (a : PySem.W.findIn K (.ref C) "misses" = some (some (.ref f))) (i : PySem.W.isFn K (.ref f) = true) (l : K.lookup f = some ⟨oc, od, .func (PySem.W.fnOf "misses" "Pages.misses" (defArgs s_Pages_misses) (defBody s_Pages_misses) (defScope s_Pages_misses) .none kV dc pm an cd ct), sl⟩) (c : PySem.W.codeIn K cd "Pages.misses" = true) (k : PySem.W.keepIn K (.ref f) = true) : MethAt K C "misses" "Pages.misses" s_Pages_misses P_Pages_misses :=
  ⟨f, _, fun_mk l c k, ⟨a, i, k⟩, (fun_mk (st := s_Pages_misses) l c k).binds (ps := P_Pages_misses) fun _ _ _ _ _ _ us hl => match us, hl with | [_], _ => rfl⟩
theorem at_Pages_inside {K : PySem.W.Frag} {h : Heap} {mg : Str → Option Value} {f : Addr} {od an : Option Addr} {sl : Array (Option Value)} {oc kV dc pm cd ct : Value} {C : Addr} (X : K.In h) (G : h.Ns mainGlobals mg) (a : PySem.W.findIn K (.ref C) "inside" = some (some (.ref f))) (i : PySem.W.isFn K (.ref f) = true) (l : K.lookup f = some ⟨oc, od, .func (PySem.W.fnOf "inside" "Pages.inside" (defArgs s_Pages_inside) (defBody s_Pages_inside) (defScope s_Pages_inside) .none kV dc pm an cd ct), sl⟩) (c : PySem.W.codeIn K cd "Pages.inside" = true) (k : PySem.W.keepIn K (.ref f) = true) : MethAt K C "inside" "Pages.inside" s_Pages_inside P_Pages_inside :=
  ⟨f, _, fun_mk l c k, ⟨a, i, k⟩, (fun_mk (st := s_Pages_inside) l c k).binds (ps := P_Pages_inside) fun _ _ _ _ _ _ us hl => match us, hl with | [_], _ => rfl⟩
theorem at_Pages_body {K : PySem.W.Frag} {h : Heap} {mg : Str → Option Value} {f : Addr} {od an : Option Addr} {sl : Array (Option Value)} {oc kV dc pm cd ct : Value} {C : Addr} (X : K.In h) (G : h.Ns mainGlobals mg) (a : PySem.W.findIn K (.ref C) "body" = some (some (.ref f))) (i : PySem.W.isFn K (.ref f) = true) (l : K.lookup f = some ⟨oc, od, .func (PySem.W.fnOf "body" "Pages.body" (defArgs s_Pages_body) (defBody s_Pages_body) (defScope s_Pages_body) .none kV dc pm an cd ct), sl⟩) (c : PySem.W.codeIn K cd "Pages.body" = true) (k : PySem.W.keepIn K (.ref f) = true) : MethAt K C "body" "Pages.body" s_Pages_body P_Pages_body :=
  ⟨f, _, fun_mk l c k, ⟨a, i, k⟩, (fun_mk (st := s_Pages_body) l c k).binds (ps := P_Pages_body) fun _ _ _ _ _ _ us hl => match us, hl with | [_, _, _], _ => rfl⟩
theorem at_Pages___init__ {K : PySem.W.Frag} {h : Heap} {mg : Str → Option Value} {f : Addr} {od an : Option Addr} {sl : Array (Option Value)} {oc kV dc pm cd ct : Value} {C : Addr} (X : K.In h) (G : h.Ns mainGlobals mg) (aC : PySem.W.nsIn K mainGlobals "Pages" = some (some (.ref C))) (a : PySem.W.findIn K (.ref C) "__init__" = some (some (.ref f))) (i : PySem.W.isFn K (.ref f) = true) (l : K.lookup f = some ⟨oc, od, .func (PySem.W.fnOf "__init__" "Pages.__init__" (defArgs s_Pages___init__) (defBody s_Pages___init__) (defScope s_Pages___init__) .none kV dc pm an cd ct), sl⟩) (c : PySem.W.codeIn K cd "Pages.__init__" = true) (k : PySem.W.keepIn K (.ref f) = true) (mk : PySem.W.makesIn K C = true) (kc : PySem.W.keepIn K (.ref C) = true) : InitAt K mg C "Pages" "Pages.__init__" s_Pages___init__ P_Pages___init__ :=
  ⟨f, _, fun_mk l c k, ⟨mk, a, i, kc⟩, PySem.W.mg_of X G aC, (fun_mk (st := s_Pages___init__) l c k).binds (ps := P_Pages___init__) fun _ _ _ _ _ _ us hl => match us, hl with | [_, _, _], _ => rfl⟩
theorem at__law_deck {K : PySem.W.Frag} {h : Heap} {mg : Str → Option Value} {f : Addr} {od an : Option Addr} {sl : Array (Option Value)} {oc kV dc pm cd ct : Value} (X : K.In h) (G : h.Ns mainGlobals mg) (a : PySem.W.nsIn K mainGlobals "_law_deck" = some (some (.ref f))) (l : K.lookup f = some ⟨oc, od, .func (PySem.W.fnOf "_law_deck" "_law_deck" (defArgs s__law_deck) (defBody s__law_deck) (defScope s__law_deck) .none kV dc pm an cd ct), sl⟩) (c : PySem.W.codeIn K cd "_law_deck" = true) (k : PySem.W.keepIn K (.ref f) = true) : DefAt K mg "_law_deck" "_law_deck" s__law_deck P__law_deck :=
  ⟨f, _, fun_mk l c k, PySem.W.mg_of X G a, k, (fun_mk (st := s__law_deck) l c k).binds (ps := P__law_deck) fun _ _ _ _ _ _ us hl => match us, hl with | [_, _], _ => rfl⟩
theorem at__law_draw {K : PySem.W.Frag} {h : Heap} {mg : Str → Option Value} {f : Addr} {od an : Option Addr} {sl : Array (Option Value)} {oc kV dc pm cd ct : Value} (X : K.In h) (G : h.Ns mainGlobals mg) (a : PySem.W.nsIn K mainGlobals "_law_draw" = some (some (.ref f))) (l : K.lookup f = some ⟨oc, od, .func (PySem.W.fnOf "_law_draw" "_law_draw" (defArgs s__law_draw) (defBody s__law_draw) (defScope s__law_draw) .none kV dc pm an cd ct), sl⟩) (c : PySem.W.codeIn K cd "_law_draw" = true) (k : PySem.W.keepIn K (.ref f) = true) : DefAt K mg "_law_draw" "_law_draw" s__law_draw P__law_draw :=
  ⟨f, _, fun_mk l c k, PySem.W.mg_of X G a, k, (fun_mk (st := s__law_draw) l c k).binds (ps := P__law_draw) fun _ _ _ _ _ _ us hl => match us, hl with | [_, _], _ => rfl⟩
theorem at__law_pick {K : PySem.W.Frag} {h : Heap} {mg : Str → Option Value} {f : Addr} {od an : Option Addr} {sl : Array (Option Value)} {oc kV dc pm cd ct : Value} (X : K.In h) (G : h.Ns mainGlobals mg) (a : PySem.W.nsIn K mainGlobals "_law_pick" = some (some (.ref f))) (l : K.lookup f = some ⟨oc, od, .func (PySem.W.fnOf "_law_pick" "_law_pick" (defArgs s__law_pick) (defBody s__law_pick) (defScope s__law_pick) .none kV dc pm an cd ct), sl⟩) (c : PySem.W.codeIn K cd "_law_pick" = true) (k : PySem.W.keepIn K (.ref f) = true) : DefAt K mg "_law_pick" "_law_pick" s__law_pick P__law_pick :=
  ⟨f, _, fun_mk l c k, PySem.W.mg_of X G a, k, (fun_mk (st := s__law_pick) l c k).binds (ps := P__law_pick) fun _ _ _ _ _ _ us hl => match us, hl with | [_, _], _ => rfl⟩
theorem at__law_same {K : PySem.W.Frag} {h : Heap} {mg : Str → Option Value} {f : Addr} {od an : Option Addr} {sl : Array (Option Value)} {oc kV dc pm cd ct : Value} (X : K.In h) (G : h.Ns mainGlobals mg) (a : PySem.W.nsIn K mainGlobals "_law_same" = some (some (.ref f))) (l : K.lookup f = some ⟨oc, od, .func (PySem.W.fnOf "_law_same" "_law_same" (defArgs s__law_same) (defBody s__law_same) (defScope s__law_same) .none kV dc pm an cd ct), sl⟩) (c : PySem.W.codeIn K cd "_law_same" = true) (k : PySem.W.keepIn K (.ref f) = true) : DefAt K mg "_law_same" "_law_same" s__law_same P__law_same :=
  ⟨f, _, fun_mk l c k, PySem.W.mg_of X G a, k, (fun_mk (st := s__law_same) l c k).binds (ps := P__law_same) fun _ _ _ _ _ _ us hl => match us, hl with | [_, _], _ => rfl⟩
theorem at__law_rule {K : PySem.W.Frag} {h : Heap} {mg : Str → Option Value} {f : Addr} {od an : Option Addr} {sl : Array (Option Value)} {oc kV dc pm cd ct : Value} (X : K.In h) (G : h.Ns mainGlobals mg) (a : PySem.W.nsIn K mainGlobals "_law_rule" = some (some (.ref f))) (l : K.lookup f = some ⟨oc, od, .func (PySem.W.fnOf "_law_rule" "_law_rule" (defArgs s__law_rule) (defBody s__law_rule) (defScope s__law_rule) .none kV dc pm an cd ct), sl⟩) (c : PySem.W.codeIn K cd "_law_rule" = true) (k : PySem.W.keepIn K (.ref f) = true) : DefAt K mg "_law_rule" "_law_rule" s__law_rule P__law_rule :=
  ⟨f, _, fun_mk l c k, PySem.W.mg_of X G a, k, (fun_mk (st := s__law_rule) l c k).binds (ps := P__law_rule) fun _ _ _ _ _ _ us hl => match us, hl with | [_], _ => rfl⟩
theorem at__law_address {K : PySem.W.Frag} {h : Heap} {mg : Str → Option Value} {f : Addr} {od an : Option Addr} {sl : Array (Option Value)} {oc kV dc pm cd ct : Value} (X : K.In h) (G : h.Ns mainGlobals mg) (a : PySem.W.nsIn K mainGlobals "_law_address" = some (some (.ref f))) (l : K.lookup f = some ⟨oc, od, .func (PySem.W.fnOf "_law_address" "_law_address" (defArgs s__law_address) (defBody s__law_address) (defScope s__law_address) .none kV dc pm an cd ct), sl⟩) (c : PySem.W.codeIn K cd "_law_address" = true) (k : PySem.W.keepIn K (.ref f) = true) : DefAt K mg "_law_address" "_law_address" s__law_address P__law_address :=
  ⟨f, _, fun_mk l c k, PySem.W.mg_of X G a, k, (fun_mk (st := s__law_address) l c k).binds (ps := P__law_address) fun _ _ _ _ _ _ us hl => match us, hl with | [_], _ => rfl⟩
theorem at__law_rows {K : PySem.W.Frag} {h : Heap} {mg : Str → Option Value} {f : Addr} {od an : Option Addr} {sl : Array (Option Value)} {oc kV dc pm cd ct : Value} (X : K.In h) (G : h.Ns mainGlobals mg) (a : PySem.W.nsIn K mainGlobals "_law_rows" = some (some (.ref f))) (l : K.lookup f = some ⟨oc, od, .func (PySem.W.fnOf "_law_rows" "_law_rows" (defArgs s__law_rows) (defBody s__law_rows) (defScope s__law_rows) .none kV dc pm an cd ct), sl⟩) (c : PySem.W.codeIn K cd "_law_rows" = true) (k : PySem.W.keepIn K (.ref f) = true) : DefAt K mg "_law_rows" "_law_rows" s__law_rows P__law_rows :=
  ⟨f, _, fun_mk l c k, PySem.W.mg_of X G a, k, (fun_mk (st := s__law_rows) l c k).binds (ps := P__law_rows) fun _ _ _ _ _ _ us hl => match us, hl with | [_], _ => rfl⟩
theorem at__law_call {K : PySem.W.Frag} {h : Heap} {mg : Str → Option Value} {f : Addr} {od an : Option Addr} {sl : Array (Option Value)} {oc kV dc pm cd ct : Value} (X : K.In h) (G : h.Ns mainGlobals mg) (a : PySem.W.nsIn K mainGlobals "_law_call" = some (some (.ref f))) (l : K.lookup f = some ⟨oc, od, .func (PySem.W.fnOf "_law_call" "_law_call" (defArgs s__law_call) (defBody s__law_call) (defScope s__law_call) .none kV dc pm an cd ct), sl⟩) (c : PySem.W.codeIn K cd "_law_call" = true) (k : PySem.W.keepIn K (.ref f) = true) : DefAt K mg "_law_call" "_law_call" s__law_call P__law_call :=
  ⟨f, _, fun_mk l c k, PySem.W.mg_of X G a, k, (fun_mk (st := s__law_call) l c k).binds (ps := P__law_call) fun _ _ _ _ _ _ us hl => match us, hl with | [_, _, _], _ => rfl⟩
theorem at__law_done {K : PySem.W.Frag} {h : Heap} {mg : Str → Option Value} {f : Addr} {od an : Option Addr} {sl : Array (Option Value)} {oc kV dc pm cd ct : Value} (X : K.In h) (G : h.Ns mainGlobals mg) (a : PySem.W.nsIn K mainGlobals "_law_done" = some (some (.ref f))) (l : K.lookup f = some ⟨oc, od, .func (PySem.W.fnOf "_law_done" "_law_done" (defArgs s__law_done) (defBody s__law_done) (defScope s__law_done) .none kV dc pm an cd ct), sl⟩) (c : PySem.W.codeIn K cd "_law_done" = true) (k : PySem.W.keepIn K (.ref f) = true) : DefAt K mg "_law_done" "_law_done" s__law_done P__law_done :=
  ⟨f, _, fun_mk l c k, PySem.W.mg_of X G a, k, (fun_mk (st := s__law_done) l c k).binds (ps := P__law_done) fun _ _ _ _ _ _ us hl => match us, hl with | [_, _], _ => rfl⟩
theorem at__law_bodies_right {K : PySem.W.Frag} {h : Heap} {mg : Str → Option Value} {f : Addr} {od an : Option Addr} {sl : Array (Option Value)} {oc kV dc pm cd ct : Value} (X : K.In h) (G : h.Ns mainGlobals mg) (a : PySem.W.nsIn K mainGlobals "_law_bodies_right" = some (some (.ref f))) (l : K.lookup f = some ⟨oc, od, .func (PySem.W.fnOf "_law_bodies_right" "_law_bodies_right" (defArgs s__law_bodies_right) (defBody s__law_bodies_right) (defScope s__law_bodies_right) .none kV dc pm an cd ct), sl⟩) (c : PySem.W.codeIn K cd "_law_bodies_right" = true) (k : PySem.W.keepIn K (.ref f) = true) : DefAt K mg "_law_bodies_right" "_law_bodies_right" s__law_bodies_right P__law_bodies_right :=
  ⟨f, _, fun_mk l c k, PySem.W.mg_of X G a, k, (fun_mk (st := s__law_bodies_right) l c k).binds (ps := P__law_bodies_right) fun _ _ _ _ _ _ us hl => match us, hl with | [_, _, _], _ => rfl⟩
theorem at__law_asked {K : PySem.W.Frag} {h : Heap} {mg : Str → Option Value} {f : Addr} {od an : Option Addr} {sl : Array (Option Value)} {oc kV dc pm cd ct : Value} (X : K.In h) (G : h.Ns mainGlobals mg) (a : PySem.W.nsIn K mainGlobals "_law_asked" = some (some (.ref f))) (l : K.lookup f = some ⟨oc, od, .func (PySem.W.fnOf "_law_asked" "_law_asked" (defArgs s__law_asked) (defBody s__law_asked) (defScope s__law_asked) .none kV dc pm an cd ct), sl⟩) (c : PySem.W.codeIn K cd "_law_asked" = true) (k : PySem.W.keepIn K (.ref f) = true) : DefAt K mg "_law_asked" "_law_asked" s__law_asked P__law_asked :=
  ⟨f, _, fun_mk l c k, PySem.W.mg_of X G a, k, (fun_mk (st := s__law_asked) l c k).binds (ps := P__law_asked) fun _ _ _ _ _ _ us hl => match us, hl with | [_, _, _, _, _, _, _], _ => rfl⟩
theorem at__law_owners_right {K : PySem.W.Frag} {h : Heap} {mg : Str → Option Value} {f : Addr} {od an : Option Addr} {sl : Array (Option Value)} {oc kV dc pm cd ct : Value} (X : K.In h) (G : h.Ns mainGlobals mg) (a : PySem.W.nsIn K mainGlobals "_law_owners_right" = some (some (.ref f))) (l : K.lookup f = some ⟨oc, od, .func (PySem.W.fnOf "_law_owners_right" "_law_owners_right" (defArgs s__law_owners_right) (defBody s__law_owners_right) (defScope s__law_owners_right) .none kV dc pm an cd ct), sl⟩) (c : PySem.W.codeIn K cd "_law_owners_right" = true) (k : PySem.W.keepIn K (.ref f) = true) : DefAt K mg "_law_owners_right" "_law_owners_right" s__law_owners_right P__law_owners_right :=
  ⟨f, _, fun_mk l c k, PySem.W.mg_of X G a, k, (fun_mk (st := s__law_owners_right) l c k).binds (ps := P__law_owners_right) fun _ _ _ _ _ _ us hl => match us, hl with | [_, _, _], _ => rfl⟩
theorem all_ok {P : Program} {w : World} {K : PySem.W.Frag} {mg : Str → Option Value} {base : Heap} {C : Addr} {C2 : Addr} {C3 : Addr} (B : Blt mg) (m_divmod : mg "divmod" = none) (TB : BoC K C) (TF : FrC K C2) (TP3 : PgC K C3) (g_CELLS : GV mg "CELLS" (.int 4096)) (g_CLOCK : GV mg "CLOCK" (.str "clock")) (g_FIRST : GV mg "FIRST" (.str "first")) (g_FIRST_TASK : GV mg "FIRST_TASK" (.int 1)) (g_GONE : GV mg "GONE" (.str "gone")) (g_IN_SHEET : GV mg "IN_SHEET" (.int 64)) (g_LONGEST : GV mg "LONGEST" (.str "longest")) (g_LOOK : GV mg "LOOK" (.str "look")) (g_MAKE : GV mg "MAKE" (.str "make")) (g_MOST_CHOICES : GV mg "MOST_CHOICES" (.int 800)) (g_MOST_DEEDS : GV mg "MOST_DEEDS" (.int 400)) (g_MOST_FIGURE : GV mg "MOST_FIGURE" (.int 65535)) (g_MOST_FRAMES : GV mg "MOST_FRAMES" (.int 16)) (g_MOST_TASKS : GV mg "MOST_TASKS" (.int 6)) (g_SHEETS : GV mg "SHEETS" (.int 64)) (g_TOLD : GV mg "TOLD" (.str "told"))
    (d_is_from : DefAt K mg "is_from" "is_from" s_is_from P_is_from)
    (d_is_tuple : DefAt K mg "is_tuple" "is_tuple" s_is_tuple P_is_tuple)
    (d_Bodies_is_there : MethAt K C "is_there" "Bodies.is_there" s_Bodies_is_there P_Bodies_is_there)
    (d_Bodies_can_come : MethAt K C "can_come" "Bodies.can_come" s_Bodies_can_come P_Bodies_can_come)
    (d_Bodies_body : MethAt K C "body" "Bodies.body" s_Bodies_body P_Bodies_body)
    (d_Bodies_with_body : MethAt K C "with_body" "Bodies.with_body" s_Bodies_with_body P_Bodies_with_body)
    (d_Bodies_load : MethAt K C "load" "Bodies.load" s_Bodies_load P_Bodies_load)
    (d_Bodies_store : MethAt K C "store" "Bodies.store" s_Bodies_store P_Bodies_store)
    (d_Bodies_fork : MethAt K C "fork" "Bodies.fork" s_Bodies_fork P_Bodies_fork)
    (d_Bodies_end : MethAt K C "end" "Bodies.end" s_Bodies_end P_Bodies_end)
    (d_Bodies_done : MethAt K C "done" "Bodies.done" s_Bodies_done P_Bodies_done)
    (d_Bodies___init__ : InitAt K mg C "Bodies" "Bodies.__init__" s_Bodies___init__ P_Bodies___init__)
    (d_is_deed : DefAt K mg "is_deed" "is_deed" s_is_deed P_is_deed)
    (d_gone_through : DefAt K mg "gone_through" "gone_through" s_gone_through P_gone_through)
    (d_need_frames : DefAt K mg "need_frames" "need_frames" s_need_frames P_need_frames)
    (d_are_choices : DefAt K mg "are_choices" "are_choices" s_are_choices P_are_choices)
    (d_is_rule : DefAt K mg "is_rule" "is_rule" s_is_rule P_is_rule)
    (d_need_rule : DefAt K mg "need_rule" "need_rule" s_need_rule P_need_rule)
    (d_Frames___init__ : InitAt K mg C2 "Frames" "Frames.__init__" s_Frames___init__ P_Frames___init__)
    (d_Frames_inside : MethAt K C2 "inside" "Frames.inside" s_Frames_inside P_Frames_inside)
    (d_Frames_chosen : MethAt K C2 "chosen" "Frames.chosen" s_Frames_chosen P_Frames_chosen)
    (d_Frames_put_out : MethAt K C2 "put_out" "Frames.put_out" s_Frames_put_out P_Frames_put_out)
    (d_Frames_look : MethAt K C2 "look" "Frames.look" s_Frames_look P_Frames_look)
    (d_Frames_leave : MethAt K C2 "leave" "Frames.leave" s_Frames_leave P_Frames_leave)
    (d_Frames_come : MethAt K C2 "come" "Frames.come" s_Frames_come P_Frames_come)
    (d_misses : DefAt K mg "misses" "misses" s_misses P_misses)
    (d_is_integer : DefAt K mg "is_integer" "is_integer" s_is_integer P_is_integer)
    (d_owners : DefAt K mg "owners" "owners" s_owners P_owners)
    (d_is_figure : DefAt K mg "is_figure" "is_figure" s_is_figure P_is_figure)
    (d_is_address : DefAt K mg "is_address" "is_address" s_is_address P_is_address)
    (d_Pages_need_task : MethAt K C3 "need_task" "Pages.need_task" s_Pages_need_task P_Pages_need_task)
    (d_Pages_need_cell : MethAt K C3 "need_cell" "Pages.need_cell" s_Pages_need_cell P_Pages_need_cell)
    (d_Pages_come : MethAt K C3 "come" "Pages.come" s_Pages_come P_Pages_come)
    (d_Pages_keep : MethAt K C3 "keep" "Pages.keep" s_Pages_keep P_Pages_keep)
    (d_Pages_load : MethAt K C3 "load" "Pages.load" s_Pages_load P_Pages_load)
    (d_Pages_store : MethAt K C3 "store" "Pages.store" s_Pages_store P_Pages_store)
    (d_Pages_fork : MethAt K C3 "fork" "Pages.fork" s_Pages_fork P_Pages_fork)
    (d_Pages_end : MethAt K C3 "end" "Pages.end" s_Pages_end P_Pages_end)
    (d_Pages_memory : MethAt K C3 "memory" "Pages.memory" s_Pages_memory P_Pages_memory)
    (d_Pages_deeds : MethAt K C3 "deeds" "Pages.deeds" s_Pages_deeds P_Pages_deeds)
    (d_Pages_misses : MethAt K C3 "misses" "Pages.misses" s_Pages_misses P_Pages_misses)
    (d_Pages_inside : MethAt K C3 "inside" "Pages.inside" s_Pages_inside P_Pages_inside)
    (d_Pages_body : MethAt K C3 "body" "Pages.body" s_Pages_body P_Pages_body)
    (d_Pages___init__ : InitAt K mg C3 "Pages" "Pages.__init__" s_Pages___init__ P_Pages___init__)
    (d__law_deck : DefAt K mg "_law_deck" "_law_deck" s__law_deck P__law_deck)
    (d__law_draw : DefAt K mg "_law_draw" "_law_draw" s__law_draw P__law_draw)
    (d__law_pick : DefAt K mg "_law_pick" "_law_pick" s__law_pick P__law_pick)
    (d__law_same : DefAt K mg "_law_same" "_law_same" s__law_same P__law_same)
    (d__law_rule : DefAt K mg "_law_rule" "_law_rule" s__law_rule P__law_rule)
    (d__law_address : DefAt K mg "_law_address" "_law_address" s__law_address P__law_address)
    (d__law_rows : DefAt K mg "_law_rows" "_law_rows" s__law_rows P__law_rows)
    (d__law_call : DefAt K mg "_law_call" "_law_call" s__law_call P__law_call)
    (d__law_done : DefAt K mg "_law_done" "_law_done" s__law_done P__law_done)
    (d__law_bodies_right : DefAt K mg "_law_bodies_right" "_law_bodies_right" s__law_bodies_right P__law_bodies_right)
    (d__law_asked : DefAt K mg "_law_asked" "_law_asked" s__law_asked P__law_asked)
    (d__law_owners_right : DefAt K mg "_law_owners_right" "_law_owners_right" s__law_owners_right P__law_owners_right)
    {f : Addr} {fd : FuncData} (F : Fun K "law" "law" s_law f fd) : FnOk P w K mg base CX0 9 f fd P_law (spLawK13 K) := by
  have c_is_from : Cal P w K mg base CX0 1 "is_from" P_is_from (spIsFrom K) := by
    obtain ⟨f, fd, F, m, k, b⟩ := d_is_from.ex
    exact ⟨f, fd, ok_is_from F B  , m, k, b⟩
  have c_is_tuple : Cal P w K mg base CX0 1 "is_tuple" P_is_tuple (spIsTuple K) := by
    obtain ⟨f, fd, F, m, k, b⟩ := d_is_tuple.ex
    exact ⟨f, fd, ok_is_tuple F B  , m, k, b⟩
  have c_Bodies_is_there : MCal P w K mg base CX0 2 C "is_there" P_Bodies_is_there (spThere K C) := by
    obtain ⟨f, fd, F, m, b⟩ := d_Bodies_is_there.ex
    exact ⟨f, fd, ok_Bodies_is_there F B  (TB := TB) (c_is_from := c_is_from) (g_FIRST_TASK := g_FIRST_TASK) (g_MOST_TASKS := g_MOST_TASKS), m, b⟩
  have c_Bodies_can_come : MCal P w K mg base CX0 2 C "can_come" P_Bodies_can_come (spCome K C) := by
    obtain ⟨f, fd, F, m, b⟩ := d_Bodies_can_come.ex
    exact ⟨f, fd, ok_Bodies_can_come F B  (TB := TB) (c_is_from := c_is_from) (g_FIRST_TASK := g_FIRST_TASK) (g_MOST_TASKS := g_MOST_TASKS), m, b⟩
  have c_Bodies_body : MCal P w K mg base CX0 1 C "body" P_Bodies_body (spBody C) := by
    obtain ⟨f, fd, F, m, b⟩ := d_Bodies_body.ex
    exact ⟨f, fd, ok_Bodies_body F B  (TB := TB), m, b⟩
  have c_Bodies_with_body : MCal P w K mg base CX0 1 C "with_body" P_Bodies_with_body (spWith K C) := by
    obtain ⟨f, fd, F, m, b⟩ := d_Bodies_with_body.ex
    exact ⟨f, fd, ok_Bodies_with_body F B  (TB := TB) (g_MAKE := g_MAKE), m, b⟩
  have c_Bodies_load : MCal P w K mg base CX0 2 C "load" P_Bodies_load (spLoad K C) := by
    obtain ⟨f, fd, F, m, b⟩ := d_Bodies_load.ex
    exact ⟨f, fd, ok_Bodies_load F B  (TB := TB) (c_Bodies_body := c_Bodies_body) (g_LOOK := g_LOOK), m, b⟩
  have c_Bodies_store : MCal P w K mg base CX0 3 C "store" P_Bodies_store (spStore K C) := by
    obtain ⟨f, fd, F, m, b⟩ := d_Bodies_store.ex
    exact ⟨f, fd, ok_Bodies_store F B  (TB := TB) (c_Bodies_load := c_Bodies_load) (c_Bodies_with_body := c_Bodies_with_body), m, b⟩
  have c_Bodies_fork : MCal P w K mg base CX0 1 C "fork" P_Bodies_fork (spFork K C) := by
    obtain ⟨f, fd, F, m, b⟩ := d_Bodies_fork.ex
    exact ⟨f, fd, ok_Bodies_fork F B  (TB := TB), m, b⟩
  have c_Bodies_end : MCal P w K mg base CX0 1 C "end" P_Bodies_end (spEnd K C) := by
    obtain ⟨f, fd, F, m, b⟩ := d_Bodies_end.ex
    exact ⟨f, fd, ok_Bodies_end F B  (TB := TB) (g_GONE := g_GONE), m, b⟩
  have c_Bodies_done : MCal P w K mg base CX0 4 C "done" P_Bodies_done (spDone K C) := by
    obtain ⟨f, fd, F, m, b⟩ := d_Bodies_done.ex
    exact ⟨f, fd, ok_Bodies_done F B  (TB := TB) (c_Bodies_load := c_Bodies_load) (c_Bodies_store := c_Bodies_store) (c_Bodies_fork := c_Bodies_fork) (c_Bodies_end := c_Bodies_end), m, b⟩
  have c_Bodies : CCal P w K mg base CX0 1 C "Bodies" P_Bodies___init__ (spInit C) := by
    obtain ⟨f, fd, F, M, m, b⟩ := d_Bodies___init__.ex
    exact ⟨f, fd, ok_Bodies___init__ F B  (TB := TB) (g_FIRST_TASK := g_FIRST_TASK), M, m, b⟩
  have c_is_deed : Cal P w K mg base CX0 3 "is_deed" P_is_deed (spIsDeed K C) := by
    obtain ⟨f, fd, F, m, k, b⟩ := d_is_deed.ex
    exact ⟨f, fd, ok_is_deed F B  (TB := TB) (c_is_tuple := c_is_tuple) (c_is_from := c_is_from) (c_Bodies_is_there := c_Bodies_is_there) (c_Bodies_can_come := c_Bodies_can_come) (g_SHEETS := g_SHEETS), m, k, b⟩
  have c_gone_through : Cal P w K mg base CX0 5 "gone_through" P_gone_through (spGone K C) := by
    obtain ⟨f, fd, F, m, k, b⟩ := d_gone_through.ex
    exact ⟨f, fd, ok_gone_through F B  (TB := TB) (c_is_tuple := c_is_tuple) (c_is_deed := c_is_deed) (c_Bodies := c_Bodies) (c_Bodies_done := c_Bodies_done) (g_MOST_DEEDS := g_MOST_DEEDS), m, k, b⟩
  have c_need_frames : Cal P w K mg base CX0 2 "need_frames" P_need_frames (spNeedFrames K) := by
    obtain ⟨f, fd, F, m, k, b⟩ := d_need_frames.ex
    exact ⟨f, fd, ok_need_frames F B  (c_is_from := c_is_from) (g_MOST_FRAMES := g_MOST_FRAMES), m, k, b⟩
  have c_are_choices : Cal P w K mg base CX0 2 "are_choices" P_are_choices (spChoices K) := by
    obtain ⟨f, fd, F, m, k, b⟩ := d_are_choices.ex
    exact ⟨f, fd, ok_are_choices F B  (c_is_tuple := c_is_tuple) (c_is_from := c_is_from) (g_MOST_FRAMES := g_MOST_FRAMES) (g_MOST_CHOICES := g_MOST_CHOICES), m, k, b⟩
  have c_is_rule : Cal P w K mg base CX0 3 "is_rule" P_is_rule (spIsRule K) := by
    obtain ⟨f, fd, F, m, k, b⟩ := d_is_rule.ex
    exact ⟨f, fd, ok_is_rule F B  (c_is_tuple := c_is_tuple) (c_are_choices := c_are_choices) (g_FIRST := g_FIRST) (g_LONGEST := g_LONGEST) (g_CLOCK := g_CLOCK) (g_TOLD := g_TOLD), m, k, b⟩
  have c_need_rule : Cal P w K mg base CX0 4 "need_rule" P_need_rule (spNeedRule K) := by
    obtain ⟨f, fd, F, m, k, b⟩ := d_need_rule.ex
    exact ⟨f, fd, ok_need_rule F B  (c_is_rule := c_is_rule), m, k, b⟩
  have c_Frames : CCal P w K mg base CX0 1 C2 "Frames" P_Frames___init__ (spFInit K C2) := by
    obtain ⟨f, fd, F, M, m, b⟩ := d_Frames___init__.ex
    exact ⟨f, fd, ok_Frames___init__ F B  (TB := TF), M, m, b⟩
  have c_Frames_inside : MCal P w K mg base CX0 1 C2 "inside" P_Frames_inside (spInside K C2) := by
    obtain ⟨f, fd, F, m, b⟩ := d_Frames_inside.ex
    exact ⟨f, fd, ok_Frames_inside F B  (TB := TF), m, b⟩
  have c_Frames_chosen : MCal P w K mg base CX0 1 C2 "chosen" P_Frames_chosen (spChosen K C2) := by
    obtain ⟨f, fd, F, m, b⟩ := d_Frames_chosen.ex
    exact ⟨f, fd, ok_Frames_chosen F B  (TB := TF), m, b⟩
  have c_Frames_put_out : MCal P w K mg base CX0 2 C2 "put_out" P_Frames_put_out (spPutOut K C2) := by
    obtain ⟨f, fd, F, m, b⟩ := d_Frames_put_out.ex
    exact ⟨f, fd, ok_Frames_put_out F B  (TB := TF) (c_Frames_chosen := c_Frames_chosen) (g_CLOCK := g_CLOCK), m, b⟩
  have c_Frames_look : MCal P w K mg base CX0 1 C2 "look" P_Frames_look (spLook K C2) := by
    obtain ⟨f, fd, F, m, b⟩ := d_Frames_look.ex
    exact ⟨f, fd, ok_Frames_look F B  (TB := TF) (g_LONGEST := g_LONGEST) (g_CLOCK := g_CLOCK), m, b⟩
  have c_Frames_leave : MCal P w K mg base CX0 1 C2 "leave" P_Frames_leave (spLeave K C2) := by
    obtain ⟨f, fd, F, m, b⟩ := d_Frames_leave.ex
    exact ⟨f, fd, ok_Frames_leave F B  (TB := TF), m, b⟩
  have c_Frames_come : MCal P w K mg base CX0 3 C2 "come" P_Frames_come (spComeF K C2) := by
    obtain ⟨f, fd, F, m, b⟩ := d_Frames_come.ex
    exact ⟨f, fd, ok_Frames_come F B  (TB := TF) (c_Frames_leave := c_Frames_leave) (c_Frames_look := c_Frames_look) (c_Frames_put_out := c_Frames_put_out) (g_GONE := g_GONE), m, b⟩
  have c_misses : Cal P w K mg base CX0 6 "misses" P_misses (spMisses K) := by
    obtain ⟨f, fd, F, m, k, b⟩ := d_misses.ex
    exact ⟨f, fd, ok_misses F B  (TB := TF) (c_gone_through := c_gone_through) (c_need_frames := c_need_frames) (c_need_rule := c_need_rule) (c_Frames := c_Frames) (c_Frames_come := c_Frames_come) (c_Frames_inside := c_Frames_inside), m, k, b⟩
  have c_is_integer : Cal P w K mg base CX0 1 "is_integer" P_is_integer (spIsInt) := by
    obtain ⟨f, fd, F, m, k, b⟩ := d_is_integer.ex
    exact ⟨f, fd, ok_is_integer F B  , m, k, b⟩
  have c_owners : Cal P w K mg base CX0 6 "owners" P_owners (spOwners K) := by
    obtain ⟨f, fd, F, m, k, b⟩ := d_owners.ex
    exact ⟨f, fd, ok_owners F B  (TB := TB) (c_gone_through := c_gone_through) (c_is_integer := c_is_integer), m, k, b⟩
  have c_is_figure : Cal P w K mg base CX0 2 "is_figure" P_is_figure (spFig) := by
    obtain ⟨f, fd, F, m, k, b⟩ := d_is_figure.ex
    exact ⟨f, fd, ok_is_figure F B  (c_is_from := c_is_from) (g_MOST_FIGURE := g_MOST_FIGURE), m, k, b⟩
  have c_is_address : Cal P w K mg base CX0 2 "is_address" P_is_address (spAdr) := by
    obtain ⟨f, fd, F, m, k, b⟩ := d_is_address.ex
    exact ⟨f, fd, ok_is_address F B  (c_is_from := c_is_from) (g_CELLS := g_CELLS), m, k, b⟩
  have c_Pages_need_task : MCal P w K mg base CX0 3 C3 "need_task" P_Pages_need_task (spPNeedTask K C C2 C3) := by
    obtain ⟨f, fd, F, m, b⟩ := d_Pages_need_task.ex
    exact ⟨f, fd, ok_Pages_need_task F B  (TB := TB) (TP3 := TP3) (c_Bodies_is_there := c_Bodies_is_there), m, b⟩
  have c_Pages_need_cell : MCal P w K mg base CX0 4 C3 "need_cell" P_Pages_need_cell (spPNeedCell K C C2 C3) := by
    obtain ⟨f, fd, F, m, b⟩ := d_Pages_need_cell.ex
    exact ⟨f, fd, ok_Pages_need_cell F B  (TP3 := TP3) (c_Pages_need_task := c_Pages_need_task) (c_is_address := c_is_address), m, b⟩
  have c_Pages_come : MCal P w K mg base CX0 4 C3 "come" P_Pages_come (spPCome K C C2 C3) := by
    obtain ⟨f, fd, F, m, b⟩ := d_Pages_come.ex
    exact ⟨f, fd, ok_Pages_come F B  (TF := TF) (TP3 := TP3) (c_Frames_come := c_Frames_come), m, b⟩
  have c_Pages_keep : MCal P w K mg base CX0 1 C3 "keep" P_Pages_keep (spPKeep K C C2 C3) := by
    obtain ⟨f, fd, F, m, b⟩ := d_Pages_keep.ex
    exact ⟨f, fd, ok_Pages_keep F B  (TP3 := TP3), m, b⟩
  have c_Pages_load : MCal P w K mg base CX0 5 C3 "load" P_Pages_load (spPLoad K C C2 C3) := by
    obtain ⟨f, fd, F, m, b⟩ := d_Pages_load.ex
    exact ⟨f, fd, ok_Pages_load F B  (TB := TB) (TP3 := TP3) (c_Pages_need_cell := c_Pages_need_cell) (c_Bodies_load := c_Bodies_load) (c_Bodies_body := c_Bodies_body) (c_Pages_come := c_Pages_come) (c_Pages_keep := c_Pages_keep) (m_divmod := m_divmod) (g_IN_SHEET := g_IN_SHEET), m, b⟩
  have c_Pages_store : MCal P w K mg base CX0 5 C3 "store" P_Pages_store (spPStore K C C2 C3) := by
    obtain ⟨f, fd, F, m, b⟩ := d_Pages_store.ex
    exact ⟨f, fd, ok_Pages_store F B  (TB := TB) (TP3 := TP3) (c_Pages_need_cell := c_Pages_need_cell) (c_is_figure := c_is_figure) (c_Bodies_store := c_Bodies_store) (c_Bodies_body := c_Bodies_body) (c_Pages_come := c_Pages_come) (c_Pages_keep := c_Pages_keep) (m_divmod := m_divmod) (g_IN_SHEET := g_IN_SHEET) (g_MAKE := g_MAKE), m, b⟩
  have c_Pages_fork : MCal P w K mg base CX0 4 C3 "fork" P_Pages_fork (spPFork K C C2 C3) := by
    obtain ⟨f, fd, F, m, b⟩ := d_Pages_fork.ex
    exact ⟨f, fd, ok_Pages_fork F B  (TB := TB) (TP3 := TP3) (c_Pages_need_task := c_Pages_need_task) (c_Bodies_can_come := c_Bodies_can_come) (c_Bodies_fork := c_Bodies_fork) (c_Pages_keep := c_Pages_keep), m, b⟩
  have c_Pages_end : MCal P w K mg base CX0 5 C3 "end" P_Pages_end (spPEnd K C C2 C3) := by
    obtain ⟨f, fd, F, m, b⟩ := d_Pages_end.ex
    exact ⟨f, fd, ok_Pages_end F B  (TB := TB) (TP3 := TP3) (c_Pages_need_task := c_Pages_need_task) (c_Bodies_end := c_Bodies_end) (c_Pages_come := c_Pages_come) (c_Pages_keep := c_Pages_keep), m, b⟩
  have c_Pages_memory : MCal P w K mg base CX0 4 C3 "memory" P_Pages_memory (spPMem K C C2 C3) := by
    obtain ⟨f, fd, F, m, b⟩ := d_Pages_memory.ex
    exact ⟨f, fd, ok_Pages_memory F B  (TB := TB) (TP3 := TP3) (c_Pages_need_task := c_Pages_need_task) (g_IN_SHEET := g_IN_SHEET), m, b⟩
  have c_Pages_deeds : MCal P w K mg base CX0 1 C3 "deeds" P_Pages_deeds (spPDeeds K C C2 C3) := by
    obtain ⟨f, fd, F, m, b⟩ := d_Pages_deeds.ex
    exact ⟨f, fd, ok_Pages_deeds F B  (TP3 := TP3), m, b⟩
  have c_Pages_misses : MCal P w K mg base CX0 1 C3 "misses" P_Pages_misses (spPMisses K C C2 C3) := by
    obtain ⟨f, fd, F, m, b⟩ := d_Pages_misses.ex
    exact ⟨f, fd, ok_Pages_misses F B  (TF := TF) (TP3 := TP3), m, b⟩
  have c_Pages_inside : MCal P w K mg base CX0 2 C3 "inside" P_Pages_inside (spPInside K C C2 C3) := by
    obtain ⟨f, fd, F, m, b⟩ := d_Pages_inside.ex
    exact ⟨f, fd, ok_Pages_inside F B  (TF := TF) (TP3 := TP3) (c_Frames_inside := c_Frames_inside), m, b⟩
  have c_Pages_body : MCal P w K mg base CX0 4 C3 "body" P_Pages_body (spPBody K C C2 C3) := by
    obtain ⟨f, fd, F, m, b⟩ := d_Pages_body.ex
    exact ⟨f, fd, ok_Pages_body F B  (TB := TB) (TP3 := TP3) (c_Pages_need_task := c_Pages_need_task) (c_Bodies_body := c_Bodies_body), m, b⟩
  have c_Pages : CCal P w K mg base CX0 6 C3 "Pages" P_Pages___init__ (spPInit K C C2 C3) := by
    obtain ⟨f, fd, F, M, m, b⟩ := d_Pages___init__.ex
    exact ⟨f, fd, ok_Pages___init__ F B  (TB := TB) (TF := TF) (TP3 := TP3) (c_need_frames := c_need_frames) (c_need_rule := c_need_rule) (c_Bodies := c_Bodies) (c_Frames := c_Frames), M, m, b⟩
  have c__law_deck : Cal P w K mg base CX0 1 "_law_deck" P__law_deck (spDeck K) := by
    obtain ⟨f, fd, F, m, k, b⟩ := d__law_deck.ex
    exact ⟨f, fd, ok__law_deck F B  , m, k, b⟩
  have c__law_draw : Cal P w K mg base CX0 1 "_law_draw" P__law_draw (spDraw) := by
    obtain ⟨f, fd, F, m, k, b⟩ := d__law_draw.ex
    exact ⟨f, fd, ok__law_draw F B  , m, k, b⟩
  have c__law_pick : Cal P w K mg base CX0 2 "_law_pick" P__law_pick (spPick K) := by
    obtain ⟨f, fd, F, m, k, b⟩ := d__law_pick.ex
    exact ⟨f, fd, ok__law_pick F B  (c__law_draw := c__law_draw), m, k, b⟩
  have cs0 : Cal P w K mg base CX0 0 "_law_same" P__law_same (spSame K 0) := by
    obtain ⟨f, fd, F, m, k, b⟩ := d__law_same.ex
    exact same_0 m k b
  have cs1 : Cal P w K mg base CX0 1 "_law_same" P__law_same (spSame K 1) := by
    obtain ⟨f, fd, F, m, k, b⟩ := d__law_same.ex
    exact ⟨f, fd, ok__law_same F B (by decide) cs0, m, k, b⟩
  have cs2 : Cal P w K mg base CX0 2 "_law_same" P__law_same (spSame K 2) := by
    obtain ⟨f, fd, F, m, k, b⟩ := d__law_same.ex
    exact ⟨f, fd, ok__law_same F B (by decide) cs1, m, k, b⟩
  have c__law_same : Cal P w K mg base CX0 3 "_law_same" P__law_same (spSame K 3) := by
    obtain ⟨f, fd, F, m, k, b⟩ := d__law_same.ex
    exact ⟨f, fd, ok__law_same F B (by decide) cs2, m, k, b⟩
  have c__law_rule : Cal P w K mg base CX0 3 "_law_rule" P__law_rule (spRule K) := by
    obtain ⟨f, fd, F, m, k, b⟩ := d__law_rule.ex
    exact ⟨f, fd, ok__law_rule F B  (c__law_draw := c__law_draw) (c__law_pick := c__law_pick), m, k, b⟩
  have c__law_address : Cal P w K mg base CX0 3 "_law_address" P__law_address (spAddr) := by
    obtain ⟨f, fd, F, m, k, b⟩ := d__law_address.ex
    exact ⟨f, fd, ok__law_address F B  (c__law_draw := c__law_draw) (c__law_pick := c__law_pick), m, k, b⟩
  have c__law_rows : Cal P w K mg base CX0 1 "_law_rows" P__law_rows (spRowsL K) := by
    obtain ⟨f, fd, F, m, k, b⟩ := d__law_rows.ex
    exact ⟨f, fd, ok__law_rows F B  , m, k, b⟩
  have c__law_call : Cal P w K mg base CX0 5 "_law_call" P__law_call (spCallL K) := by
    obtain ⟨f, fd, F, m, k, b⟩ := d__law_call.ex
    exact ⟨f, fd, ok__law_call F B  (c__law_draw := c__law_draw) (c__law_pick := c__law_pick) (c__law_address := c__law_address), m, k, b⟩
  have c__law_done : Cal P w K mg base CX0 6 "_law_done" P__law_done (spDone13 K C C2 C3) := by
    obtain ⟨f, fd, F, m, k, b⟩ := d__law_done.ex
    exact ⟨f, fd, ok__law_done F B  (TP3 := TP3) (c_Pages_load := c_Pages_load) (c_Pages_store := c_Pages_store) (c_Pages_fork := c_Pages_fork) (c_Pages_end := c_Pages_end), m, k, b⟩
  have c__law_bodies_right : Cal P w K mg base CX0 5 "_law_bodies_right" P__law_bodies_right (spBodR K C C2 C3) := by
    obtain ⟨f, fd, F, m, k, b⟩ := d__law_bodies_right.ex
    exact ⟨f, fd, ok__law_bodies_right F B  (TP3 := TP3) (c_Pages_body := c_Pages_body), m, k, b⟩
  have c__law_asked : Cal P w K mg base CX0 7 "_law_asked" P__law_asked (spAsked K C C2 C3) := by
    obtain ⟨f, fd, F, m, k, b⟩ := d__law_asked.ex
    exact ⟨f, fd, ok__law_asked F B  (TP3 := TP3) (c__law_draw := c__law_draw) (c__law_same := c__law_same) (c__law_rows := c__law_rows) (c__law_bodies_right := c__law_bodies_right) (c_Pages_memory := c_Pages_memory) (c_Pages_deeds := c_Pages_deeds) (c_Pages_misses := c_Pages_misses) (c_Pages_inside := c_Pages_inside) (c_misses := c_misses), m, k, b⟩
  have c__law_owners_right : Cal P w K mg base CX0 7 "_law_owners_right" P__law_owners_right (spOwnR K C C2 C3) := by
    obtain ⟨f, fd, F, m, k, b⟩ := d__law_owners_right.ex
    exact ⟨f, fd, ok__law_owners_right F B  (TP3 := TP3) (c__law_same := c__law_same) (c_Pages_body := c_Pages_body) (c_owners := c_owners), m, k, b⟩
  exact ok_law F B  (TP3 := TP3) (c__law_deck := c__law_deck) (c__law_draw := c__law_draw) (c__law_rule := c__law_rule) (c_Pages := c_Pages) (c__law_call := c__law_call) (c__law_done := c__law_done) (c__law_same := c__law_same) (c__law_asked := c__law_asked) (c__law_owners_right := c__law_owners_right)
theorem gv_int {K : PySem.W.Frag} {h : Heap} {mg : Str → Option Value} {x : Str} {i : Int} {t : Tok} (X : K.In h) (G : h.Ns mainGlobals mg) (a : PySem.W.nsIn K mainGlobals x = some (some (.int i t))) : GV mg x (.int i) := ⟨_, PySem.W.mg_of X G a, t, rfl⟩
theorem gv_str {K : PySem.W.Frag} {h : Heap} {mg : Str → Option Value} {x y : Str} {t : Tok} (X : K.In h) (G : h.Ns mainGlobals mg) (a : PySem.W.nsIn K mainGlobals x = some (some (.str y t))) : GV mg x (.str y) := ⟨_, PySem.W.mg_of X G a, t, rfl⟩
theorem cls_Bodies {K : PySem.W.Frag} {C : Addr} (pg : PySem.W.plainGet K C Str.empty = true) (hd : PySem.W.hasDictIn K C = true) (po : PySem.W.plainOver K C = true) (sa : PySem.W.findIn K (.ref C) "__setattr__" = some (some (.builtin "object.__setattr__"))) (n0 : PySem.W.findIn K (.ref C) "sheets" = some none) (n1 : PySem.W.findIn K (.ref C) "shares" = some none) (n2 : PySem.W.findIn K (.ref C) "next_body" = some none) (n3 : PySem.W.findIn K (.ref C) "met" = some none) : BoC K C := ⟨⟨pg, hd, po, sa⟩, n0, n1, n2, n3⟩
theorem cls_Frames {K : PySem.W.Frag} {C : Addr} (pg : PySem.W.plainGet K C Str.empty = true) (hd : PySem.W.hasDictIn K C = true) (po : PySem.W.plainOver K C = true) (sa : PySem.W.findIn K (.ref C) "__setattr__" = some (some (.builtin "object.__setattr__"))) (n0 : PySem.W.findIn K (.ref C) "places" = some none) (n1 : PySem.W.findIn K (.ref C) "rule" = some none) (n2 : PySem.W.findIn K (.ref C) "row" = some none) (n3 : PySem.W.findIn K (.ref C) "marked" = some none) (n4 : PySem.W.findIn K (.ref C) "missed" = some none) (n5 : PySem.W.findIn K (.ref C) "left" = some none) : FrC K C := ⟨⟨pg, hd, po, sa⟩, n0, n1, n2, n3, n4, n5⟩
theorem cls_Pages {K : PySem.W.Frag} {C : Addr} (pg : PySem.W.plainGet K C Str.empty = true) (hd : PySem.W.hasDictIn K C = true) (po : PySem.W.plainOver K C = true) (sa : PySem.W.findIn K (.ref C) "__setattr__" = some (some (.builtin "object.__setattr__"))) (n0 : PySem.W.findIn K (.ref C) "bodies" = some none) (n1 : PySem.W.findIn K (.ref C) "present" = some none) (n2 : PySem.W.findIn K (.ref C) "figures" = some none) (n3 : PySem.W.findIn K (.ref C) "past" = some none) (n4 : PySem.W.findIn K (.ref C) "on_sheets" = some none) : PgC K C := ⟨⟨pg, hd, po, sa⟩, n0, n1, n2, n3, n4⟩
theorem blt_at {K : PySem.W.Frag} {h : Heap} {mg : Str → Option Value} (X : K.In h) (G : h.Ns mainGlobals mg) (z_len : PySem.W.nsIn K mainGlobals "len" = some none) (z_int : PySem.W.nsIn K mainGlobals "int" = some none) (z_bool : PySem.W.nsIn K mainGlobals "bool" = some none) (z_str : PySem.W.nsIn K mainGlobals "str" = some none) (z_list : PySem.W.nsIn K mainGlobals "list" = some none) (z_tuple : PySem.W.nsIn K mainGlobals "tuple" = some none) (z_dict : PySem.W.nsIn K mainGlobals "dict" = some none) (z_isinstance : PySem.W.nsIn K mainGlobals "isinstance" = some none) (z_abs : PySem.W.nsIn K mainGlobals "abs" = some none) (z_max : PySem.W.nsIn K mainGlobals "max" = some none) (z_min : PySem.W.nsIn K mainGlobals "min" = some none) (z_all : PySem.W.nsIn K mainGlobals "all" = some none) (z_sorted : PySem.W.nsIn K mainGlobals "sorted" = some none) (z_range : PySem.W.nsIn K mainGlobals "range" = some none) (z_enumerate : PySem.W.nsIn K mainGlobals "enumerate" = some none) (z_zip : PySem.W.nsIn K mainGlobals "zip" = some none) : Blt mg := ⟨PySem.W.mg_none_of X G z_len, PySem.W.mg_none_of X G z_int, PySem.W.mg_none_of X G z_bool, PySem.W.mg_none_of X G z_str, PySem.W.mg_none_of X G z_list, PySem.W.mg_none_of X G z_tuple, PySem.W.mg_none_of X G z_dict, PySem.W.mg_none_of X G z_isinstance, PySem.W.mg_none_of X G z_abs, PySem.W.mg_none_of X G z_max, PySem.W.mg_none_of X G z_min, PySem.W.mg_none_of X G z_all, PySem.W.mg_none_of X G z_sorted, PySem.W.mg_none_of X G z_range, PySem.W.mg_none_of X G z_enumerate, PySem.W.mg_none_of X G z_zip⟩
theorem walk {l : PySem.W.OpenLaw} {q : Program} {loose : List Str} {XP : (Str → Option Value) → Heap → Prop} {YP : World → Heap → Prop} {d : DefRec} {K : Params → PySem.W.Frag} (hn : l.most = some 63) (hdf : d.params.defaults = [])
    (hY : ∀ (w : World) (h : Heap), YP w h → (K w.params).In h)
    (F : ∀ (w : World) (mg : Str → Option Value) (fa : Addr) (h : Heap), (K w.params).In h → h.Ns mainGlobals mg → mg d.name = some (.ref fa) →
      ∃ fd : FuncData, (∀ (s : Shared) (u : Value), BindsTo s fd ⟨[u], []⟩ [("script", u)]) ∧ ∀ base : Heap, (K w.params).In base → base.Ns mainGlobals mg → FnOk l.prog w (K w.params) mg base CX0 9 fa fd ["script"] (spLawK13 (K w.params))) :
    PySem.W.WalkO q loose XP YP l.row.toRowW d [] (fun f vs => PySem.call f vs) :=
  L2.walk_of (n := 63) (k := 9) (x := "script") (CX := fun _ => CX0) (sp := fun w => spLawK13 (K w.params)) hn (by decide) hdf ⟨rfl, by decide, by decide⟩ hY F (fun _ _ a ns hl _ hS => ⟨a, ns, rfl, hS, hl, fun _ => rfl⟩) fun _ _ _ _ _ z => z
theorem law_at {P : Program} {w : World} {K : PySem.W.Frag} {h : Heap} {mg : Str → Option Value} {fa f : Addr} {od an : Option Addr} {sl : Array (Option Value)} {oc kV dc pm cd ct : Value} (X : K.In h) (G : h.Ns mainGlobals mg) (hfa : mg "law" = some (.ref fa)) (a : PySem.W.nsIn K mainGlobals "law" = some (some (.ref f))) (l : K.lookup f = some ⟨oc, od, .func (PySem.W.fnOf "law" "law" (defArgs s_law) (defBody s_law) (defScope s_law) .none kV dc pm an cd ct), sl⟩) (c : PySem.W.codeIn K cd "law" = true) (k : PySem.W.keepIn K (.ref f) = true)
    (ok : ∀ (base : Heap) {fd : FuncData}, Fun K "law" "law" s_law f fd → FnOk P w K mg base CX0 9 f fd P_law (spLawK13 K)) :
    ∃ fd : FuncData, (∀ (s : Shared) (u : Value), BindsTo s fd ⟨[u], []⟩ [("script", u)]) ∧ ∀ base : Heap, K.In base → base.Ns mainGlobals mg → FnOk P w K mg base CX0 9 fa fd ["script"] (spLawK13 K) := by
  have e := hfa.symm.trans (PySem.W.mg_of X G a)
  cases e
  exact ⟨_, fun s v => .of_eq rfl, fun base _ _ => ok base (fun_mk l c k)⟩
theorem all_mk {P : Program} {w : World} {K : PySem.W.Frag} {h : Heap} {mg : Str → Option Value} {fa : Addr} (X : K.In h) (G : h.Ns mainGlobals mg) (hfa : mg "law" = some (.ref fa))
    {C : Addr}
    {C2 : Addr}
    {C3 : Addr}
    {f0 : Addr} {od0 an0 : Option Addr} {sl0 : Array (Option Value)} {oc0 kV0 dc0 pm0 cd0 ct0 : Value}
    {f1 : Addr} {od1 an1 : Option Addr} {sl1 : Array (Option Value)} {oc1 kV1 dc1 pm1 cd1 ct1 : Value}
    {f2 : Addr} {od2 an2 : Option Addr} {sl2 : Array (Option Value)} {oc2 kV2 dc2 pm2 cd2 ct2 : Value}
    {f3 : Addr} {od3 an3 : Option Addr} {sl3 : Array (Option Value)} {oc3 kV3 dc3 pm3 cd3 ct3 : Value}
    {f4 : Addr} {od4 an4 : Option Addr} {sl4 : Array (Option Value)} {oc4 kV4 dc4 pm4 cd4 ct4 : Value}
    {f5 : Addr} {od5 an5 : Option Addr} {sl5 : Array (Option Value)} {oc5 kV5 dc5 pm5 cd5 ct5 : Value}
    {f6 : Addr} {od6 an6 : Option Addr} {sl6 : Array (Option Value)} {oc6 kV6 dc6 pm6 cd6 ct6 : Value}
    {f7 : Addr} {od7 an7 : Option Addr} {sl7 : Array (Option Value)} {oc7 kV7 dc7 pm7 cd7 ct7 : Value}
    {f8 : Addr} {od8 an8 : Option Addr} {sl8 : Array (Option Value)} {oc8 kV8 dc8 pm8 cd8 ct8 : Value}
    {f9 : Addr} {od9 an9 : Option Addr} {sl9 : Array (Option Value)} {oc9 kV9 dc9 pm9 cd9 ct9 : Value}
    {f10 : Addr} {od10 an10 : Option Addr} {sl10 : Array (Option Value)} {oc10 kV10 dc10 pm10 cd10 ct10 : Value}
    {f11 : Addr} {od11 an11 : Option Addr} {sl11 : Array (Option Value)} {oc11 kV11 dc11 pm11 cd11 ct11 : Value}
    {f12 : Addr} {od12 an12 : Option Addr} {sl12 : Array (Option Value)} {oc12 kV12 dc12 pm12 cd12 ct12 : Value}
    {f13 : Addr} {od13 an13 : Option Addr} {sl13 : Array (Option Value)} {oc13 kV13 dc13 pm13 cd13 ct13 : Value}
    {f14 : Addr} {od14 an14 : Option Addr} {sl14 : Array (Option Value)} {oc14 kV14 dc14 pm14 cd14 ct14 : Value}
    {f15 : Addr} {od15 an15 : Option Addr} {sl15 : Array (Option Value)} {oc15 kV15 dc15 pm15 cd15 ct15 : Value}
    {f16 : Addr} {od16 an16 : Option Addr} {sl16 : Array (Option Value)} {oc16 kV16 dc16 pm16 cd16 ct16 : Value}
    {f17 : Addr} {od17 an17 : Option Addr} {sl17 : Array (Option Value)} {oc17 kV17 dc17 pm17 cd17 ct17 : Value}
    {f18 : Addr} {od18 an18 : Option Addr} {sl18 : Array (Option Value)} {oc18 kV18 dc18 pm18 cd18 ct18 : Value}
    {f19 : Addr} {od19 an19 : Option Addr} {sl19 : Array (Option Value)} {oc19 kV19 dc19 pm19 cd19 ct19 : Value}
    {f20 : Addr} {od20 an20 : Option Addr} {sl20 : Array (Option Value)} {oc20 kV20 dc20 pm20 cd20 ct20 : Value}
    {f21 : Addr} {od21 an21 : Option Addr} {sl21 : Array (Option Value)} {oc21 kV21 dc21 pm21 cd21 ct21 : Value}
    {f22 : Addr} {od22 an22 : Option Addr} {sl22 : Array (Option Value)} {oc22 kV22 dc22 pm22 cd22 ct22 : Value}
    {f23 : Addr} {od23 an23 : Option Addr} {sl23 : Array (Option Value)} {oc23 kV23 dc23 pm23 cd23 ct23 : Value}
    {f24 : Addr} {od24 an24 : Option Addr} {sl24 : Array (Option Value)} {oc24 kV24 dc24 pm24 cd24 ct24 : Value}
    {f25 : Addr} {od25 an25 : Option Addr} {sl25 : Array (Option Value)} {oc25 kV25 dc25 pm25 cd25 ct25 : Value}
    {f26 : Addr} {od26 an26 : Option Addr} {sl26 : Array (Option Value)} {oc26 kV26 dc26 pm26 cd26 ct26 : Value}
    {f27 : Addr} {od27 an27 : Option Addr} {sl27 : Array (Option Value)} {oc27 kV27 dc27 pm27 cd27 ct27 : Value}
    {f28 : Addr} {od28 an28 : Option Addr} {sl28 : Array (Option Value)} {oc28 kV28 dc28 pm28 cd28 ct28 : Value}
    {f29 : Addr} {od29 an29 : Option Addr} {sl29 : Array (Option Value)} {oc29 kV29 dc29 pm29 cd29 ct29 : Value}
    {f30 : Addr} {od30 an30 : Option Addr} {sl30 : Array (Option Value)} {oc30 kV30 dc30 pm30 cd30 ct30 : Value}
    {f31 : Addr} {od31 an31 : Option Addr} {sl31 : Array (Option Value)} {oc31 kV31 dc31 pm31 cd31 ct31 : Value}
    {f32 : Addr} {od32 an32 : Option Addr} {sl32 : Array (Option Value)} {oc32 kV32 dc32 pm32 cd32 ct32 : Value}
    {f33 : Addr} {od33 an33 : Option Addr} {sl33 : Array (Option Value)} {oc33 kV33 dc33 pm33 cd33 ct33 : Value}
    {f34 : Addr} {od34 an34 : Option Addr} {sl34 : Array (Option Value)} {oc34 kV34 dc34 pm34 cd34 ct34 : Value}
    {f35 : Addr} {od35 an35 : Option Addr} {sl35 : Array (Option Value)} {oc35 kV35 dc35 pm35 cd35 ct35 : Value}
    {f36 : Addr} {od36 an36 : Option Addr} {sl36 : Array (Option Value)} {oc36 kV36 dc36 pm36 cd36 ct36 : Value}
    {f37 : Addr} {od37 an37 : Option Addr} {sl37 : Array (Option Value)} {oc37 kV37 dc37 pm37 cd37 ct37 : Value}
    {f38 : Addr} {od38 an38 : Option Addr} {sl38 : Array (Option Value)} {oc38 kV38 dc38 pm38 cd38 ct38 : Value}
    {f39 : Addr} {od39 an39 : Option Addr} {sl39 : Array (Option Value)} {oc39 kV39 dc39 pm39 cd39 ct39 : Value}
    {f40 : Addr} {od40 an40 : Option Addr} {sl40 : Array (Option Value)} {oc40 kV40 dc40 pm40 cd40 ct40 : Value}
    {f41 : Addr} {od41 an41 : Option Addr} {sl41 : Array (Option Value)} {oc41 kV41 dc41 pm41 cd41 ct41 : Value}
    {f42 : Addr} {od42 an42 : Option Addr} {sl42 : Array (Option Value)} {oc42 kV42 dc42 pm42 cd42 ct42 : Value}
    {f43 : Addr} {od43 an43 : Option Addr} {sl43 : Array (Option Value)} {oc43 kV43 dc43 pm43 cd43 ct43 : Value}
    {f44 : Addr} {od44 an44 : Option Addr} {sl44 : Array (Option Value)} {oc44 kV44 dc44 pm44 cd44 ct44 : Value}
    {f45 : Addr} {od45 an45 : Option Addr} {sl45 : Array (Option Value)} {oc45 kV45 dc45 pm45 cd45 ct45 : Value}
    {f46 : Addr} {od46 an46 : Option Addr} {sl46 : Array (Option Value)} {oc46 kV46 dc46 pm46 cd46 ct46 : Value}
    {f47 : Addr} {od47 an47 : Option Addr} {sl47 : Array (Option Value)} {oc47 kV47 dc47 pm47 cd47 ct47 : Value}
    {f48 : Addr} {od48 an48 : Option Addr} {sl48 : Array (Option Value)} {oc48 kV48 dc48 pm48 cd48 ct48 : Value}
    {f49 : Addr} {od49 an49 : Option Addr} {sl49 : Array (Option Value)} {oc49 kV49 dc49 pm49 cd49 ct49 : Value}
    {f50 : Addr} {od50 an50 : Option Addr} {sl50 : Array (Option Value)} {oc50 kV50 dc50 pm50 cd50 ct50 : Value}
    {f51 : Addr} {od51 an51 : Option Addr} {sl51 : Array (Option Value)} {oc51 kV51 dc51 pm51 cd51 ct51 : Value}
    {f52 : Addr} {od52 an52 : Option Addr} {sl52 : Array (Option Value)} {oc52 kV52 dc52 pm52 cd52 ct52 : Value}
    {f53 : Addr} {od53 an53 : Option Addr} {sl53 : Array (Option Value)} {oc53 kV53 dc53 pm53 cd53 ct53 : Value}
    {f54 : Addr} {od54 an54 : Option Addr} {sl54 : Array (Option Value)} {oc54 kV54 dc54 pm54 cd54 ct54 : Value}
    {f55 : Addr} {od55 an55 : Option Addr} {sl55 : Array (Option Value)} {oc55 kV55 dc55 pm55 cd55 ct55 : Value}
    {f56 : Addr} {od56 an56 : Option Addr} {sl56 : Array (Option Value)} {oc56 kV56 dc56 pm56 cd56 ct56 : Value}
    {t_CELLS : Tok}
    {t_CLOCK : Tok}
    {t_FIRST : Tok}
    {t_FIRST_TASK : Tok}
    {t_GONE : Tok}
    {t_IN_SHEET : Tok}
    {t_LONGEST : Tok}
    {t_LOOK : Tok}
    {t_MAKE : Tok}
    {t_MOST_CHOICES : Tok}
    {t_MOST_DEEDS : Tok}
    {t_MOST_FIGURE : Tok}
    {t_MOST_FRAMES : Tok}
    {t_MOST_TASKS : Tok}
    {t_SHEETS : Tok}
    {t_TOLD : Tok}
    (aC_Bodies : PySem.W.nsIn K mainGlobals "Bodies" = some (some (.ref C)))
    (pg_Bodies : PySem.W.plainGet K C Str.empty = true)
    (hd_Bodies : PySem.W.hasDictIn K C = true)
    (po_Bodies : PySem.W.plainOver K C = true)
    (sa_Bodies : PySem.W.findIn K (.ref C) "__setattr__" = some (some (.builtin "object.__setattr__")))
    (n0_Bodies : PySem.W.findIn K (.ref C) "sheets" = some none)
    (n1_Bodies : PySem.W.findIn K (.ref C) "shares" = some none)
    (n2_Bodies : PySem.W.findIn K (.ref C) "next_body" = some none)
    (n3_Bodies : PySem.W.findIn K (.ref C) "met" = some none)
    (mk_Bodies : PySem.W.makesIn K C = true)
    (kc_Bodies : PySem.W.keepIn K (.ref C) = true)
    (aC_Frames : PySem.W.nsIn K mainGlobals "Frames" = some (some (.ref C2)))
    (pg_Frames : PySem.W.plainGet K C2 Str.empty = true)
    (hd_Frames : PySem.W.hasDictIn K C2 = true)
    (po_Frames : PySem.W.plainOver K C2 = true)
    (sa_Frames : PySem.W.findIn K (.ref C2) "__setattr__" = some (some (.builtin "object.__setattr__")))
    (n0_Frames : PySem.W.findIn K (.ref C2) "places" = some none)
    (n1_Frames : PySem.W.findIn K (.ref C2) "rule" = some none)
    (n2_Frames : PySem.W.findIn K (.ref C2) "row" = some none)
    (n3_Frames : PySem.W.findIn K (.ref C2) "marked" = some none)
    (n4_Frames : PySem.W.findIn K (.ref C2) "missed" = some none)
    (n5_Frames : PySem.W.findIn K (.ref C2) "left" = some none)
    (mk_Frames : PySem.W.makesIn K C2 = true)
    (kc_Frames : PySem.W.keepIn K (.ref C2) = true)
    (aC_Pages : PySem.W.nsIn K mainGlobals "Pages" = some (some (.ref C3)))
    (pg_Pages : PySem.W.plainGet K C3 Str.empty = true)
    (hd_Pages : PySem.W.hasDictIn K C3 = true)
    (po_Pages : PySem.W.plainOver K C3 = true)
    (sa_Pages : PySem.W.findIn K (.ref C3) "__setattr__" = some (some (.builtin "object.__setattr__")))
    (n0_Pages : PySem.W.findIn K (.ref C3) "bodies" = some none)
    (n1_Pages : PySem.W.findIn K (.ref C3) "present" = some none)
    (n2_Pages : PySem.W.findIn K (.ref C3) "figures" = some none)
    (n3_Pages : PySem.W.findIn K (.ref C3) "past" = some none)
    (n4_Pages : PySem.W.findIn K (.ref C3) "on_sheets" = some none)
    (mk_Pages : PySem.W.makesIn K C3 = true)
    (kc_Pages : PySem.W.keepIn K (.ref C3) = true)
    (a0 : PySem.W.nsIn K mainGlobals "is_from" = some (some (.ref f0)))
    (l0 : K.lookup f0 = some ⟨oc0, od0, .func (PySem.W.fnOf "is_from" "is_from" (defArgs s_is_from) (defBody s_is_from) (defScope s_is_from) .none kV0 dc0 pm0 an0 cd0 ct0), sl0⟩)
    (c0 : PySem.W.codeIn K cd0 "is_from" = true)
    (k0 : PySem.W.keepIn K (.ref f0) = true)
    (a1 : PySem.W.nsIn K mainGlobals "is_tuple" = some (some (.ref f1)))
    (l1 : K.lookup f1 = some ⟨oc1, od1, .func (PySem.W.fnOf "is_tuple" "is_tuple" (defArgs s_is_tuple) (defBody s_is_tuple) (defScope s_is_tuple) .none kV1 dc1 pm1 an1 cd1 ct1), sl1⟩)
    (c1 : PySem.W.codeIn K cd1 "is_tuple" = true)
    (k1 : PySem.W.keepIn K (.ref f1) = true)
    (a2 : PySem.W.findIn K (.ref C) "is_there" = some (some (.ref f2)))
    (i2 : PySem.W.isFn K (.ref f2) = true)
    (l2 : K.lookup f2 = some ⟨oc2, od2, .func (PySem.W.fnOf "is_there" "Bodies.is_there" (defArgs s_Bodies_is_there) (defBody s_Bodies_is_there) (defScope s_Bodies_is_there) .none kV2 dc2 pm2 an2 cd2 ct2), sl2⟩)
    (c2 : PySem.W.codeIn K cd2 "Bodies.is_there" = true)
    (k2 : PySem.W.keepIn K (.ref f2) = true)
    (a3 : PySem.W.findIn K (.ref C) "can_come" = some (some (.ref f3)))
    (i3 : PySem.W.isFn K (.ref f3) = true)
    (l3 : K.lookup f3 = some ⟨oc3, od3, .func (PySem.W.fnOf "can_come" "Bodies.can_come" (defArgs s_Bodies_can_come) (defBody s_Bodies_can_come) (defScope s_Bodies_can_come) .none kV3 dc3 pm3 an3 cd3 ct3), sl3⟩)
    (c3 : PySem.W.codeIn K cd3 "Bodies.can_come" = true)
    (k3 : PySem.W.keepIn K (.ref f3) = true)
    (a4 : PySem.W.findIn K (.ref C) "body" = some (some (.ref f4)))
    (i4 : PySem.W.isFn K (.ref f4) = true)
    (l4 : K.lookup f4 = some ⟨oc4, od4, .func (PySem.W.fnOf "body" "Bodies.body" (defArgs s_Bodies_body) (defBody s_Bodies_body) (defScope s_Bodies_body) .none kV4 dc4 pm4 an4 cd4 ct4), sl4⟩)
    (c4 : PySem.W.codeIn K cd4 "Bodies.body" = true)
    (k4 : PySem.W.keepIn K (.ref f4) = true)
    (a5 : PySem.W.findIn K (.ref C) "with_body" = some (some (.ref f5)))
    (i5 : PySem.W.isFn K (.ref f5) = true)
    (l5 : K.lookup f5 = some ⟨oc5, od5, .func (PySem.W.fnOf "with_body" "Bodies.with_body" (defArgs s_Bodies_with_body) (defBody s_Bodies_with_body) (defScope s_Bodies_with_body) .none kV5 dc5 pm5 an5 cd5 ct5), sl5⟩)
    (c5 : PySem.W.codeIn K cd5 "Bodies.with_body" = true)
    (k5 : PySem.W.keepIn K (.ref f5) = true)
    (a6 : PySem.W.findIn K (.ref C) "load" = some (some (.ref f6)))
    (i6 : PySem.W.isFn K (.ref f6) = true)
    (l6 : K.lookup f6 = some ⟨oc6, od6, .func (PySem.W.fnOf "load" "Bodies.load" (defArgs s_Bodies_load) (defBody s_Bodies_load) (defScope s_Bodies_load) .none kV6 dc6 pm6 an6 cd6 ct6), sl6⟩)
    (c6 : PySem.W.codeIn K cd6 "Bodies.load" = true)
    (k6 : PySem.W.keepIn K (.ref f6) = true)
    (a7 : PySem.W.findIn K (.ref C) "store" = some (some (.ref f7)))
    (i7 : PySem.W.isFn K (.ref f7) = true)
    (l7 : K.lookup f7 = some ⟨oc7, od7, .func (PySem.W.fnOf "store" "Bodies.store" (defArgs s_Bodies_store) (defBody s_Bodies_store) (defScope s_Bodies_store) .none kV7 dc7 pm7 an7 cd7 ct7), sl7⟩)
    (c7 : PySem.W.codeIn K cd7 "Bodies.store" = true)
    (k7 : PySem.W.keepIn K (.ref f7) = true)
    (a8 : PySem.W.findIn K (.ref C) "fork" = some (some (.ref f8)))
    (i8 : PySem.W.isFn K (.ref f8) = true)
    (l8 : K.lookup f8 = some ⟨oc8, od8, .func (PySem.W.fnOf "fork" "Bodies.fork" (defArgs s_Bodies_fork) (defBody s_Bodies_fork) (defScope s_Bodies_fork) .none kV8 dc8 pm8 an8 cd8 ct8), sl8⟩)
    (c8 : PySem.W.codeIn K cd8 "Bodies.fork" = true)
    (k8 : PySem.W.keepIn K (.ref f8) = true)
    (a9 : PySem.W.findIn K (.ref C) "end" = some (some (.ref f9)))
    (i9 : PySem.W.isFn K (.ref f9) = true)
    (l9 : K.lookup f9 = some ⟨oc9, od9, .func (PySem.W.fnOf "end" "Bodies.end" (defArgs s_Bodies_end) (defBody s_Bodies_end) (defScope s_Bodies_end) .none kV9 dc9 pm9 an9 cd9 ct9), sl9⟩)
    (c9 : PySem.W.codeIn K cd9 "Bodies.end" = true)
    (k9 : PySem.W.keepIn K (.ref f9) = true)
    (a10 : PySem.W.findIn K (.ref C) "done" = some (some (.ref f10)))
    (i10 : PySem.W.isFn K (.ref f10) = true)
    (l10 : K.lookup f10 = some ⟨oc10, od10, .func (PySem.W.fnOf "done" "Bodies.done" (defArgs s_Bodies_done) (defBody s_Bodies_done) (defScope s_Bodies_done) .none kV10 dc10 pm10 an10 cd10 ct10), sl10⟩)
    (c10 : PySem.W.codeIn K cd10 "Bodies.done" = true)
    (k10 : PySem.W.keepIn K (.ref f10) = true)
    (a11 : PySem.W.findIn K (.ref C) "__init__" = some (some (.ref f11)))
    (i11 : PySem.W.isFn K (.ref f11) = true)
    (l11 : K.lookup f11 = some ⟨oc11, od11, .func (PySem.W.fnOf "__init__" "Bodies.__init__" (defArgs s_Bodies___init__) (defBody s_Bodies___init__) (defScope s_Bodies___init__) .none kV11 dc11 pm11 an11 cd11 ct11), sl11⟩)
    (c11 : PySem.W.codeIn K cd11 "Bodies.__init__" = true)
    (k11 : PySem.W.keepIn K (.ref f11) = true)
    (a12 : PySem.W.nsIn K mainGlobals "is_deed" = some (some (.ref f12)))
    (l12 : K.lookup f12 = some ⟨oc12, od12, .func (PySem.W.fnOf "is_deed" "is_deed" (defArgs s_is_deed) (defBody s_is_deed) (defScope s_is_deed) .none kV12 dc12 pm12 an12 cd12 ct12), sl12⟩)
    (c12 : PySem.W.codeIn K cd12 "is_deed" = true)
    (k12 : PySem.W.keepIn K (.ref f12) = true)
    (a13 : PySem.W.nsIn K mainGlobals "gone_through" = some (some (.ref f13)))
    (l13 : K.lookup f13 = some ⟨oc13, od13, .func (PySem.W.fnOf "gone_through" "gone_through" (defArgs s_gone_through) (defBody s_gone_through) (defScope s_gone_through) .none kV13 dc13 pm13 an13 cd13 ct13), sl13⟩)
    (c13 : PySem.W.codeIn K cd13 "gone_through" = true)
    (k13 : PySem.W.keepIn K (.ref f13) = true)
    (a14 : PySem.W.nsIn K mainGlobals "need_frames" = some (some (.ref f14)))
    (l14 : K.lookup f14 = some ⟨oc14, od14, .func (PySem.W.fnOf "need_frames" "need_frames" (defArgs s_need_frames) (defBody s_need_frames) (defScope s_need_frames) .none kV14 dc14 pm14 an14 cd14 ct14), sl14⟩)
    (c14 : PySem.W.codeIn K cd14 "need_frames" = true)
    (k14 : PySem.W.keepIn K (.ref f14) = true)
    (a15 : PySem.W.nsIn K mainGlobals "are_choices" = some (some (.ref f15)))
    (l15 : K.lookup f15 = some ⟨oc15, od15, .func (PySem.W.fnOf "are_choices" "are_choices" (defArgs s_are_choices) (defBody s_are_choices) (defScope s_are_choices) .none kV15 dc15 pm15 an15 cd15 ct15), sl15⟩)
    (c15 : PySem.W.codeIn K cd15 "are_choices" = true)
    (k15 : PySem.W.keepIn K (.ref f15) = true)
    (a16 : PySem.W.nsIn K mainGlobals "is_rule" = some (some (.ref f16)))
    (l16 : K.lookup f16 = some ⟨oc16, od16, .func (PySem.W.fnOf "is_rule" "is_rule" (defArgs s_is_rule) (defBody s_is_rule) (defScope s_is_rule) .none kV16 dc16 pm16 an16 cd16 ct16), sl16⟩)
    (c16 : PySem.W.codeIn K cd16 "is_rule" = true)
    (k16 : PySem.W.keepIn K (.ref f16) = true)
    (a17 : PySem.W.nsIn K mainGlobals "need_rule" = some (some (.ref f17)))
    (l17 : K.lookup f17 = some ⟨oc17, od17, .func (PySem.W.fnOf "need_rule" "need_rule" (defArgs s_need_rule) (defBody s_need_rule) (defScope s_need_rule) .none kV17 dc17 pm17 an17 cd17 ct17), sl17⟩)
    (c17 : PySem.W.codeIn K cd17 "need_rule" = true)
    (k17 : PySem.W.keepIn K (.ref f17) = true)
    (a18 : PySem.W.findIn K (.ref C2) "__init__" = some (some (.ref f18)))
    (i18 : PySem.W.isFn K (.ref f18) = true)
    (l18 : K.lookup f18 = some ⟨oc18, od18, .func (PySem.W.fnOf "__init__" "Frames.__init__" (defArgs s_Frames___init__) (defBody s_Frames___init__) (defScope s_Frames___init__) .none kV18 dc18 pm18 an18 cd18 ct18), sl18⟩)
    (c18 : PySem.W.codeIn K cd18 "Frames.__init__" = true)
    (k18 : PySem.W.keepIn K (.ref f18) = true)
    (a19 : PySem.W.findIn K (.ref C2) "inside" = some (some (.ref f19)))
    (i19 : PySem.W.isFn K (.ref f19) = true)
    (l19 : K.lookup f19 = some ⟨oc19, od19, .func (PySem.W.fnOf "inside" "Frames.inside" (defArgs s_Frames_inside) (defBody s_Frames_inside) (defScope s_Frames_inside) .none kV19 dc19 pm19 an19 cd19 ct19), sl19⟩)
    (c19 : PySem.W.codeIn K cd19 "Frames.inside" = true)
    (k19 : PySem.W.keepIn K (.ref f19) = true)
    (a20 : PySem.W.findIn K (.ref C2) "chosen" = some (some (.ref f20)))
    (i20 : PySem.W.isFn K (.ref f20) = true)
    (l20 : K.lookup f20 = some ⟨oc20, od20, .func (PySem.W.fnOf "chosen" "Frames.chosen" (defArgs s_Frames_chosen) (defBody s_Frames_chosen) (defScope s_Frames_chosen) .none kV20 dc20 pm20 an20 cd20 ct20), sl20⟩)
    (c20 : PySem.W.codeIn K cd20 "Frames.chosen" = true)
    (k20 : PySem.W.keepIn K (.ref f20) = true)
    (a21 : PySem.W.findIn K (.ref C2) "put_out" = some (some (.ref f21)))
    (i21 : PySem.W.isFn K (.ref f21) = true)
    (l21 : K.lookup f21 = some ⟨oc21, od21, .func (PySem.W.fnOf "put_out" "Frames.put_out" (defArgs s_Frames_put_out) (defBody s_Frames_put_out) (defScope s_Frames_put_out) .none kV21 dc21 pm21 an21 cd21 ct21), sl21⟩)
    (c21 : PySem.W.codeIn K cd21 "Frames.put_out" = true)
    (k21 : PySem.W.keepIn K (.ref f21) = true)
    (a22 : PySem.W.findIn K (.ref C2) "look" = some (some (.ref f22)))
    (i22 : PySem.W.isFn K (.ref f22) = true)
    (l22 : K.lookup f22 = some ⟨oc22, od22, .func (PySem.W.fnOf "look" "Frames.look" (defArgs s_Frames_look) (defBody s_Frames_look) (defScope s_Frames_look) .none kV22 dc22 pm22 an22 cd22 ct22), sl22⟩)
    (c22 : PySem.W.codeIn K cd22 "Frames.look" = true)
    (k22 : PySem.W.keepIn K (.ref f22) = true)
    (a23 : PySem.W.findIn K (.ref C2) "leave" = some (some (.ref f23)))
    (i23 : PySem.W.isFn K (.ref f23) = true)
    (l23 : K.lookup f23 = some ⟨oc23, od23, .func (PySem.W.fnOf "leave" "Frames.leave" (defArgs s_Frames_leave) (defBody s_Frames_leave) (defScope s_Frames_leave) .none kV23 dc23 pm23 an23 cd23 ct23), sl23⟩)
    (c23 : PySem.W.codeIn K cd23 "Frames.leave" = true)
    (k23 : PySem.W.keepIn K (.ref f23) = true)
    (a24 : PySem.W.findIn K (.ref C2) "come" = some (some (.ref f24)))
    (i24 : PySem.W.isFn K (.ref f24) = true)
    (l24 : K.lookup f24 = some ⟨oc24, od24, .func (PySem.W.fnOf "come" "Frames.come" (defArgs s_Frames_come) (defBody s_Frames_come) (defScope s_Frames_come) .none kV24 dc24 pm24 an24 cd24 ct24), sl24⟩)
    (c24 : PySem.W.codeIn K cd24 "Frames.come" = true)
    (k24 : PySem.W.keepIn K (.ref f24) = true)
    (a25 : PySem.W.nsIn K mainGlobals "misses" = some (some (.ref f25)))
    (l25 : K.lookup f25 = some ⟨oc25, od25, .func (PySem.W.fnOf "misses" "misses" (defArgs s_misses) (defBody s_misses) (defScope s_misses) .none kV25 dc25 pm25 an25 cd25 ct25), sl25⟩)
    (c25 : PySem.W.codeIn K cd25 "misses" = true)
    (k25 : PySem.W.keepIn K (.ref f25) = true)
    (a26 : PySem.W.nsIn K mainGlobals "is_integer" = some (some (.ref f26)))
    (l26 : K.lookup f26 = some ⟨oc26, od26, .func (PySem.W.fnOf "is_integer" "is_integer" (defArgs s_is_integer) (defBody s_is_integer) (defScope s_is_integer) .none kV26 dc26 pm26 an26 cd26 ct26), sl26⟩)
    (c26 : PySem.W.codeIn K cd26 "is_integer" = true)
    (k26 : PySem.W.keepIn K (.ref f26) = true)
    (a27 : PySem.W.nsIn K mainGlobals "owners" = some (some (.ref f27)))
    (l27 : K.lookup f27 = some ⟨oc27, od27, .func (PySem.W.fnOf "owners" "owners" (defArgs s_owners) (defBody s_owners) (defScope s_owners) .none kV27 dc27 pm27 an27 cd27 ct27), sl27⟩)
    (c27 : PySem.W.codeIn K cd27 "owners" = true)
    (k27 : PySem.W.keepIn K (.ref f27) = true)
    (a28 : PySem.W.nsIn K mainGlobals "is_figure" = some (some (.ref f28)))
    (l28 : K.lookup f28 = some ⟨oc28, od28, .func (PySem.W.fnOf "is_figure" "is_figure" (defArgs s_is_figure) (defBody s_is_figure) (defScope s_is_figure) .none kV28 dc28 pm28 an28 cd28 ct28), sl28⟩)
    (c28 : PySem.W.codeIn K cd28 "is_figure" = true)
    (k28 : PySem.W.keepIn K (.ref f28) = true)
    (a29 : PySem.W.nsIn K mainGlobals "is_address" = some (some (.ref f29)))
    (l29 : K.lookup f29 = some ⟨oc29, od29, .func (PySem.W.fnOf "is_address" "is_address" (defArgs s_is_address) (defBody s_is_address) (defScope s_is_address) .none kV29 dc29 pm29 an29 cd29 ct29), sl29⟩)
    (c29 : PySem.W.codeIn K cd29 "is_address" = true)
    (k29 : PySem.W.keepIn K (.ref f29) = true)
    (a30 : PySem.W.findIn K (.ref C3) "need_task" = some (some (.ref f30)))
    (i30 : PySem.W.isFn K (.ref f30) = true)
    (l30 : K.lookup f30 = some ⟨oc30, od30, .func (PySem.W.fnOf "need_task" "Pages.need_task" (defArgs s_Pages_need_task) (defBody s_Pages_need_task) (defScope s_Pages_need_task) .none kV30 dc30 pm30 an30 cd30 ct30), sl30⟩)
    (c30 : PySem.W.codeIn K cd30 "Pages.need_task" = true)
    (k30 : PySem.W.keepIn K (.ref f30) = true)
    (a31 : PySem.W.findIn K (.ref C3) "need_cell" = some (some (.ref f31)))
    (i31 : PySem.W.isFn K (.ref f31) = true)
    (l31 : K.lookup f31 = some ⟨oc31, od31, .func (PySem.W.fnOf "need_cell" "Pages.need_cell" (defArgs s_Pages_need_cell) (defBody s_Pages_need_cell) (defScope s_Pages_need_cell) .none kV31 dc31 pm31 an31 cd31 ct31), sl31⟩)
    (c31 : PySem.W.codeIn K cd31 "Pages.need_cell" = true)
    (k31 : PySem.W.keepIn K (.ref f31) = true)
    (a32 : PySem.W.findIn K (.ref C3) "come" = some (some (.ref f32)))
    (i32 : PySem.W.isFn K (.ref f32) = true)
    (l32 : K.lookup f32 = some ⟨oc32, od32, .func (PySem.W.fnOf "come" "Pages.come" (defArgs s_Pages_come) (defBody s_Pages_come) (defScope s_Pages_come) .none kV32 dc32 pm32 an32 cd32 ct32), sl32⟩)
    (c32 : PySem.W.codeIn K cd32 "Pages.come" = true)
    (k32 : PySem.W.keepIn K (.ref f32) = true)
    (a33 : PySem.W.findIn K (.ref C3) "keep" = some (some (.ref f33)))
    (i33 : PySem.W.isFn K (.ref f33) = true)
    (l33 : K.lookup f33 = some ⟨oc33, od33, .func (PySem.W.fnOf "keep" "Pages.keep" (defArgs s_Pages_keep) (defBody s_Pages_keep) (defScope s_Pages_keep) .none kV33 dc33 pm33 an33 cd33 ct33), sl33⟩)
    (c33 : PySem.W.codeIn K cd33 "Pages.keep" = true)
    (k33 : PySem.W.keepIn K (.ref f33) = true)
    (a34 : PySem.W.findIn K (.ref C3) "load" = some (some (.ref f34)))
    (i34 : PySem.W.isFn K (.ref f34) = true)
    (l34 : K.lookup f34 = some ⟨oc34, od34, .func (PySem.W.fnOf "load" "Pages.load" (defArgs s_Pages_load) (defBody s_Pages_load) (defScope s_Pages_load) .none kV34 dc34 pm34 an34 cd34 ct34), sl34⟩)
    (c34 : PySem.W.codeIn K cd34 "Pages.load" = true)
    (k34 : PySem.W.keepIn K (.ref f34) = true)
    (a35 : PySem.W.findIn K (.ref C3) "store" = some (some (.ref f35)))
    (i35 : PySem.W.isFn K (.ref f35) = true)
    (l35 : K.lookup f35 = some ⟨oc35, od35, .func (PySem.W.fnOf "store" "Pages.store" (defArgs s_Pages_store) (defBody s_Pages_store) (defScope s_Pages_store) .none kV35 dc35 pm35 an35 cd35 ct35), sl35⟩)
    (c35 : PySem.W.codeIn K cd35 "Pages.store" = true)
    (k35 : PySem.W.keepIn K (.ref f35) = true)
    (a36 : PySem.W.findIn K (.ref C3) "fork" = some (some (.ref f36)))
    (i36 : PySem.W.isFn K (.ref f36) = true)
    (l36 : K.lookup f36 = some ⟨oc36, od36, .func (PySem.W.fnOf "fork" "Pages.fork" (defArgs s_Pages_fork) (defBody s_Pages_fork) (defScope s_Pages_fork) .none kV36 dc36 pm36 an36 cd36 ct36), sl36⟩)
    (c36 : PySem.W.codeIn K cd36 "Pages.fork" = true)
    (k36 : PySem.W.keepIn K (.ref f36) = true)
    (a37 : PySem.W.findIn K (.ref C3) "end" = some (some (.ref f37)))
    (i37 : PySem.W.isFn K (.ref f37) = true)
    (l37 : K.lookup f37 = some ⟨oc37, od37, .func (PySem.W.fnOf "end" "Pages.end" (defArgs s_Pages_end) (defBody s_Pages_end) (defScope s_Pages_end) .none kV37 dc37 pm37 an37 cd37 ct37), sl37⟩)
    (c37 : PySem.W.codeIn K cd37 "Pages.end" = true)
    (k37 : PySem.W.keepIn K (.ref f37) = true)
    (a38 : PySem.W.findIn K (.ref C3) "memory" = some (some (.ref f38)))
    (i38 : PySem.W.isFn K (.ref f38) = true)
    (l38 : K.lookup f38 = some ⟨oc38, od38, .func (PySem.W.fnOf "memory" "Pages.memory" (defArgs s_Pages_memory) (defBody s_Pages_memory) (defScope s_Pages_memory) .none kV38 dc38 pm38 an38 cd38 ct38), sl38⟩)
    (c38 : PySem.W.codeIn K cd38 "Pages.memory" = true)
    (k38 : PySem.W.keepIn K (.ref f38) = true)
    (a39 : PySem.W.findIn K (.ref C3) "deeds" = some (some (.ref f39)))
    (i39 : PySem.W.isFn K (.ref f39) = true)
    (l39 : K.lookup f39 = some ⟨oc39, od39, .func (PySem.W.fnOf "deeds" "Pages.deeds" (defArgs s_Pages_deeds) (defBody s_Pages_deeds) (defScope s_Pages_deeds) .none kV39 dc39 pm39 an39 cd39 ct39), sl39⟩)
    (c39 : PySem.W.codeIn K cd39 "Pages.deeds" = true)
    (k39 : PySem.W.keepIn K (.ref f39) = true)
    (a40 : PySem.W.findIn K (.ref C3) "misses" = some (some (.ref f40)))
    (i40 : PySem.W.isFn K (.ref f40) = true)
    (l40 : K.lookup f40 = some ⟨oc40, od40, .func (PySem.W.fnOf "misses" "Pages.misses" (defArgs s_Pages_misses) (defBody s_Pages_misses) (defScope s_Pages_misses) .none kV40 dc40 pm40 an40 cd40 ct40), sl40⟩)
    (c40 : PySem.W.codeIn K cd40 "Pages.misses" = true)
    (k40 : PySem.W.keepIn K (.ref f40) = true)
    (a41 : PySem.W.findIn K (.ref C3) "inside" = some (some (.ref f41)))
    (i41 : PySem.W.isFn K (.ref f41) = true)
    (l41 : K.lookup f41 = some ⟨oc41, od41, .func (PySem.W.fnOf "inside" "Pages.inside" (defArgs s_Pages_inside) (defBody s_Pages_inside) (defScope s_Pages_inside) .none kV41 dc41 pm41 an41 cd41 ct41), sl41⟩)
    (c41 : PySem.W.codeIn K cd41 "Pages.inside" = true)
    (k41 : PySem.W.keepIn K (.ref f41) = true)
    (a42 : PySem.W.findIn K (.ref C3) "body" = some (some (.ref f42)))
    (i42 : PySem.W.isFn K (.ref f42) = true)
    (l42 : K.lookup f42 = some ⟨oc42, od42, .func (PySem.W.fnOf "body" "Pages.body" (defArgs s_Pages_body) (defBody s_Pages_body) (defScope s_Pages_body) .none kV42 dc42 pm42 an42 cd42 ct42), sl42⟩)
    (c42 : PySem.W.codeIn K cd42 "Pages.body" = true)
    (k42 : PySem.W.keepIn K (.ref f42) = true)
    (a43 : PySem.W.findIn K (.ref C3) "__init__" = some (some (.ref f43)))
    (i43 : PySem.W.isFn K (.ref f43) = true)
    (l43 : K.lookup f43 = some ⟨oc43, od43, .func (PySem.W.fnOf "__init__" "Pages.__init__" (defArgs s_Pages___init__) (defBody s_Pages___init__) (defScope s_Pages___init__) .none kV43 dc43 pm43 an43 cd43 ct43), sl43⟩)
    (c43 : PySem.W.codeIn K cd43 "Pages.__init__" = true)
    (k43 : PySem.W.keepIn K (.ref f43) = true)
    (a44 : PySem.W.nsIn K mainGlobals "_law_deck" = some (some (.ref f44)))
    (l44 : K.lookup f44 = some ⟨oc44, od44, .func (PySem.W.fnOf "_law_deck" "_law_deck" (defArgs s__law_deck) (defBody s__law_deck) (defScope s__law_deck) .none kV44 dc44 pm44 an44 cd44 ct44), sl44⟩)
    (c44 : PySem.W.codeIn K cd44 "_law_deck" = true)
    (k44 : PySem.W.keepIn K (.ref f44) = true)
    (a45 : PySem.W.nsIn K mainGlobals "_law_draw" = some (some (.ref f45)))
    (l45 : K.lookup f45 = some ⟨oc45, od45, .func (PySem.W.fnOf "_law_draw" "_law_draw" (defArgs s__law_draw) (defBody s__law_draw) (defScope s__law_draw) .none kV45 dc45 pm45 an45 cd45 ct45), sl45⟩)
    (c45 : PySem.W.codeIn K cd45 "_law_draw" = true)
    (k45 : PySem.W.keepIn K (.ref f45) = true)
    (a46 : PySem.W.nsIn K mainGlobals "_law_pick" = some (some (.ref f46)))
    (l46 : K.lookup f46 = some ⟨oc46, od46, .func (PySem.W.fnOf "_law_pick" "_law_pick" (defArgs s__law_pick) (defBody s__law_pick) (defScope s__law_pick) .none kV46 dc46 pm46 an46 cd46 ct46), sl46⟩)
    (c46 : PySem.W.codeIn K cd46 "_law_pick" = true)
    (k46 : PySem.W.keepIn K (.ref f46) = true)
    (a47 : PySem.W.nsIn K mainGlobals "_law_same" = some (some (.ref f47)))
    (l47 : K.lookup f47 = some ⟨oc47, od47, .func (PySem.W.fnOf "_law_same" "_law_same" (defArgs s__law_same) (defBody s__law_same) (defScope s__law_same) .none kV47 dc47 pm47 an47 cd47 ct47), sl47⟩)
    (c47 : PySem.W.codeIn K cd47 "_law_same" = true)
    (k47 : PySem.W.keepIn K (.ref f47) = true)
    (a48 : PySem.W.nsIn K mainGlobals "_law_rule" = some (some (.ref f48)))
    (l48 : K.lookup f48 = some ⟨oc48, od48, .func (PySem.W.fnOf "_law_rule" "_law_rule" (defArgs s__law_rule) (defBody s__law_rule) (defScope s__law_rule) .none kV48 dc48 pm48 an48 cd48 ct48), sl48⟩)
    (c48 : PySem.W.codeIn K cd48 "_law_rule" = true)
    (k48 : PySem.W.keepIn K (.ref f48) = true)
    (a49 : PySem.W.nsIn K mainGlobals "_law_address" = some (some (.ref f49)))
    (l49 : K.lookup f49 = some ⟨oc49, od49, .func (PySem.W.fnOf "_law_address" "_law_address" (defArgs s__law_address) (defBody s__law_address) (defScope s__law_address) .none kV49 dc49 pm49 an49 cd49 ct49), sl49⟩)
    (c49 : PySem.W.codeIn K cd49 "_law_address" = true)
    (k49 : PySem.W.keepIn K (.ref f49) = true)
    (a50 : PySem.W.nsIn K mainGlobals "_law_rows" = some (some (.ref f50)))
    (l50 : K.lookup f50 = some ⟨oc50, od50, .func (PySem.W.fnOf "_law_rows" "_law_rows" (defArgs s__law_rows) (defBody s__law_rows) (defScope s__law_rows) .none kV50 dc50 pm50 an50 cd50 ct50), sl50⟩)
    (c50 : PySem.W.codeIn K cd50 "_law_rows" = true)
    (k50 : PySem.W.keepIn K (.ref f50) = true)
    (a51 : PySem.W.nsIn K mainGlobals "_law_call" = some (some (.ref f51)))
    (l51 : K.lookup f51 = some ⟨oc51, od51, .func (PySem.W.fnOf "_law_call" "_law_call" (defArgs s__law_call) (defBody s__law_call) (defScope s__law_call) .none kV51 dc51 pm51 an51 cd51 ct51), sl51⟩)
    (c51 : PySem.W.codeIn K cd51 "_law_call" = true)
    (k51 : PySem.W.keepIn K (.ref f51) = true)
    (a52 : PySem.W.nsIn K mainGlobals "_law_done" = some (some (.ref f52)))
    (l52 : K.lookup f52 = some ⟨oc52, od52, .func (PySem.W.fnOf "_law_done" "_law_done" (defArgs s__law_done) (defBody s__law_done) (defScope s__law_done) .none kV52 dc52 pm52 an52 cd52 ct52), sl52⟩)
    (c52 : PySem.W.codeIn K cd52 "_law_done" = true)
    (k52 : PySem.W.keepIn K (.ref f52) = true)
    (a53 : PySem.W.nsIn K mainGlobals "_law_bodies_right" = some (some (.ref f53)))
    (l53 : K.lookup f53 = some ⟨oc53, od53, .func (PySem.W.fnOf "_law_bodies_right" "_law_bodies_right" (defArgs s__law_bodies_right) (defBody s__law_bodies_right) (defScope s__law_bodies_right) .none kV53 dc53 pm53 an53 cd53 ct53), sl53⟩)
    (c53 : PySem.W.codeIn K cd53 "_law_bodies_right" = true)
    (k53 : PySem.W.keepIn K (.ref f53) = true)
    (a54 : PySem.W.nsIn K mainGlobals "_law_asked" = some (some (.ref f54)))
    (l54 : K.lookup f54 = some ⟨oc54, od54, .func (PySem.W.fnOf "_law_asked" "_law_asked" (defArgs s__law_asked) (defBody s__law_asked) (defScope s__law_asked) .none kV54 dc54 pm54 an54 cd54 ct54), sl54⟩)
    (c54 : PySem.W.codeIn K cd54 "_law_asked" = true)
    (k54 : PySem.W.keepIn K (.ref f54) = true)
    (a55 : PySem.W.nsIn K mainGlobals "_law_owners_right" = some (some (.ref f55)))
    (l55 : K.lookup f55 = some ⟨oc55, od55, .func (PySem.W.fnOf "_law_owners_right" "_law_owners_right" (defArgs s__law_owners_right) (defBody s__law_owners_right) (defScope s__law_owners_right) .none kV55 dc55 pm55 an55 cd55 ct55), sl55⟩)
    (c55 : PySem.W.codeIn K cd55 "_law_owners_right" = true)
    (k55 : PySem.W.keepIn K (.ref f55) = true)
    (a56 : PySem.W.nsIn K mainGlobals "law" = some (some (.ref f56)))
    (l56 : K.lookup f56 = some ⟨oc56, od56, .func (PySem.W.fnOf "law" "law" (defArgs s_law) (defBody s_law) (defScope s_law) .none kV56 dc56 pm56 an56 cd56 ct56), sl56⟩)
    (c56 : PySem.W.codeIn K cd56 "law" = true)
    (k56 : PySem.W.keepIn K (.ref f56) = true)
    (g_CELLS : PySem.W.nsIn K mainGlobals "CELLS" = some (some (.int 4096 t_CELLS)))
    (g_CLOCK : PySem.W.nsIn K mainGlobals "CLOCK" = some (some (.str "clock" t_CLOCK)))
    (g_FIRST : PySem.W.nsIn K mainGlobals "FIRST" = some (some (.str "first" t_FIRST)))
    (g_FIRST_TASK : PySem.W.nsIn K mainGlobals "FIRST_TASK" = some (some (.int 1 t_FIRST_TASK)))
    (g_GONE : PySem.W.nsIn K mainGlobals "GONE" = some (some (.str "gone" t_GONE)))
    (g_IN_SHEET : PySem.W.nsIn K mainGlobals "IN_SHEET" = some (some (.int 64 t_IN_SHEET)))
    (g_LONGEST : PySem.W.nsIn K mainGlobals "LONGEST" = some (some (.str "longest" t_LONGEST)))
    (g_LOOK : PySem.W.nsIn K mainGlobals "LOOK" = some (some (.str "look" t_LOOK)))
    (g_MAKE : PySem.W.nsIn K mainGlobals "MAKE" = some (some (.str "make" t_MAKE)))
    (g_MOST_CHOICES : PySem.W.nsIn K mainGlobals "MOST_CHOICES" = some (some (.int 800 t_MOST_CHOICES)))
    (g_MOST_DEEDS : PySem.W.nsIn K mainGlobals "MOST_DEEDS" = some (some (.int 400 t_MOST_DEEDS)))
    (g_MOST_FIGURE : PySem.W.nsIn K mainGlobals "MOST_FIGURE" = some (some (.int 65535 t_MOST_FIGURE)))
    (g_MOST_FRAMES : PySem.W.nsIn K mainGlobals "MOST_FRAMES" = some (some (.int 16 t_MOST_FRAMES)))
    (g_MOST_TASKS : PySem.W.nsIn K mainGlobals "MOST_TASKS" = some (some (.int 6 t_MOST_TASKS)))
    (g_SHEETS : PySem.W.nsIn K mainGlobals "SHEETS" = some (some (.int 64 t_SHEETS)))
    (g_TOLD : PySem.W.nsIn K mainGlobals "TOLD" = some (some (.str "told" t_TOLD)))
    (z_len : PySem.W.nsIn K mainGlobals "len" = some none)
    (z_int : PySem.W.nsIn K mainGlobals "int" = some none)
    (z_bool : PySem.W.nsIn K mainGlobals "bool" = some none)
    (z_str : PySem.W.nsIn K mainGlobals "str" = some none)
    (z_list : PySem.W.nsIn K mainGlobals "list" = some none)
    (z_tuple : PySem.W.nsIn K mainGlobals "tuple" = some none)
    (z_dict : PySem.W.nsIn K mainGlobals "dict" = some none)
    (z_isinstance : PySem.W.nsIn K mainGlobals "isinstance" = some none)
    (z_abs : PySem.W.nsIn K mainGlobals "abs" = some none)
    (z_max : PySem.W.nsIn K mainGlobals "max" = some none)
    (z_min : PySem.W.nsIn K mainGlobals "min" = some none)
    (z_all : PySem.W.nsIn K mainGlobals "all" = some none)
    (z_sorted : PySem.W.nsIn K mainGlobals "sorted" = some none)
    (z_range : PySem.W.nsIn K mainGlobals "range" = some none)
    (z_enumerate : PySem.W.nsIn K mainGlobals "enumerate" = some none)
    (z_zip : PySem.W.nsIn K mainGlobals "zip" = some none)
    (z_divmod : PySem.W.nsIn K mainGlobals "divmod" = some none) :
    ∃ fd : FuncData, (∀ (s : Shared) (u : Value), BindsTo s fd ⟨[u], []⟩ [("script", u)]) ∧ ∀ base : Heap, K.In base → base.Ns mainGlobals mg → FnOk P w K mg base CX0 9 fa fd ["script"] (spLawK13 K) :=
  law_at X G hfa a56 l56 c56 k56 fun base fd F => all_ok (blt_at X G z_len z_int z_bool z_str z_list z_tuple z_dict z_isinstance z_abs z_max z_min z_all z_sorted z_range z_enumerate z_zip) (PySem.W.mg_none_of X G z_divmod) (cls_Bodies pg_Bodies hd_Bodies po_Bodies sa_Bodies n0_Bodies n1_Bodies n2_Bodies n3_Bodies) (cls_Frames pg_Frames hd_Frames po_Frames sa_Frames n0_Frames n1_Frames n2_Frames n3_Frames n4_Frames n5_Frames) (cls_Pages pg_Pages hd_Pages po_Pages sa_Pages n0_Pages n1_Pages n2_Pages n3_Pages n4_Pages) (gv_int X G g_CELLS) (gv_str X G g_CLOCK) (gv_str X G g_FIRST) (gv_int X G g_FIRST_TASK) (gv_str X G g_GONE) (gv_int X G g_IN_SHEET) (gv_str X G g_LONGEST) (gv_str X G g_LOOK) (gv_str X G g_MAKE) (gv_int X G g_MOST_CHOICES) (gv_int X G g_MOST_DEEDS) (gv_int X G g_MOST_FIGURE) (gv_int X G g_MOST_FRAMES) (gv_int X G g_MOST_TASKS) (gv_int X G g_SHEETS) (gv_str X G g_TOLD) (at_is_from X G a0 l0 c0 k0) (at_is_tuple X G a1 l1 c1 k1) (at_Bodies_is_there X G a2 i2 l2 c2 k2) (at_Bodies_can_come X G a3 i3 l3 c3 k3) (at_Bodies_body X G a4 i4 l4 c4 k4) (at_Bodies_with_body X G a5 i5 l5 c5 k5) (at_Bodies_load X G a6 i6 l6 c6 k6) (at_Bodies_store X G a7 i7 l7 c7 k7) (at_Bodies_fork X G a8 i8 l8 c8 k8) (at_Bodies_end X G a9 i9 l9 c9 k9) (at_Bodies_done X G a10 i10 l10 c10 k10) (at_Bodies___init__ X G aC_Bodies a11 i11 l11 c11 k11 mk_Bodies kc_Bodies) (at_is_deed X G a12 l12 c12 k12) (at_gone_through X G a13 l13 c13 k13) (at_need_frames X G a14 l14 c14 k14) (at_are_choices X G a15 l15 c15 k15) (at_is_rule X G a16 l16 c16 k16) (at_need_rule X G a17 l17 c17 k17) (at_Frames___init__ X G aC_Frames a18 i18 l18 c18 k18 mk_Frames kc_Frames) (at_Frames_inside X G a19 i19 l19 c19 k19) (at_Frames_chosen X G a20 i20 l20 c20 k20) (at_Frames_put_out X G a21 i21 l21 c21 k21) (at_Frames_look X G a22 i22 l22 c22 k22) (at_Frames_leave X G a23 i23 l23 c23 k23) (at_Frames_come X G a24 i24 l24 c24 k24) (at_misses X G a25 l25 c25 k25) (at_is_integer X G a26 l26 c26 k26) (at_owners X G a27 l27 c27 k27) (at_is_figure X G a28 l28 c28 k28) (at_is_address X G a29 l29 c29 k29) (at_Pages_need_task X G a30 i30 l30 c30 k30) (at_Pages_need_cell X G a31 i31 l31 c31 k31) (at_Pages_come X G a32 i32 l32 c32 k32) (at_Pages_keep X G a33 i33 l33 c33 k33) (at_Pages_load X G a34 i34 l34 c34 k34) (at_Pages_store X G a35 i35 l35 c35 k35) (at_Pages_fork X G a36 i36 l36 c36 k36) (at_Pages_end X G a37 i37 l37 c37 k37) (at_Pages_memory X G a38 i38 l38 c38 k38) (at_Pages_deeds X G a39 i39 l39 c39 k39) (at_Pages_misses X G a40 i40 l40 c40 k40) (at_Pages_inside X G a41 i41 l41 c41 k41) (at_Pages_body X G a42 i42 l42 c42 k42) (at_Pages___init__ X G aC_Pages a43 i43 l43 c43 k43 mk_Pages kc_Pages) (at__law_deck X G a44 l44 c44 k44) (at__law_draw X G a45 l45 c45 k45) (at__law_pick X G a46 l46 c46 k46) (at__law_same X G a47 l47 c47 k47) (at__law_rule X G a48 l48 c48 k48) (at__law_address X G a49 l49 c49 k49) (at__law_rows X G a50 l50 c50 k50) (at__law_call X G a51 l51 c51 k51) (at__law_done X G a52 l52 c52 k52) (at__law_bodies_right X G a53 l53 c53 k53) (at__law_asked X G a54 l54 c54 k54) (at__law_owners_right X G a55 l55 c55 k55) F
end K13
open PySem PySem.W PyProof.Rows
set_option maxHeartbeats 0 in
theorem PySem.Challenge.cw_tasksapart_k13_whole_pages_as_one_flat_m_holds : PySem.Challenge.rw_tasksapart_k13_whole_pages_as_one_flat_m.Holds := by
  w_on; o_law; k_head; (case hw => w_witness2)
  k_fill
  refine K13.walk (l := PySem.Challenge.rw_tasksapart_k13_whole_pages_as_one_flat_m) rfl rfl (fun w h Y => PySem.W.kIn_of Y) ?F
  case F =>
    intro w mg fa h KX G hmg
    refine' K13.all_mk KX G hmg ?aC_Bodies ?pg_Bodies ?hd_Bodies ?po_Bodies ?sa_Bodies ?n0_Bodies ?n1_Bodies ?n2_Bodies ?n3_Bodies ?mk_Bodies ?kc_Bodies ?aC_Frames ?pg_Frames ?hd_Frames ?po_Frames ?sa_Frames ?n0_Frames ?n1_Frames ?n2_Frames ?n3_Frames ?n4_Frames ?n5_Frames ?mk_Frames ?kc_Frames ?aC_Pages ?pg_Pages ?hd_Pages ?po_Pages ?sa_Pages ?n0_Pages ?n1_Pages ?n2_Pages ?n3_Pages ?n4_Pages ?mk_Pages ?kc_Pages ?a0 ?l0 ?c0 ?k0 ?a1 ?l1 ?c1 ?k1 ?a2 ?i2 ?l2 ?c2 ?k2 ?a3 ?i3 ?l3 ?c3 ?k3 ?a4 ?i4 ?l4 ?c4 ?k4 ?a5 ?i5 ?l5 ?c5 ?k5 ?a6 ?i6 ?l6 ?c6 ?k6 ?a7 ?i7 ?l7 ?c7 ?k7 ?a8 ?i8 ?l8 ?c8 ?k8 ?a9 ?i9 ?l9 ?c9 ?k9 ?a10 ?i10 ?l10 ?c10 ?k10 ?a11 ?i11 ?l11 ?c11 ?k11 ?a12 ?l12 ?c12 ?k12 ?a13 ?l13 ?c13 ?k13 ?a14 ?l14 ?c14 ?k14 ?a15 ?l15 ?c15 ?k15 ?a16 ?l16 ?c16 ?k16 ?a17 ?l17 ?c17 ?k17 ?a18 ?i18 ?l18 ?c18 ?k18 ?a19 ?i19 ?l19 ?c19 ?k19 ?a20 ?i20 ?l20 ?c20 ?k20 ?a21 ?i21 ?l21 ?c21 ?k21 ?a22 ?i22 ?l22 ?c22 ?k22 ?a23 ?i23 ?l23 ?c23 ?k23 ?a24 ?i24 ?l24 ?c24 ?k24 ?a25 ?l25 ?c25 ?k25 ?a26 ?l26 ?c26 ?k26 ?a27 ?l27 ?c27 ?k27 ?a28 ?l28 ?c28 ?k28 ?a29 ?l29 ?c29 ?k29 ?a30 ?i30 ?l30 ?c30 ?k30 ?a31 ?i31 ?l31 ?c31 ?k31 ?a32 ?i32 ?l32 ?c32 ?k32 ?a33 ?i33 ?l33 ?c33 ?k33 ?a34 ?i34 ?l34 ?c34 ?k34 ?a35 ?i35 ?l35 ?c35 ?k35 ?a36 ?i36 ?l36 ?c36 ?k36 ?a37 ?i37 ?l37 ?c37 ?k37 ?a38 ?i38 ?l38 ?c38 ?k38 ?a39 ?i39 ?l39 ?c39 ?k39 ?a40 ?i40 ?l40 ?c40 ?k40 ?a41 ?i41 ?l41 ?c41 ?k41 ?a42 ?i42 ?l42 ?c42 ?k42 ?a43 ?i43 ?l43 ?c43 ?k43 ?a44 ?l44 ?c44 ?k44 ?a45 ?l45 ?c45 ?k45 ?a46 ?l46 ?c46 ?k46 ?a47 ?l47 ?c47 ?k47 ?a48 ?l48 ?c48 ?k48 ?a49 ?l49 ?c49 ?k49 ?a50 ?l50 ?c50 ?k50 ?a51 ?l51 ?c51 ?k51 ?a52 ?l52 ?c52 ?k52 ?a53 ?l53 ?c53 ?k53 ?a54 ?l54 ?c54 ?k54 ?a55 ?l55 ?c55 ?k55 ?a56 ?l56 ?c56 ?k56 ?g_CELLS ?g_CLOCK ?g_FIRST ?g_FIRST_TASK ?g_GONE ?g_IN_SHEET ?g_LONGEST ?g_LOOK ?g_MAKE ?g_MOST_CHOICES ?g_MOST_DEEDS ?g_MOST_FIGURE ?g_MOST_FRAMES ?g_MOST_TASKS ?g_SHEETS ?g_TOLD ?z_len ?z_int ?z_bool ?z_str ?z_list ?z_tuple ?z_dict ?z_isinstance ?z_abs ?z_max ?z_min ?z_all ?z_sorted ?z_range ?z_enumerate ?z_zip ?z_divmod
    (case aC_Bodies => k_is); (case pg_Bodies => k_is); (case hd_Bodies => k_is); (case po_Bodies => k_is)
    (case sa_Bodies => k_is); (case n0_Bodies => k_is); (case n1_Bodies => k_is); (case n2_Bodies => k_is)
    (case n3_Bodies => k_is); (case mk_Bodies => k_is); (case kc_Bodies => k_is); (case aC_Frames => k_is)
    (case pg_Frames => k_is); (case hd_Frames => k_is); (case po_Frames => k_is); (case sa_Frames => k_is)
    (case n0_Frames => k_is); (case n1_Frames => k_is); (case n2_Frames => k_is); (case n3_Frames => k_is)
    (case n4_Frames => k_is); (case n5_Frames => k_is); (case mk_Frames => k_is); (case kc_Frames => k_is)
    (case aC_Pages => k_is); (case pg_Pages => k_is); (case hd_Pages => k_is); (case po_Pages => k_is)
    (case sa_Pages => k_is); (case n0_Pages => k_is); (case n1_Pages => k_is); (case n2_Pages => k_is)
    (case n3_Pages => k_is); (case n4_Pages => k_is); (case mk_Pages => k_is); (case kc_Pages => k_is)
    (case a0 => k_is); (case l0 => k_is); (case c0 => k_is); (case k0 => k_is)
    (case a1 => k_is); (case l1 => k_is); (case c1 => k_is); (case k1 => k_is)
    (case a2 => k_is); (case i2 => k_is); (case l2 => k_is); (case c2 => k_is)
    (case k2 => k_is); (case a3 => k_is); (case i3 => k_is); (case l3 => k_is)
    (case c3 => k_is); (case k3 => k_is); (case a4 => k_is); (case i4 => k_is)
    (case l4 => k_is); (case c4 => k_is); (case k4 => k_is); (case a5 => k_is)
    (case i5 => k_is); (case l5 => k_is); (case c5 => k_is); (case k5 => k_is)
    (case a6 => k_is); (case i6 => k_is); (case l6 => k_is); (case c6 => k_is)
    (case k6 => k_is); (case a7 => k_is); (case i7 => k_is); (case l7 => k_is)
    (case c7 => k_is); (case k7 => k_is); (case a8 => k_is); (case i8 => k_is)
    (case l8 => k_is); (case c8 => k_is); (case k8 => k_is); (case a9 => k_is)
    (case i9 => k_is); (case l9 => k_is); (case c9 => k_is); (case k9 => k_is)
    (case a10 => k_is); (case i10 => k_is); (case l10 => k_is); (case c10 => k_is)
    (case k10 => k_is); (case a11 => k_is); (case i11 => k_is); (case l11 => k_is)
    (case c11 => k_is); (case k11 => k_is); (case a12 => k_is); (case l12 => k_is)
    (case c12 => k_is); (case k12 => k_is); (case a13 => k_is); (case l13 => k_is)
    (case c13 => k_is); (case k13 => k_is); (case a14 => k_is); (case l14 => k_is)
    (case c14 => k_is); (case k14 => k_is); (case a15 => k_is); (case l15 => k_is)
    (case c15 => k_is); (case k15 => k_is); (case a16 => k_is); (case l16 => k_is)
    (case c16 => k_is); (case k16 => k_is); (case a17 => k_is); (case l17 => k_is)
    (case c17 => k_is); (case k17 => k_is); (case a18 => k_is); (case i18 => k_is)
    (case l18 => k_is); (case c18 => k_is); (case k18 => k_is); (case a19 => k_is)
    (case i19 => k_is); (case l19 => k_is); (case c19 => k_is); (case k19 => k_is)
    (case a20 => k_is); (case i20 => k_is); (case l20 => k_is); (case c20 => k_is)
    (case k20 => k_is); (case a21 => k_is); (case i21 => k_is); (case l21 => k_is)
    (case c21 => k_is); (case k21 => k_is); (case a22 => k_is); (case i22 => k_is)
    (case l22 => k_is); (case c22 => k_is); (case k22 => k_is); (case a23 => k_is)
    (case i23 => k_is); (case l23 => k_is); (case c23 => k_is); (case k23 => k_is)
    (case a24 => k_is); (case i24 => k_is); (case l24 => k_is); (case c24 => k_is)
    (case k24 => k_is); (case a25 => k_is); (case l25 => k_is); (case c25 => k_is)
    (case k25 => k_is); (case a26 => k_is); (case l26 => k_is); (case c26 => k_is)
    (case k26 => k_is); (case a27 => k_is); (case l27 => k_is); (case c27 => k_is)
    (case k27 => k_is); (case a28 => k_is); (case l28 => k_is); (case c28 => k_is)
    (case k28 => k_is); (case a29 => k_is); (case l29 => k_is); (case c29 => k_is)
    (case k29 => k_is); (case a30 => k_is); (case i30 => k_is); (case l30 => k_is)
    (case c30 => k_is); (case k30 => k_is); (case a31 => k_is); (case i31 => k_is)
    (case l31 => k_is); (case c31 => k_is); (case k31 => k_is); (case a32 => k_is)
    (case i32 => k_is); (case l32 => k_is); (case c32 => k_is); (case k32 => k_is)
    (case a33 => k_is); (case i33 => k_is); (case l33 => k_is); (case c33 => k_is)
    (case k33 => k_is); (case a34 => k_is); (case i34 => k_is); (case l34 => k_is)
    (case c34 => k_is); (case k34 => k_is); (case a35 => k_is); (case i35 => k_is)
    (case l35 => k_is); (case c35 => k_is); (case k35 => k_is); (case a36 => k_is)
    (case i36 => k_is); (case l36 => k_is); (case c36 => k_is); (case k36 => k_is)
    (case a37 => k_is); (case i37 => k_is); (case l37 => k_is); (case c37 => k_is)
    (case k37 => k_is); (case a38 => k_is); (case i38 => k_is); (case l38 => k_is)
    (case c38 => k_is); (case k38 => k_is); (case a39 => k_is); (case i39 => k_is)
    (case l39 => k_is); (case c39 => k_is); (case k39 => k_is); (case a40 => k_is)
    (case i40 => k_is); (case l40 => k_is); (case c40 => k_is); (case k40 => k_is)
    (case a41 => k_is); (case i41 => k_is); (case l41 => k_is); (case c41 => k_is)
    (case k41 => k_is); (case a42 => k_is); (case i42 => k_is); (case l42 => k_is)
    (case c42 => k_is); (case k42 => k_is); (case a43 => k_is); (case i43 => k_is)
    (case l43 => k_is); (case c43 => k_is); (case k43 => k_is); (case a44 => k_is)
    (case l44 => k_is); (case c44 => k_is); (case k44 => k_is); (case a45 => k_is)
    (case l45 => k_is); (case c45 => k_is); (case k45 => k_is); (case a46 => k_is)
    (case l46 => k_is); (case c46 => k_is); (case k46 => k_is); (case a47 => k_is)
    (case l47 => k_is); (case c47 => k_is); (case k47 => k_is); (case a48 => k_is)
    (case l48 => k_is); (case c48 => k_is); (case k48 => k_is); (case a49 => k_is)
    (case l49 => k_is); (case c49 => k_is); (case k49 => k_is); (case a50 => k_is)
    (case l50 => k_is); (case c50 => k_is); (case k50 => k_is); (case a51 => k_is)
    (case l51 => k_is); (case c51 => k_is); (case k51 => k_is); (case a52 => k_is)
    (case l52 => k_is); (case c52 => k_is); (case k52 => k_is); (case a53 => k_is)
    (case l53 => k_is); (case c53 => k_is); (case k53 => k_is); (case a54 => k_is)
    (case l54 => k_is); (case c54 => k_is); (case k54 => k_is); (case a55 => k_is)
    (case l55 => k_is); (case c55 => k_is); (case k55 => k_is); (case a56 => k_is)
    (case l56 => k_is); (case c56 => k_is); (case k56 => k_is); (case g_CELLS => k_is)
    (case g_CLOCK => k_is); (case g_FIRST => k_is); (case g_FIRST_TASK => k_is); (case g_GONE => k_is)
    (case g_IN_SHEET => k_is); (case g_LONGEST => k_is); (case g_LOOK => k_is); (case g_MAKE => k_is)
    (case g_MOST_CHOICES => k_is); (case g_MOST_DEEDS => k_is); (case g_MOST_FIGURE => k_is); (case g_MOST_FRAMES => k_is)
    (case g_MOST_TASKS => k_is); (case g_SHEETS => k_is); (case g_TOLD => k_is); (case z_len => k_is)
    (case z_int => k_is); (case z_bool => k_is); (case z_str => k_is); (case z_list => k_is)
    (case z_tuple => k_is); (case z_dict => k_is); (case z_isinstance => k_is); (case z_abs => k_is)
    (case z_max => k_is); (case z_min => k_is); (case z_all => k_is); (case z_sorted => k_is)
    (case z_range => k_is); (case z_enumerate => k_is); (case z_zip => k_is); (case z_divmod => k_is)
