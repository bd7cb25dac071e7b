import PyProof.Rows.All
import Wide.All
import OpenK.AllK
import Wide.FinOn
import HandS.ForMost
import HandS.ForExc
import HandS.IsInst
import HandS.TupAny
import HandS.Wide
import HandS.Zip
import HandS.Style
import HandS.SortInts
import HandS.SortRule
import HandS.SetFor
import HandS.More
import HandS.TupLe
import HandS.Small
import HandS.ListItems
import KE.GoesEnumKw
import KE.KDictSum
import HandS.Walk
import HandS.ReSub
import KE.KExcSuper
import HandS.Deep
import KE.KDictPairs
import HandS.TupMul
import HandS.Conv
import PySem.Challenge.RW_tasksapart_k00_turns_of_orders
set_option Elab.async false
set_option linter.all false
set_option maxRecDepth 100000
set_option maxHeartbeats 4000000
/-! The data layer: frozen data F inside a heap H, what a step keeps, and steps of readings over data. -/
namespace DL
open PySem PySem.Spec PyProof.Rows L2

/-! ### frozen heaps -/
theorem same_lst {K : PySem.W.Frag} {F F' : Hp} {a : Addr} {xs : List V} (e : Same F F') (h : SqL K F a xs) : SqL K F' a xs := Same.seq e h
theorem same_rd {F F' : Hp} {a : Addr} {u : HO} (e : Same F F') (h : Rd F a u) : Rd F' a u := by
  rcases h with h | ⟨o, h⟩
  · exact .inl (e _ _ h)
  · exact .inr ⟨o, e _ _ h⟩
theorem same_tup {K : PySem.W.Frag} {F F' : Hp} {a : Addr} {xs : List V} (e : Same F F') (h : SqT K F a xs) : SqT K F' a xs := by
  rcases h with h | h
  · exact .inl (same_rd e h)
  · exact .inr h
mutual
theorem dp_mono {K : PySem.W.Frag} {F F' : Hp} (e : Same F F') : ∀ {v : V} (d : PyData), Dp K F v d → Dp K F' v d
  | _, .none, h => by cases h; exact .non
  | _, .bool b, h => by cases h; exact .bl b
  | _, .int i, h => by cases h; exact .int i
  | _, .str x, h => by cases h; exact .str x
  | _, .list ds, h => by
    cases h with
    | lst hs ha => exact .lst (same_lst e hs) (dps_mono e ds ha)
  | _, .tuple ds, h => by
    cases h with
    | tup hs ha => exact .tup (same_tup e hs) (dps_mono e ds ha)
  | _, .dict _, h => by cases h
theorem dps_mono {K : PySem.W.Frag} {F F' : Hp} (e : Same F F') : ∀ {vs : List V} (ds : List PyData), DpAll K F vs ds → DpAll K F' vs ds
  | _, [], h => by cases h; exact .nil
  | _, d :: ds, h => by
    cases h with
    | cons h1 h2 => exact .cons (dp_mono e d h1) (dps_mono e ds h2)
end
theorem _root_.L2.Dp.to {K : PySem.W.Frag} {F F' : Hp} {v : V} {d : PyData} (h : Dp K F v d) (e : Same F F') : Dp K F' v d := dp_mono e d h
theorem _root_.L2.DpAll.to {K : PySem.W.Frag} {F F' : Hp} {vs : List V} {ds : List PyData} (h : DpAll K F vs ds) (e : Same F F') : DpAll K F' vs ds := dps_mono e ds h

/-- what a stretch of code keeps: the frozen part grows, all but the objects at W stands, the frozen part stays within the heap and away from what it was away from -/
structure Gr (W : List Addr) (F H F' H' : Hp) : Prop where
  fs : Same F F'
  hs : ∀ b o, b ∉ W → H b = some o → H' b = some o
  sub : Same F' H'
  own : ∀ b, F b = none → H b ≠ none → F' b = none
  live : ∀ b, H b ≠ none → H' b ≠ none
theorem Gr.refl {W : List Addr} {F H : Hp} (h : Same F H) : Gr W F H F H := ⟨Same.refl F, fun _ _ _ h => h, h, fun _ h _ => h, fun _ h => h⟩
theorem Gr.trans {W : List Addr} {F H F1 H1 F2 H2 : Hp} (a : Gr W F H F1 H1) (b : Gr W F1 H1 F2 H2) : Gr W F H F2 H2 :=
  ⟨a.fs.trans b.fs, fun c o n h => b.hs c o n (a.hs c o n h), b.sub, fun c h1 h2 => b.own c (a.own c h1 h2) (a.live c h2), fun c h => b.live c (a.live c h)⟩
theorem Gr.mono {W W' : List Addr} {F H F1 H1 : Hp} (a : Gr W F H F1 H1) (h : ∀ b ∈ W, b ∈ W') : Gr W' F H F1 H1 :=
  ⟨a.fs, fun c o n q => a.hs c o (fun z => n (h c z)) q, a.sub, a.own, a.live⟩
theorem Gr.any {W : List Addr} {F H F1 H1 : Hp} (a : Gr [] F H F1 H1) : Gr W F H F1 H1 := a.mono fun _ h => nomatch h
/-- a fact about an owned object behind a step that does not write it -/
theorem Gr.at {W : List Addr} {F H F' H' : Hp} (g : Gr W F H F' H') {b : Addr} {o : HO} (n : b ∉ W) (h : H b = some o) : H' b = some o := g.hs b o n h
theorem Gr.at0 {F H F' H' : Hp} (g : Gr [] F H F' H') {b : Addr} {o : HO} (h : H b = some o) : H' b = some o := g.hs b o (fun z => nomatch z) h
theorem Gr.off {W : List Addr} {F H F' H' : Hp} (g : Gr W F H F' H') {b : Addr} {o : HO} (n : F b = none) (h : H b = some o) : F' b = none := g.own b n (by rw [h]; exact fun z => nomatch z)
theorem Gr.same {F H F' H' : Hp} (g : Gr [] F H F' H') : Same H H' := fun b o h => g.at0 h
/-- fresh behind is fresh ahead -/
theorem Gr.free {W : List Addr} {F H F' H' : Hp} (g : Gr W F H F' H') {p : Addr} (h : H' p = none) : H p = none := by
  cases e : H p with
  | none => rfl
  | some o => exact absurd h (g.live p (by rw [e]; exact fun z => nomatch z))
theorem sub_free {F H : Hp} (s : Same F H) {p : Addr} (h : H p = none) : F p = none := by
  cases e : F p with
  | none => rfl
  | some o => rw [s p o e] at h; cases h
/-- a new frozen object -/
theorem Gr.new {W : List Addr} {F H : Hp} {p : Addr} {o : HO} (s : Same F H) (h : H p = none) : Gr W F H (upd F p o) (upd H p o) := by
  have hF := sub_free s h
  refine ⟨fun b u e => ?_, fun b u _ e => ?_, fun b u e => ?_, fun b e1 e2 => ?_, fun b e => ?_⟩
  · rw [upd_ne (ne_of_none e hF)]; exact e
  · rw [upd_ne (ne_of_none e h)]; exact e
  · by_cases hb : b = p
    · subst hb; rw [upd_same] at e ⊢; exact e
    · rw [upd_ne hb] at e ⊢; exact s b u e
  · by_cases hb : b = p
    · subst hb; exact absurd h e2
    · rw [upd_ne hb]; exact e1
  · by_cases hb : b = p
    · subst hb; rw [upd_same]; exact fun z => nomatch z
    · rw [upd_ne hb]; exact e
/-- a new owned object -/
theorem Gr.newOwn {W : List Addr} {F H : Hp} {p : Addr} {o : HO} (s : Same F H) (h : H p = none) : Gr W F H F (upd H p o) := by
  have hF := sub_free s h
  refine ⟨Same.refl F, fun b u _ e => ?_, fun b u e => ?_, fun b e1 _ => e1, fun b e => ?_⟩
  · rw [upd_ne (ne_of_none e h)]; exact e
  · rw [upd_ne (ne_of_none e hF)]; exact s b u e
  · by_cases hb : b = p
    · subst hb; rw [upd_same]; exact fun z => nomatch z
    · rw [upd_ne hb]; exact e
/-- an owned object is written -/
theorem Gr.write {W : List Addr} {F H : Hp} {p : Addr} {o : HO} (s : Same F H) (hF : F p = none) (hp : p ∈ W) : Gr W F H F (upd H p o) := by
  refine ⟨Same.refl F, fun b u n e => ?_, fun b u e => ?_, fun b e1 _ => e1, fun b e => ?_⟩
  · rw [upd_ne (fun z => n (by rw [z]; exact hp))]; exact e
  · rw [upd_ne (ne_of_none e hF)]; exact s b u e
  · by_cases hb : b = p
    · subst hb; rw [upd_same]; exact fun z => nomatch z
    · rw [upd_ne hb]; exact e
/-- an owned object becomes frozen data -/
theorem Gr.freeze {W : List Addr} {F H : Hp} {p : Addr} {o : HO} (s : Same F H) (hF : F p = none) (h : H p = some o) : Same F (upd F p o) ∧ Same (upd F p o) H := by
  refine ⟨fun b u e => ?_, fun b u e => ?_⟩
  · rw [upd_ne (ne_of_none e hF)]; exact e
  · by_cases hb : b = p
    · subst hb; rw [upd_same] at e; rw [h]; exact e
    · rw [upd_ne hb] at e; exact s b u e

/-! ### data of values -/
theorem dp_len {K : PySem.W.Frag} {F : Hp} : ∀ {vs : List V} {ds : List PyData}, DpAll K F vs ds → vs.length = ds.length
  | _, [], h => by cases h; rfl
  | _, d :: ds, h => by
    cases h with
    | cons h1 h2 => simp [dp_len h2]
theorem dp_get {K : PySem.W.Frag} {F : Hp} : ∀ {vs : List V} {ds : List PyData} {i : Nat} {d : PyData}, DpAll K F vs ds → ds[i]? = some d → ∃ v, vs[i]? = some v ∧ Dp K F v d
  | _, [], i, d, h, e => by simp at e
  | _, d' :: ds, 0, d, h, e => by
    cases h with
    | cons h1 h2 => simp at e; subst e; exact ⟨_, rfl, h1⟩
  | _, d' :: ds, i + 1, d, h, e => by
    cases h with
    | cons h1 h2 =>
      obtain ⟨v, h3, h4⟩ := dp_get h2 (i := i) (by simpa using e)
      exact ⟨v, by simpa using h3, h4⟩
theorem dp_getV {K : PySem.W.Frag} {F : Hp} : ∀ {vs : List V} {ds : List PyData} {i : Nat} {v : V}, DpAll K F vs ds → vs[i]? = some v → ∃ d, ds[i]? = some d ∧ Dp K F v d
  | _, [], i, v, h, e => by cases h; simp at e
  | _, d' :: ds, 0, v, h, e => by
    cases h with
    | cons h1 h2 => simp at e; subst e; exact ⟨_, rfl, h1⟩
  | _, d' :: ds, i + 1, v, h, e => by
    cases h with
    | cons h1 h2 =>
      obtain ⟨d, h3, h4⟩ := dp_getV h2 (i := i) (v := v) (by simpa using e)
      exact ⟨d, by simpa using h3, h4⟩
theorem dp_app {K : PySem.W.Frag} {F : Hp} : ∀ {vs ws : List V} {ds es : List PyData}, DpAll K F vs ds → DpAll K F ws es → DpAll K F (vs ++ ws) (ds ++ es)
  | _, _, [], _, h, q => by cases h; exact q
  | _, _, d :: ds, _, h, q => by
    cases h with
    | cons h1 h2 => exact .cons h1 (dp_app h2 q)
theorem dp_take {K : PySem.W.Frag} {F : Hp} : ∀ (n : Nat) {vs : List V} {ds : List PyData}, DpAll K F vs ds → DpAll K F (vs.take n) (ds.take n)
  | 0, _, _, _ => by rw [List.take_zero, List.take_zero]; exact .nil
  | n + 1, _, [], h => by cases h; exact .nil
  | n + 1, _, d :: ds, h => by
    cases h with
    | cons h1 h2 => exact .cons h1 (dp_take n h2)
theorem dp_drop {K : PySem.W.Frag} {F : Hp} : ∀ (n : Nat) {vs : List V} {ds : List PyData}, DpAll K F vs ds → DpAll K F (vs.drop n) (ds.drop n)
  | 0, _, _, h => h
  | n + 1, _, [], h => by cases h; exact .nil
  | n + 1, _, d :: ds, h => by
    cases h with
    | cons h1 h2 => exact dp_drop n h2
theorem dp_ints {K : PySem.W.Frag} {F : Hp} : ∀ (ns : List Int), DpAll K F (ns.map V.int) (ns.map PyData.int)
  | [] => .nil
  | n :: ns => .cons (.int n) (dp_ints ns)
theorem dp_ints_inv {K : PySem.W.Frag} {F : Hp} : ∀ {vs : List V} {ns : List Int}, DpAll K F vs (ns.map PyData.int) → vs = ns.map V.int
  | _, [], h => by cases h; rfl
  | _, n :: ns, h => by
    cases h with
    | cons h1 h2 => cases h1; rw [dp_ints_inv h2]; rfl
theorem dp_bls_inv {K : PySem.W.Frag} {F : Hp} : ∀ {vs : List V} {ns : List Bool}, DpAll K F vs (ns.map PyData.bool) → vs = ns.map V.bl
  | _, [], h => by cases h; rfl
  | _, n :: ns, h => by
    cases h with
    | cons h1 h2 => cases h1; rw [dp_bls_inv h2]; rfl
theorem dp_list {K : PySem.W.Frag} {F : Hp} {v : V} {ds : List PyData} (h : Dp K F v (.list ds)) : ∃ a xs, v = .ref a ∧ SqL K F a xs ∧ DpAll K F xs ds := by
  cases h with
  | lst h1 h2 => exact ⟨_, _, rfl, h1, h2⟩
theorem dp_tuple {K : PySem.W.Frag} {F : Hp} {v : V} {ds : List PyData} (h : Dp K F v (.tuple ds)) : ∃ a xs, v = .ref a ∧ SqT K F a xs ∧ DpAll K F xs ds := by
  cases h with
  | tup h1 h2 => exact ⟨_, _, rfl, h1, h2⟩
theorem dp_int {K : PySem.W.Frag} {F : Hp} {v : V} {i : Int} (h : Dp K F v (.int i)) : v = .int i := by cases h; rfl
theorem dp_bool {K : PySem.W.Frag} {F : Hp} {v : V} {i : Bool} (h : Dp K F v (.bool i)) : v = .bl i := by cases h; rfl
theorem dp_str {K : PySem.W.Frag} {F : Hp} {v : V} {i : Str} (h : Dp K F v (.str i)) : v = .str i := by cases h; rfl
theorem dp_none {K : PySem.W.Frag} {F : Hp} {v : V} (h : Dp K F v .none) : v = .non := by cases h; rfl

/-! ### new data -/
variable {K : PySem.W.Frag}
theorem new_tup {F H : Hp} {xs : List V} {ds : List PyData} {Q : VK} (s : Same F H) (h : DpAll K F xs ds) (hl : xs.length ≤ sizeLine)
    (k : ∀ p F' H', Gr [] F H F' H' → H p = none → Dp K F' (.ref p) (.tuple ds) → Q (.ref p) H') : xs.length ≤ sizeLine ∧ ∀ p, H p = none → Q (.ref p) (upd H p (.tup xs)) :=
  ⟨hl, fun p hp => by
    have g : Gr [] F H (upd F p (.tup xs)) (upd H p (.tup xs)) := Gr.new s hp
    exact k p _ _ g hp (.tup (.inl (.inl upd_same)) (DpAll.to h g.fs))⟩
theorem new_lst {F H : Hp} {xs : List V} {ds : List PyData} {Q : VK} (s : Same F H) (h : DpAll K F xs ds) (hl : xs.length ≤ sizeLine)
    (k : ∀ p F' H', Gr [] F H F' H' → H p = none → Dp K F' (.ref p) (.list ds) → Q (.ref p) H') : xs.length ≤ sizeLine ∧ ∀ p, H p = none → Q (.ref p) (upd H p (.lst xs)) :=
  ⟨hl, fun p hp => by
    have g : Gr [] F H (upd F p (.lst xs)) (upd H p (.lst xs)) := Gr.new s hp
    exact k p _ _ g hp (.lst (.inl (.inl upd_same)) (DpAll.to h g.fs))⟩
/-- the same where the length is already told -/
theorem made_lst {F H : Hp} {xs : List V} {ds : List PyData} {Q : VK} (s : Same F H) (h : DpAll K F xs ds)
    (k : ∀ p F' H', Gr [] F H F' H' → H p = none → Dp K F' (.ref p) (.list ds) → Q (.ref p) H') : ∀ p, H p = none → Q (.ref p) (upd H p (.lst xs)) := fun p hp => by
  have g : Gr [] F H (upd F p (.lst xs)) (upd H p (.lst xs)) := Gr.new s hp
  exact k p _ _ g hp (.lst (.inl (.inl upd_same)) (DpAll.to h g.fs))
theorem made_tup {F H : Hp} {xs : List V} {ds : List PyData} {Q : VK} (s : Same F H) (h : DpAll K F xs ds)
    (k : ∀ p F' H', Gr [] F H F' H' → H p = none → Dp K F' (.ref p) (.tuple ds) → Q (.ref p) H') : ∀ p, H p = none → Q (.ref p) (upd H p (.tup xs)) := fun p hp => by
  have g : Gr [] F H (upd F p (.tup xs)) (upd H p (.tup xs)) := Gr.new s hp
  exact k p _ _ g hp (.tup (.inl (.inl upd_same)) (DpAll.to h g.fs))
/-- a list that the code goes on to change: it is not frozen -/
theorem own_lst {F H : Hp} {xs : List V} {Q : VK} (s : Same F H) (hl : xs.length ≤ sizeLine)
    (k : ∀ p H', Gr [] F H F H' → H p = none → F p = none → H' p = some (.lst xs) → Q (.ref p) H') : xs.length ≤ sizeLine ∧ ∀ p, H p = none → Q (.ref p) (upd H p (.lst xs)) :=
  ⟨hl, fun p hp => k p _ (Gr.newOwn s hp) hp (sub_free s hp) upd_same⟩

/-! the same, whatever is asked behind -/
theorem new_tupG {F H : Hp} {xs : List V} {ds : List PyData} {G : Addr → Prop} (s : Same F H) (h : DpAll K F xs ds) (hl : xs.length ≤ sizeLine)
    (k : ∀ p F', Gr [] F H F' (upd H p (.tup xs)) → H p = none → Dp K F' (.ref p) (.tuple ds) → G p) : xs.length ≤ sizeLine ∧ ∀ p, H p = none → G p :=
  ⟨hl, fun p hp => by
    have g : Gr [] F H (upd F p (.tup xs)) (upd H p (.tup xs)) := Gr.new s hp
    exact k p _ g hp (.tup (.inl (.inl upd_same)) (DpAll.to h g.fs))⟩
theorem new_lstG {F H : Hp} {xs : List V} {ds : List PyData} {G : Addr → Prop} (s : Same F H) (h : DpAll K F xs ds) (hl : xs.length ≤ sizeLine)
    (k : ∀ p F', Gr [] F H F' (upd H p (.lst xs)) → H p = none → Dp K F' (.ref p) (.list ds) → G p) : xs.length ≤ sizeLine ∧ ∀ p, H p = none → G p :=
  ⟨hl, fun p hp => by
    have g : Gr [] F H (upd F p (.lst xs)) (upd H p (.lst xs)) := Gr.new s hp
    exact k p _ g hp (.lst (.inl (.inl upd_same)) (DpAll.to h g.fs))⟩
theorem made_lstG {F H : Hp} {xs : List V} {ds : List PyData} {G : Addr → Prop} (s : Same F H) (h : DpAll K F xs ds)
    (k : ∀ p F', Gr [] F H F' (upd H p (.lst xs)) → H p = none → Dp K F' (.ref p) (.list ds) → G p) : ∀ p, H p = none → G p := fun p hp => by
  have g : Gr [] F H (upd F p (.lst xs)) (upd H p (.lst xs)) := Gr.new s hp
  exact k p _ g hp (.lst (.inl (.inl upd_same)) (DpAll.to h g.fs))
theorem made_tupG {F H : Hp} {xs : List V} {ds : List PyData} {G : Addr → Prop} (s : Same F H) (h : DpAll K F xs ds)
    (k : ∀ p F', Gr [] F H F' (upd H p (.tup xs)) → H p = none → Dp K F' (.ref p) (.tuple ds) → G p) : ∀ p, H p = none → G p := fun p hp => by
  have g : Gr [] F H (upd F p (.tup xs)) (upd H p (.tup xs)) := Gr.new s hp
  exact k p _ g hp (.tup (.inl (.inl upd_same)) (DpAll.to h g.fs))
theorem own_lstG {F H : Hp} {xs : List V} {G : Addr → Prop} (s : Same F H) (hl : xs.length ≤ sizeLine)
    (k : ∀ p, Gr [] F H F (upd H p (.lst xs)) → H p = none → F p = none → upd H p (.lst xs) p = some (.lst xs) → G p) : xs.length ≤ sizeLine ∧ ∀ p, H p = none → G p :=
  ⟨hl, fun p hp => k p (Gr.newOwn s hp) hp (sub_free s hp) upd_same⟩
theorem mine_lstG {F H : Hp} {xs : List V} {G : Addr → Prop} (s : Same F H)
    (k : ∀ p, Gr [] F H F (upd H p (.lst xs)) → H p = none → F p = none → upd H p (.lst xs) p = some (.lst xs) → G p) : ∀ p, H p = none → G p :=
  fun p hp => k p (Gr.newOwn s hp) hp (sub_free s hp) upd_same

/-! ### isinstance of data -/
def isInt : PyData → Bool
  | .int _ => true | .bool _ => true | _ => false
def isBool : PyData → Bool
  | .bool _ => true | _ => false
def isStr : PyData → Bool
  | .str _ => true | _ => false
def isTup : PyData → Bool
  | .tuple _ => true | _ => false
def isLst : PyData → Bool
  | .list _ => true | _ => false
def tyN : PyData → String
  | .none => "NoneType" | .bool _ => "bool" | .int _ => "int" | .str _ => "str" | .list _ => "list" | .tuple _ => "tuple" | .dict _ => "dict"
theorem tyx_of {F H : Hp} {v : V} {d : PyData} (h : Dp K F v d) (s : Same F H) : TyX K H v (.type (tyN d)) := by
  cases h with
  | non => exact .base .non
  | bl b => exact .base (.bl b)
  | int i => exact .base (.int i)
  | str x => exact .base (.str x)
  | lst h1 h2 =>
    rcases h1 with (h1 | ⟨o, h1⟩) | ⟨o, its, n, h1, h2, _⟩
    · exact .base (.lst (s _ _ h1))
    · exact .base (.frz (s _ _ h1))
    · exact .kList h1 h2
  | tup h1 h2 =>
    rcases h1 with (h1 | ⟨o, h1⟩) | ⟨o, its, n, h1, h2, _⟩
    · exact .base (.tup (s _ _ h1))
    · exact .fTuple (s _ _ h1)
    · exact .kTuple h1 h2
theorem isi_int {F H : Hp} {v : V} {d : PyData} {Q : VK} (h : Dp K F v d) (s : Same F H) (q : Q (.bl (isInt d)) H) : rIsi K [v, .ty "int"] H Q := by
  refine ⟨v, _, _, _, isInt d, rfl, .ty _, tyx_of h s, ?_, q⟩
  cases h <;> (refine kit_ty ?_; dsimp only [tyN, isInt]; decide +kernel)
theorem isi_bool {F H : Hp} {v : V} {d : PyData} {Q : VK} (h : Dp K F v d) (s : Same F H) (q : Q (.bl (isBool d)) H) : rIsi K [v, .ty "bool"] H Q := by
  refine ⟨v, _, _, _, isBool d, rfl, .ty _, tyx_of h s, ?_, q⟩
  cases h <;> (refine kit_ty ?_; dsimp only [tyN, isBool]; decide +kernel)
theorem isi_str {F H : Hp} {v : V} {d : PyData} {Q : VK} (h : Dp K F v d) (s : Same F H) (q : Q (.bl (isStr d)) H) : rIsi K [v, .ty "str"] H Q := by
  refine ⟨v, _, _, _, isStr d, rfl, .ty _, tyx_of h s, ?_, q⟩
  cases h <;> (refine kit_ty ?_; dsimp only [tyN, isStr]; decide +kernel)
theorem isi_tup {F H : Hp} {v : V} {d : PyData} {Q : VK} (h : Dp K F v d) (s : Same F H) (q : Q (.bl (isTup d)) H) : rIsi K [v, .ty "tuple"] H Q := by
  refine ⟨v, _, _, _, isTup d, rfl, .ty _, tyx_of h s, ?_, q⟩
  cases h <;> (refine kit_ty ?_; dsimp only [tyN, isTup]; decide +kernel)
theorem isi_lst {F H : Hp} {v : V} {d : PyData} {Q : VK} (h : Dp K F v d) (s : Same F H) (q : Q (.bl (isLst d)) H) : rIsi K [v, .ty "list"] H Q := by
  refine ⟨v, _, _, _, isLst d, rfl, .ty _, tyx_of h s, ?_, q⟩
  cases h <;> (refine kit_ty ?_; dsimp only [tyN, isLst]; decide +kernel)
end DL

namespace DL
open PySem PySem.Spec PyProof.Rows L2
section
variable {X : Cx}
/-! ### rules for several kinds at once -/
def CPowW (i j : Int) : Prop := 0 ≤ j ∧ (Builtin.Int.intBits i : Int) * j ≤ 2 ^ 27
theorem op_powW : OpR X (binaryOp .Pow) (rI CPowW fun i j => .int (i ^ j.toNat)) := opI fun _ _ _ _ _ _ _ hc q => pow_int hc.1 hc.2 q
theorem powW_of {i j : Int} {a b : Nat} (ha : i.natAbs < 2 ^ a) (h0 : 0 < a) (hj : 0 ≤ j) (hb : j ≤ (b : Int)) (h : a * b ≤ 1000000) : CPowW i j := by
  have x := PySem.Flt.log2_lt_of h0 ha
  have e : Builtin.Int.intBits i ≤ i.natAbs.log2 + 1 := by
    unfold Builtin.Int.intBits
    split <;> omega
  refine ⟨hj, ?_⟩
  have h1 : (Builtin.Int.intBits i : Int) ≤ (a : Int) := by omega
  have h2 : (Builtin.Int.intBits i : Int) * j ≤ (a : Int) * (b : Int) := Int.mul_le_mul h1 hb hj (by omega)
  have h3 : ((a * b : Nat) : Int) ≤ ((1000000 : Nat) : Int) := Int.ofNat_le.mpr h
  rw [Int.natCast_mul] at h3
  exact Int.le_trans h2 (Int.le_trans h3 (by decide))
def rAddU (K : PySem.W.Frag) : R2 := fun x y H Q => rI0 (fun i j => .int (i + j)) x y H Q ∨ rCatA K x y H Q ∨ rCat x y H Q
theorem op_addU : OpR X (binaryOp .Add) (rAddU X.K) := OpR.or op_add (OpR.or op_catA op_cat)
def rEqU (K : PySem.W.Frag) : R2 := fun x y H Q => rEq x y H Q ∨ rEqD K x y H Q
def rNeU (K : PySem.W.Frag) : R2 := fun x y H Q => rNe x y H Q ∨ rNeD K x y H Q
theorem op_eqU (hu : X.A.units + 64 < cLine) : OpR X (compareOp .Eq) (rEqU X.K) := OpR.or op_eq (op_eqD hu)
theorem op_neU (hu : X.A.units + 64 < cLine) : OpR X (compareOp .NotEq) (rNeU X.K) := OpR.or op_ne (op_neD hu)
def rIsU : R2 := fun x y H Q => (y = .non ∧ Q (.bl (decide (x = .non))) H) ∨ (∃ a b, x = .bl a ∧ y = .bl b ∧ Q (.bl (decide (a = b))) H)
def rIsNotU : R2 := fun x y H Q => (y = .non ∧ Q (.bl (!decide (x = .non))) H) ∨ (∃ a b, x = .bl a ∧ y = .bl b ∧ Q (.bl (!decide (a = b))) H)
theorem op_isU : OpR X (compareOp .Is) rIsU := OpR.or op_isN op_is_bl
theorem op_isNotU : OpR X (compareOp .IsNot) rIsNotU := OpR.or op_notN op_isnot_bl
def rLenU (K : PySem.W.Frag) : List V → Hp → VK → Prop := fun xs H Q => (∃ p ys, xs = [.ref p] ∧ (SqL K H p ys ∨ SqT K H p ys) ∧ Q (.int ys.length) H) ∨ (∃ a kvs, xs = [V.ref a] ∧ H a = some (.dK kvs) ∧ Q (.int kvs.length) H)
theorem call_lenU : CallR X (.builtin "len") (rLenU X.K) := CallR.or call_len_seq call_lenD
def rSlU (K : PySem.W.Frag) : V → Option Int → Option Int → Hp → VK → Prop := fun x lo hi H Q => rSlL K x lo hi H Q ∨ rSlA K x lo hi H Q
theorem sl_U : SlR X (rSlU X.K) := SlR.or sl_list sl_tupA
theorem pi_or {tg it : Expr} {w1 w2 : TI} (h1 : PI X tg it w1) (h2 : PI X tg it w2) : PI X tg it (fun σ H R => w1 σ H R ∨ w2 σ H R) := ⟨fun pins s σ H R I h => h.elim (h1.run pins s σ H R I) (h2.run pins s σ H R I)⟩
def iSeq (K : PySem.W.Frag) (tl : TE) : TI := fun σ H R => iList K tl σ H R ∨ iTup K tl σ H R
theorem pi_seq {tg e : Expr} {te : TE} (he : PE X e te) : PI X tg e (iSeq X.K te) := pi_or (pi_list he) (pi_tup he)

/-! ### a call of a def of the text, all that is told of it in one place -/
structure Cal (P : Program) (w : World) (K : PySem.W.Frag) (mg : Str → Option Value) (base : Heap) (CX : CXT) (k : Nat) (x : Str) (ps : List Str) (sp : Sp) : Prop where
  ex : ∃ (f : Addr) (fd : FuncData), FnOk P w K mg base CX k f fd ps sp ∧ mg x = some (.ref f) ∧ PySem.W.keepIn K (.ref f) = true ∧ Binds K fd ps []
theorem Cal.mono {P : Program} {w : World} {K : PySem.W.Frag} {mg : Str → Option Value} {base : Heap} {CX : CXT} {j k : Nat} {x : Str} {ps : List Str} {sp : Sp} (c : Cal P w K mg base CX j x ps sp) (h : j ≤ k) : Cal P w K mg base CX k x ps sp := by
  obtain ⟨f, fd, F, m, kp, b⟩ := c.ex
  exact ⟨f, fd, F.mono h, m, kp, b⟩
theorem Cal.imp {P : Program} {w : World} {K : PySem.W.Frag} {mg : Str → Option Value} {base : Heap} {CX : CXT} {k : Nat} {x : Str} {ps : List Str} {sp sp' : Sp} (c : Cal P w K mg base CX k x ps sp) (h : ∀ vs H Q E, sp' vs H Q E → sp vs H Q E) : Cal P w K mg base CX k x ps sp' := by
  obtain ⟨f, fd, F, m, kp, b⟩ := c.ex
  exact ⟨f, fd, F.imp h, m, kp, b⟩
theorem pe_cal {k : Nat} {x : Str} {ps : List Str} {sp : Sp} {CX : CXT} {E : XK} {e : Expr} {es : List Expr} {t : TA} {p pos : Pos} (c : Cal X.prog X.w X.K X.mg X.base CX k x ps sp) (hr : Room k X.A) (hx : Passes CX X E) (ha : PA X (e :: es) t) (hg : Gl X x := by rfl)
    (hdb : (x == ("__debug__" : Str)) = false := by decide) (he : starEach (e :: es) X.env = (false, eval e X.env) :: starEach es X.env := by rfl) (hpl : (backTo pos (starEach es X.env)).any (·.1) = false := by rfl) :
    PE X (.Call (.Name x p) (e :: es) [] pos) (tCall sp [] E t) := by
  obtain ⟨f, fd, F, m, kp, b⟩ := c.ex
  exact pe_call F hr hg m kp b .nil hx ha hdb he hpl
theorem pe_cal0 {k : Nat} {x : Str} {ps : List Str} {sp : Sp} {CX : CXT} {E : XK} {p pos : Pos} (c : Cal X.prog X.w X.K X.mg X.base CX k x ps sp) (hr : Room k X.A) (hx : Passes CX X E) (hg : Gl X x := by rfl)
    (hdb : (x == ("__debug__" : Str)) = false := by decide) : PE X (.Call (.Name x p) [] [] pos) (tCall sp [] E tNil) := by
  obtain ⟨f, fd, F, m, kp, b⟩ := c.ex
  exact pe_call0 F hr hg m kp b .nil hx hdb
/-- f(..) where what is raised is wished for at the slots -/
theorem pe_calS {k : Nat} {x : Str} {ps : List Str} {sp : Sp} {CX : CXT} {E : L2.St → XK} {e : Expr} {es : List Expr} {t : TA} {p pos : Pos} (c : Cal X.prog X.w X.K X.mg X.base CX k x ps sp) (hr : Room k X.A) (hx : ∀ σ, PassesAt CX X σ (E σ)) (ha : PA X (e :: es) t) (hg : Gl X x := by rfl)
    (hdb : (x == ("__debug__" : Str)) = false := by decide) (he : starEach (e :: es) X.env = (false, eval e X.env) :: starEach es X.env := by rfl) (hpl : (backTo pos (starEach es X.env)).any (·.1) = false := by rfl) :
    PE X (.Call (.Name x p) (e :: es) [] pos) (tCallS sp E t) := by
  obtain ⟨f, fd, F, m, kp, b⟩ := c.ex
  exact pe_callS F hr hg m kp b hx ha hdb he hpl
/-- a method of the class at C -/
structure MCal (P : Program) (w : World) (K : PySem.W.Frag) (mg : Str → Option Value) (base : Heap) (CX : CXT) (k : Nat) (C : Addr) (m : Str) (ps : List Str) (sp : Sp) : Prop where
  ex : ∃ (f : Addr) (fd : FuncData), FnOk P w K mg base CX k f fd ps sp ∧ Meth K C m f ∧ Binds K fd ps []
theorem pe_mcal {pl : Sem Bool} {k : Nat} {C : Addr} {m : Str} {ps : List Str} {sp : Sp} {CX : CXT} {E : XK} {o e : Expr} {es : List Expr} {ta : TE} {t : TA} {apos pos : Pos} (c : MCal X.prog X.w X.K X.mg X.base CX k C m ps sp) (cl : Cls X.K C) (hr : Room k X.A) (hx : Passes CX X E) (ho : PE X o ta) (ha : PA X (e :: es) t)
    (hst : starEach (e :: es) X.env = (false, eval e X.env) :: starEach es X.env := by rfl) (hpl : (backTo pos (starEach es X.env)).any (·.1) = false := by rfl)
    (ht : eval (.Call (.Attribute o m apos) (e :: es) [] pos) X.env = (do
      let ov ← eval o X.env
      standAt apos.atName
      let (f, first) ← holding [ov] (getMethod ov m pl)
      callWith pos f first (backTo pos (starEach (e :: es) X.env)) (backToKw pos (keywordEach [] X.env))) := by rfl) : PE X (.Call (.Attribute o m apos) (e :: es) [] pos) (tMeth C m sp [] E ta t) := by
  obtain ⟨f, fd, F, mt, b⟩ := c.ex
  exact pe_meth (pl := pl) ho cl mt F hr b .nil hx ha hst hpl ht
theorem pe_mcal0 {pl : Sem Bool} {k : Nat} {C : Addr} {m : Str} {ps : List Str} {sp : Sp} {CX : CXT} {E : XK} {o : Expr} {ta : TE} {apos pos : Pos} (c : MCal X.prog X.w X.K X.mg X.base CX k C m ps sp) (cl : Cls X.K C) (hr : Room k X.A) (hx : Passes CX X E) (ho : PE X o ta)
    (ht : eval (.Call (.Attribute o m apos) [] [] pos) X.env = (do
      let ov ← eval o X.env
      standAt apos.atName
      let (f, first) ← holding [ov] (getMethod ov m pl)
      callWith pos f first (backTo pos (starEach [] X.env)) (backToKw pos (keywordEach [] X.env))) := by rfl)
    : PE X (.Call (.Attribute o m apos) [] [] pos) (tMeth C m sp [] E ta tNil) := by
  obtain ⟨f, fd, F, mt, b⟩ := c.ex
  exact pe_meth0 (pl := pl) ho cl mt F hr b .nil hx ht
/-- a class's name called: a new instance by its __init__ -/
structure CCal (P : Program) (w : World) (K : PySem.W.Frag) (mg : Str → Option Value) (base : Heap) (CX : CXT) (k : Nat) (C : Addr) (x : Str) (ps : List Str) (sp : Sp) : Prop where
  ex : ∃ (f : Addr) (fd : FuncData), FnOk P w K mg base CX k f fd ps sp ∧ Mk K C f ∧ mg x = some (.ref C) ∧ Binds K fd ps []
theorem pe_ccal {k : Nat} {C : Addr} {x : Str} {ps : List Str} {sp : Sp} {CX : CXT} {E : XK} {e : Expr} {es : List Expr} {t : TA} {p pos : Pos} (c : CCal X.prog X.w X.K X.mg X.base CX k C x ps sp) (hr : Room (k + 1) X.A) (hx : Passes CX X E) (ha : PA X (e :: es) t) (hg : Gl X x := by rfl)
    (hdb : (x == ("__debug__" : Str)) = false := by decide) (he : starEach (e :: es) X.env = (false, eval e X.env) :: starEach es X.env := by rfl) (hpl : (backTo pos (starEach es X.env)).any (·.1) = false := by rfl) :
    PE X (.Call (.Name x p) (e :: es) [] pos) (tMake C sp [] E t) := by
  obtain ⟨f, fd, F, M, m, b⟩ := c.ex
  exact pe_make M F hr hg m b .nil hx ha hdb he hpl
theorem pe_ccal0 {k : Nat} {C : Addr} {x : Str} {ps : List Str} {sp : Sp} {CX : CXT} {E : XK} {p pos : Pos} (c : CCal X.prog X.w X.K X.mg X.base CX k C x ps sp) (hr : Room (k + 1) X.A) (hx : Passes CX X E) (hg : Gl X x := by rfl) (hdb : (x == ("__debug__" : Str)) = false := by decide) :
    PE X (.Call (.Name x p) [] [] pos) (tMake C sp [] E tNil) := by
  obtain ⟨f, fd, F, M, m, b⟩ := c.ex
  exact pe_make0 M F hr hg m b .nil hx hdb
end
end DL
namespace DL
open PySem PySem.Spec PyProof.Rows L2
/-- a module's constant -/
structure GV (mg : Str → Option Value) (x : Str) (v : V) : Prop where
  ex : ∃ u, mg x = some u ∧ RelV v u
theorem pe_gv {X : Cx} {x : Str} {v : V} {pos : Pos} (h : GV X.mg x v) (hg : Gl X x := by rfl) (hd : (x == ("__debug__" : Str)) = false := by decide) : PE X (.Name x pos) (tC v) := by
  obtain ⟨u, m, r⟩ := h.ex
  exact pe_glob hg m r hd
/-- the built-in names are still the built-in ones -/
structure Blt (mg : Str → Option Value) : Prop where
  m_len : mg "len" = none
  m_int : mg "int" = none
  m_bool : mg "bool" = none
  m_str : mg "str" = none
  m_list : mg "list" = none
  m_tuple : mg "tuple" = none
  m_dict : mg "dict" = none
  m_isinstance : mg "isinstance" = none
  m_abs : mg "abs" = none
  m_max : mg "max" = none
  m_min : mg "min" = none
  m_all : mg "all" = none
  m_sorted : mg "sorted" = none
  m_range : mg "range" = none
  m_enumerate : mg "enumerate" = none
  m_zip : mg "zip" = none
end DL

/-! steps of readings: each combinator's reading by its parts -/
namespace S
open PySem PySem.Spec PyProof.Rows L2 DL
section
variable {σ : L2.St} {H : Hp} {Q : VK} {i : Nat} {v x y : V} {ta tb tc te : TE} {t u : TT} {K : PySem.W.Frag} {tr : TA} {D : Ends} {s1 s2 : TS} {QT : Bool → Hp → Prop} {QA : List V → Hp → Prop}
theorem var (h : σ[i]? = some (some v)) (q : Q v H) : tVar i σ H Q := ⟨v, h, q⟩
theorem c (q : Q v H) : tC v σ H Q := q
theorem nil (q : QA [] H) : tNil σ H QA := q
theorem cons (q : ta σ H fun x H1 => tr σ H1 fun xs H2 => QA (x :: xs) H2) : tCons ta tr σ H QA := q
theorem cb {r : List V → Hp → VK → Prop} (q : tr σ H fun vs H1 => r vs H1 Q) : tCB r tr σ H Q := q
theorem op {r : R2} (q : ta σ H fun x H1 => tb σ H1 fun y H2 => r x y H2 Q) : tOp r ta tb σ H Q := q
theorem un {r : V → Hp → VK → Prop} (q : ta σ H fun x H1 => r x H1 Q) : tUn r ta σ H Q := q
theorem test (q : te σ H fun x H' => ∃ k, x = .bl k ∧ QT k H') : tTest te σ H QT := q
theorem tbT (q : te σ H fun x H' => ∃ k, x = .bl k ∧ QT k H') : tB te σ H QT := q
theorem bl {b : Bool} {P : Bool → Prop} (q : P b) : ∃ k, V.bl b = .bl k ∧ P k := ⟨b, rfl, q⟩
theorem and (q : t σ H fun c H1 => if c = true then u σ H1 QT else QT false H1) : tAnd t u σ H QT := q
theorem or (q : t σ H fun c H1 => if c = true then QT true H1 else u σ H1 QT) : tOr t u σ H QT := q
theorem not (q : t σ H fun c H1 => QT (!c) H1) : tNot t σ H QT := q
theorem andV (q : ta σ H fun x H1 => ∃ c, x = .bl c ∧ if c = true then tb σ H1 Q else Q (.bl false) H1) : tAndV ta tb σ H Q := q
theorem orV (q : ta σ H fun x H1 => ∃ c, x = .bl c ∧ if c = true then Q (.bl true) H1 else tb σ H1 Q) : tOrV ta tb σ H Q := q
theorem notV (q : ta σ H fun x H1 => ∃ c, x = .bl c ∧ Q (.bl (!c)) H1) : tNotV ta σ H Q := q
theorem ifE (q : t σ H fun c H1 => if c = true then ta σ H1 Q else tb σ H1 Q) : tIf t ta tb σ H Q := q
theorem chain {r r' : R2} (q : ta σ H fun x H1 => tb σ H1 fun y H2 => r x y H2 fun z H3 => ∃ k, z = .bl k ∧ (if k = true then tc σ H3 fun w' H4 => r' y w' H4 Q else Q (.bl false) H3)) : tChain r r' ta tb tc σ H Q := q
theorem tup (q : tr σ H fun xs H1 => xs.length ≤ sizeLine ∧ ∀ p, H1 p = none → Q (.ref p) (upd H1 p (.tup xs))) : tTup tr σ H Q := q
theorem lst (q : tr σ H fun xs H1 => xs.length ≤ sizeLine ∧ ∀ p, H1 p = none → Q (.ref p) (upd H1 p (.lst xs))) : tLst tr σ H Q := q
theorem call {sp : Sp} {E : XK} (q : tr σ H fun vs H1 => sp (vs ++ []) H1 Q E) : tCall sp [] E tr σ H Q := q
theorem callS {sp : Sp} {E : L2.St → XK} (q : tr σ H fun vs H1 => sp vs H1 Q (E σ)) : tCallS sp E tr σ H Q := q
theorem meth {C : Addr} {m : Str} {sp : Sp} {E : XK} (q : ta σ H fun x H1 => ∃ a dx fs, x = .ref a ∧ H1 a = some (.ins C dx fs) ∧ fs.lookup m = none ∧ tr σ H1 fun vs H2 => sp (x :: (vs ++ [])) H2 Q E) : tMeth C m sp [] E ta tr σ H Q := q
theorem make {C : Addr} {sp : Sp} {E : XK} (q : tr σ H fun vs H1 => ∀ x dx, H1 x = none → H1 dx = none → dx ≠ x → sp (.ref x :: (vs ++ [])) (upd (upd H1 dx (.own x)) x (.ins C dx [])) (fun v H2 => v = .non ∧ Q (.ref x) H2) E) : tMake C sp [] E tr σ H Q := q
theorem fld {f : Str} (q : ta σ H fun x H1 => ∃ a C dx fs v, x = .ref a ∧ H1 a = some (.ins C dx fs) ∧ Cls K C ∧ NoAttr K C f ∧ fs.lookup f = some v ∧ Q v H1) : tFld K ta f σ H Q := q
theorem sl {r : V → Option Int → Option Int → Hp → VK → Prop} {tl th : TO} (q : te σ H fun x H1 => tl σ H1 fun l H2 => th σ H2 fun u H3 => r x l u H3 Q) : tSl r te tl th σ H Q := q
theorem noPart {QO : Option Int → Hp → Prop} (q : QO none H) : tNoPart σ H QO := q
theorem part {QO : Option Int → Hp → Prop} (q : te σ H fun x H1 => ∃ i, x = .int i ∧ QO (some i) H1) : tPart te σ H QO := q
theorem intI {n : Int} {P : Int → Prop} (q : P n) : ∃ i, V.int n = .int i ∧ P i := ⟨n, rfl, q⟩
theorem dget (q : ta σ H fun x H1 => tb σ H1 fun y H2 => ∃ a v, x = .ref a ∧ DGet H2 a y (some v) ∧ Q v H2) : tDGet ta tb σ H Q := q
theorem din (q : ta σ H fun y H1 => tb σ H1 fun x H2 => ∃ a o, x = .ref a ∧ DGet H2 a y o ∧ Q (.bl o.isSome) H2) : tDIn ta tb σ H Q := q
theorem dnotin (q : ta σ H fun y H1 => tb σ H1 fun x H2 => ∃ a o, x = .ref a ∧ DGet H2 a y o ∧ Q (.bl (!o.isSome)) H2) : tDNotIn ta tb σ H Q := q
theorem dget1 (q : ta σ H fun x H1 => ∃ a, x = .ref a ∧ IsD H1 a ∧ tb σ H1 fun y H2 => ∃ o, DGet H2 a y o ∧ Q (o.getD .non) H2) : tDGet1 ta tb σ H Q := q
theorem bm0 {T : String} {r : V → List V → Hp → VK → Prop} (q : te σ H fun x H1 => tyV K T x H1 ∧ r x [] H1 Q) : tBM0 K T r te σ H Q := q
theorem bm {T : String} {r : V → List V → Hp → VK → Prop} (q : te σ H fun x H1 => tyV K T x H1 ∧ tr σ H1 fun xs H2 => r x xs H2 Q) : tBM K T r te tr σ H Q := q
-- statements
theorem seq (q : s1 { D with nx := s2 D } σ H) : tSeq s1 s2 D σ H := q
theorem ret (q : te σ H D.rt) : tRet te D σ H := q
theorem retN (q : D.rt .non H) : tRetN D σ H := q
theorem drop (q : te σ H fun _ H1 => D.nx σ H1) : tDrop te D σ H := q
theorem ifS (q : t σ H fun b H1 => if b = true then s1 D σ H1 else s2 D σ H1) : tIfS t s1 s2 D σ H := q
theorem next (q : D.nx σ H) : tNext D σ H := q
theorem cont (q : D.ct σ H) : tCont D σ H := q
theorem asg {g : TG} (q : te σ H fun x H1 => g x σ H1 D.nx) : tAsg te g D σ H := q
theorem name {QS : L2.St → Hp → Prop} (q : QS (σ.set i (some v)) H) : gName i v σ H QS := q
theorem gsub {to ti : TE} {ts : TSet} {QS : L2.St → Hp → Prop} (q : to σ H fun o H1 => ti σ H1 fun i H2 => ts o i v H2 fun H3 => QS σ H3) : gSub to ti ts v σ H QS := q
theorem par {j : Nat} (q : tr σ H fun vs H1 => ∃ v w, vs = [v, w] ∧ D.nx ((σ.set i (some v)).set j (some w)) H1) : tPar i j tr D σ H := q
theorem par3 {j l : Nat} (q : tr σ H fun vs H1 => ∃ u v w, vs = [u, v, w] ∧ D.nx (((σ.set i (some u)).set j (some v)).set l (some w)) H1) : tPar3 i j l tr D σ H := q
theorem sfld {f : Str} {tv : TE} (q : tv σ H fun y H1 => ta σ H1 fun x H2 => ∃ a C dx fs, x = .ref a ∧ H2 a = some (.ins C dx fs) ∧ Cls K C ∧ NoAttr K C f ∧ fs.length < 1000 ∧ D.nx σ (upd H2 a (.ins C dx (putF f y fs)))) : sFld K ta tv f D σ H := q
theorem dput {td ty tv : TE} (q : tv σ H fun v H1 => td σ H1 fun x H2 => ty σ H2 fun y H3 => ∃ a H4, x = .ref a ∧ DPut H3 a y v H4 ∧ D.nx σ H4) : sDPut td ty tv D σ H := q
theorem daug {td ty tv : TE} {rd : V → V → Hp → VK → Prop} (q : td σ H fun x H1 => ty σ H1 fun y H2 => ∃ a v, x = .ref a ∧ DGet H2 a y (some v) ∧ tv σ H2 fun y2 H3 => rd v y2 H3 fun z H4 => ∃ H5, DPut H4 a y z H5 ∧ D.nx σ H5) : sDAug td ty tv rd D σ H := q
theorem aug {ti : TIp} {te : TE} (q : ∃ x, σ[i]? = some (some x) ∧ te σ H fun y H1 => ti x y H1 fun z H2 => D.nx (σ.set i (some z)) H2) : tAug i te ti D σ H := q
theorem fldaug {f : Str} {tv : TE} {rd : V → V → Hp → VK → Prop} (q : ta σ H fun x H1 => ∃ a C dx fs v, x = .ref a ∧ H1 a = some (.ins C dx fs) ∧ Cls K C ∧ NoAttr K C f ∧ fs.lookup f = some v ∧ tv σ H1 fun y H2 => rd v y H2 fun z H3 => ∃ dx' fs', H3 a = some (.ins C dx' fs') ∧ fs'.length < 1000 ∧ D.nx σ (upd H3 a (.ins C dx' (putF f z fs')))) : sFldAug K ta tv rd f D σ H := q
theorem dpop1 {td ty : TE} (q : td σ H fun x H1 => ∃ a, x = .ref a ∧ IsD H1 a ∧ ty σ H1 fun y H2 => ∃ kvs k v, H2 a = some (.dK kvs) ∧ y = kV k ∧ valV kvs k = some v ∧ Q v (upd H2 a (.dK (dropK kvs k)))) : tDPop1 td ty σ H Q := q
theorem dpop2 {td ty tx : TE} (q : td σ H fun x H1 => ∃ a, x = .ref a ∧ IsD H1 a ∧ ty σ H1 fun y H2 => tx σ H2 fun z H3 => ∃ kvs k, H3 a = some (.dK kvs) ∧ y = kV k ∧ (∀ v, valV kvs k = some v → Q v (upd H3 a (.dK (dropK kvs k)))) ∧ (valV kvs k = none → Q z H3)) : tDPop2 td ty tx σ H Q := q
theorem lock {t : TS} (q : ∃ d u, H d = some u ∧ Mut (some u) ∧ ∀ od, t ⟨fun σ' H' => H' d = some (.frz od u) ∧ D.nx σ' (upd H' d u), fun v H' => H' d = some (.frz od u) ∧ D.rt v (upd H' d u), fun σ' H' => H' d = some (.frz od u) ∧ D.bk σ' (upd H' d u), fun σ' H' => H' d = some (.frz od u) ∧ D.ct σ' (upd H' d u)⟩ σ (upd H d (.frz od u))) : tLock t D σ H := q
theorem dnewK (q : ∀ p, H p = none → Q (.ref p) (upd H p (.dK []))) : tDNewK σ H Q := q
theorem disp {trs : List (TE × TE)} (q : ∀ p, H p = none → tPairs trs σ (upd H p (.dK [])) fun ps H2 => H2 p = some (.dK []) ∧ ∃ kvs : List (Key × V), ps = kvs.map (fun kv => (kV kv.1, kv.2)) ∧ kvs.length ≤ 15 ∧ Q (.ref p) (upd H2 p (.dK (mergeK [] kvs)))) : tDisp trs σ H Q := q
theorem forS {wi : TI} {g : TG} {tb : TS} (q : wi σ H fun J H1 => ∃ W : Nat → Nat → L2.St → Hp → Prop, (∃ m, W 0 m σ H1) ∧ ∀ i m σ H, W i m σ H →
  (J.stop i H ∧ D.nx σ H) ∨ (J.go i H ∧ ∃ N : L2.St → Hp → Prop, (∀ σ' H', N σ' H' → ∃ m', m' < m ∧ W (i + 1) m' σ' H') ∧ ∀ x H', J.yld i H x H' → g x σ H' fun σ2 H2 => tb { D with nx := N, ct := N, bk := D.nx } σ2 H2)) : tFor wi g tb D σ H := q
theorem iVals {td : TE} {R : It → Hp → Prop} (q : td σ H fun x H1 => ∃ d o kvs, x = .ref d ∧ H1 d = some (.frz o (.dK kvs)) ∧ R (Itd d o kvs) H1) : iVals td σ H R := q
theorem iItems {td : TE} {R : It → Hp → Prop} (q : td σ H fun x H1 => ∃ d o kvs, x = .ref d ∧ H1 d = some (.frz o (.dK kvs)) ∧ R (Iti d o kvs) H1) : L2.iItems td σ H R := q
theorem iSeqL {tl : TE} {R : It → Hp → Prop} (q : tl σ H fun x H1 => ∃ a, x = .ref a ∧ (∃ xs, SqL K H1 a xs) ∧ R (Itl K a) H1) : iSeq K tl σ H R := .inl q
theorem iSeqT {tl : TE} {R : It → Hp → Prop} (q : tl σ H fun x H1 => ∃ a, x = .ref a ∧ (∃ xs, SqT K H1 a xs) ∧ R (Itt K a) H1) : iSeq K tl σ H R := .inr q
-- operators on ints
theorem i0 {g : Int → Int → V} {a b : Int} (q : Q (g a b) H) : rI0 g (.int a) (.int b) H Q := ⟨a, b, rfl, rfl, q⟩
theorem rI {C : Int → Int → Prop} {g : Int → Int → V} {a b : Int} (h : C a b) (q : Q (g a b) H) : L2.rI C g (.int a) (.int b) H Q := ⟨a, b, rfl, rfl, h, q⟩
theorem neg {g : Int → V} {a : Int} (q : Q (g a) H) : rU g (.int a) H Q := ⟨a, rfl, q⟩
theorem addI {a b : Int} (q : Q (.int (a + b)) H) : rAddU K (.int a) (.int b) H Q := .inl ⟨a, b, rfl, rfl, q⟩
theorem eqI {a b : Int} (q : Q (.bl (decide (a = b))) H) : rEqU K (.int a) (.int b) H Q := .inl ⟨rfl, by
  have e : decide ((V.int a) = V.int b) = decide (a = b) := by
    by_cases h : a = b
    · subst h; simp
    · rw [decide_eq_false h, decide_eq_false (fun z => h (V.int.inj z))]
  rw [e]; exact q⟩
theorem neI {a b : Int} (q : Q (.bl (!decide (a = b))) H) : rNeU K (.int a) (.int b) H Q := .inl ⟨rfl, by
  have e : decide ((V.int a) = V.int b) = decide (a = b) := by
    by_cases h : a = b
    · subst h; simp
    · rw [decide_eq_false h, decide_eq_false (fun z => h (V.int.inj z))]
  rw [e]; exact q⟩
theorem eqS {a b : Str} (q : Q (.bl (decide (a = b))) H) : rEqU K (.str a) (.str b) H Q := .inl ⟨rfl, by
  have e : decide ((V.str a) = V.str b) = decide (a = b) := by
    by_cases h : a = b
    · subst h; simp
    · rw [decide_eq_false h, decide_eq_false (fun z => h (V.str.inj z))]
  rw [e]; exact q⟩
theorem isN (q : Q (.bl (decide (v = .non))) H) : rIsU v .non H Q := .inl ⟨rfl, q⟩
theorem isNotN (q : Q (.bl (!decide (v = .non))) H) : rIsNotU v .non H Q := .inl ⟨rfl, q⟩
theorem isB {a b : Bool} (q : Q (.bl (decide (a = b))) H) : rIsU (.bl a) (.bl b) H Q := .inr ⟨a, b, rfl, rfl, q⟩
theorem isNotB {a b : Bool} (q : Q (.bl (!decide (a = b))) H) : rIsNotU (.bl a) (.bl b) H Q := .inr ⟨a, b, rfl, rfl, q⟩
theorem ite {b : Bool} {A B : Prop} (h1 : b = true → A) (h2 : b = false → B) : if b = true then A else B := by
  cases b with
  | true => exact h1 rfl
  | false => exact h2 rfl
theorem iteT {A B : Prop} {b : Bool} (hb : b = true) (h : A) : if b = true then A else B := by subst hb; exact h
theorem iteF {A B : Prop} {b : Bool} (hb : b = false) (h : B) : if b = true then A else B := by subst hb; exact h
theorem vs1 {a : Int} {P : Int → Prop} (q : P a) : ∃ i, [V.int a] = [V.int i] ∧ P i := ⟨a, rfl, q⟩
theorem vs2 {a b : Int} {P : Int → Int → Prop} (q : P a b) : ∃ i j, [V.int a, V.int b] = [V.int i, V.int j] ∧ P i j := ⟨a, b, rfl, q⟩
theorem orL {A B : Prop} (q : A) : A ∨ B := .inl q
/-- int(i), abs(i), max(i, j), min(i, j) -/
theorem int1 {a : Int} (q : Q (.int a) H) : (∃ i, [V.int a] = [V.int i] ∧ Q (.int i) H) ∨ ∃ k, [V.int a] = [V.bl k] ∧ Q (.int (if k then 1 else 0)) H := .inl ⟨a, rfl, q⟩
theorem abs1 {a : Int} (q : Q (.int (if a < 0 then -a else a)) H) : ∃ i, [V.int a] = [V.int i] ∧ Q (.int (if i < 0 then -i else i)) H := ⟨a, rfl, q⟩
theorem max2 {a b : Int} (q : Q (.int (if b > a then b else a)) H) : ∃ i j, [V.int a, V.int b] = [V.int i, V.int j] ∧ Q (.int (if j > i then j else i)) H := ⟨a, b, rfl, q⟩
theorem min2 {a b : Int} (q : Q (.int (if b < a then b else a)) H) : ∃ i j, [V.int a, V.int b] = [V.int i, V.int j] ∧ Q (.int (if j < i then j else i)) H := ⟨a, b, rfl, q⟩
-- data
variable {F : Hp}
theorem lenT {ds : List PyData} (h : Dp K F v (.tuple ds)) (s : Same F H) (q : Q (.int ds.length) H) : rLenU K [v] H Q := by
  obtain ⟨a, xs, rfl, h1, h2⟩ := dp_tuple h
  exact .inl ⟨a, xs, rfl, .inr (same_tup s h1), by rw [dp_len h2]; exact q⟩
theorem lenL {ds : List PyData} (h : Dp K F v (.list ds)) (s : Same F H) (q : Q (.int ds.length) H) : rLenU K [v] H Q := by
  obtain ⟨a, xs, rfl, h1, h2⟩ := dp_list h
  exact .inl ⟨a, xs, rfl, .inl (same_lst s h1), by rw [dp_len h2]; exact q⟩
theorem lenO {a : Addr} {xs : List V} (h : H a = some (.lst xs)) (q : Q (.int xs.length) H) : rLenU K [.ref a] H Q := .inl ⟨a, xs, rfl, .inl (SqL.of h), q⟩
theorem lenD {a : Addr} {kvs : List (Key × V)} (h : H a = some (.dK kvs)) (q : Q (.int kvs.length) H) : rLenU K [.ref a] H Q := .inr ⟨a, kvs, rfl, h, q⟩
theorem atI_map {vs : List V} {ds : List PyData} (h : DpAll K F vs ds) {i : Int} {d : PyData} (e : atI ds i = some d) : ∃ v, atI vs i = some v ∧ Dp K F v d := by
  obtain ⟨j, h1, h2, h3, h4, h5⟩ := atI_get e
  obtain ⟨v, h6, h7⟩ := dp_get h h2
  refine ⟨v, ?_, h7⟩
  have hl := dp_len h
  unfold atI at e ⊢
  rw [hl]
  cases z : ixN ds.length i with
  | none => rw [z] at e; cases e
  | some k =>
    rw [z] at e
    have e' : ds[k]? = some d := e
    obtain ⟨v', h8, h9⟩ := dp_get h e'
    have hk : k = j := by
      obtain ⟨q1, _⟩ := ixN_seq z
      rw [q1] at h1
      exact Option.some.inj h1
    subst hk
    exact h6
theorem ixT {ds : List PyData} {d : PyData} {i : Int} (h : Dp K F v (.tuple ds)) (s : Same F H) (e : atI ds i = some d) (q : ∀ w, Dp K F w d → Q w H) : rIx K v (.int i) H Q := by
  obtain ⟨a, xs, rfl, h1, h2⟩ := dp_tuple h
  obtain ⟨w, h3, h4⟩ := atI_map h2 e
  exact .inr (.inl ⟨a, xs, i, w, rfl, rfl, same_tup s h1, h3, q w h4⟩)
theorem ixL {ds : List PyData} {d : PyData} {i : Int} (h : Dp K F v (.list ds)) (s : Same F H) (e : atI ds i = some d) (q : ∀ w, Dp K F w d → Q w H) : rIx K v (.int i) H Q := by
  obtain ⟨a, xs, rfl, h1, h2⟩ := dp_list h
  obtain ⟨w, h3, h4⟩ := atI_map h2 e
  exact .inl ⟨a, xs, i, w, rfl, rfl, same_lst s h1, h3, q w h4⟩
theorem ixO {a : Addr} {xs : List V} {w : V} {i : Int} (h : H a = some (.lst xs)) (e : atI xs i = some w) (q : Q w H) : rIx K (.ref a) (.int i) H Q := .inl ⟨a, xs, i, w, rfl, rfl, SqL.of h, e, q⟩
theorem eqD {d e : PyData} {w : V} (h : Dp K F v d) (h' : Dp K F w e) (s : Same F H) (hd : SeqAt.shaped d = true) (he : SeqAt.shaped e = true) (q : Q (.bl (PyData.eqv d e)) H) : rEqU K v w H Q := .inr ⟨d, e, h.to s, h'.to s, hd, he, q⟩
theorem neD {d e : PyData} {w : V} (h : Dp K F v d) (h' : Dp K F w e) (s : Same F H) (hd : SeqAt.shaped d = true) (he : SeqAt.shaped e = true) (q : Q (.bl (!PyData.eqv d e)) H) : rNeU K v w H Q := .inr ⟨d, e, h.to s, h'.to s, hd, he, q⟩
theorem setO {a : Addr} {xs : List V} {w : V} {i : Int} {j : Nat} {QH : Hp → Prop} (h : H a = some (.lst xs)) (e : ixN xs.length i = some j) (q : QH (upd H a (.lst (xs.set j w)))) : rSetL (.ref a) (.int i) w H QH := ⟨a, xs, i, j, rfl, rfl, h, e, q⟩
theorem appO {a : Addr} {xs : List V} {w : V} (h : H a = some (.lst xs)) (hl : xs.length < sizeLine) (q : Q .non (upd H a (.lst (xs ++ [w])))) : rAppend (.ref a) [w] H Q := ⟨a, xs, w, rfl, rfl, h, hl, q⟩
theorem extO {a b : Addr} {xs zs : List V} (h : H a = some (.lst xs)) (h' : H b = some (.lst zs)) (hl : xs.length + zs.length ≤ sizeLine) (q : Q .non (upd H a (.lst (xs ++ zs)))) : rExtend (.ref a) [.ref b] H Q := ⟨a, b, xs, zs, rfl, rfl, h, h', hl, q⟩
theorem tyO {a : Addr} {xs : List V} (h : H a = some (.lst xs)) {P : Prop} (q : P) : tyV K "list" (.ref a) H ∧ P := ⟨.inl ⟨rfl, _, .inl (.inl h)⟩, q⟩
end
end S

/-! rules that the layer lacks: enumerate(tuple), sorted(d.values()), f(k=..) by keywords alone -/
namespace DL
open PySem PySem.Spec PyProof.Rows L2
theorem meets_enum_tup (l : Addr) (items : Array Value) :
    Meets (Builtin.«enumerate.__new__» ⟨[.type "enumerate", .ref l], []⟩) (fun _ R s => s.heap.IsTuple l items ∧
      R (.ok (.ret (.ref (s.heap.push { cls := .type "tuple_iterator", data := .fields #[.ref l, .int 0 0] }).objs.size)))
        { s with heap := (s.heap.push { cls := .type "tuple_iterator", data := .fields #[.ref l, .int 0 0] }).push { cls := .type "enumerate", data := .fields #[.none, .bool false, .ref s.heap.objs.size, rawInt 0, .none, .none] } }) :=
  .of_wp fun prog w A R s h => by
    obtain ⟨hp, g, d, tk, os⟩ := s
    obtain ⟨hL, h⟩ := h
    have hsub := sub_enumerate
    wp_walk
    refine wpAny_stack_any fun st => wpAny_pure ?_
    split
    · rename_i c _ _ _ _ _
      cases (c == Value.type "enumerate")
      · wp_walk using wpAny_pyIter_tuple hL
        exact ⟨_, rfl, h⟩
      · wp_walk using wpAny_pyIter_tuple hL
        exact ⟨_, rfl, h⟩
    · wp_walk using wpAny_pyIter_tuple hL
      exact ⟨_, rfl, h⟩
section
variable {prog : Program} {w : World} {A : Around} {E : Value → Shared → Prop} {s : Shared}
theorem call_enumerate_tuple {l : Addr} {items : Array Value} {Q : Value → Shared → Prop} (hL : s.heap.IsTuple l items)
    (h : ∀ h', IsEnum h' (s.heap.objs.size + 1) s.heap.objs.size 0 .none → h'.IsTupleIter s.heap.objs.size l 0 → h'.objs.size = s.heap.objs.size + 2 →
      (∀ b o, s.heap.get? b = some o → h'.get? b = some o) → Q (.ref (s.heap.objs.size + 1)) { s with heap := h' }) :
    wpAny (model prog w) A (call (.type "enumerate") [.ref l]) Q E s := by
  refine callType_new F.called_enumerate (by decide) (F.typeCall_enumerate_1 _) (F.newCall_enumerate_1 _) (fun obj => F.args_object_init_2 obj _) F.entry_enumerate_new
    (meets_enum_tup l items) ⟨hL, ?_⟩
  have hz : (s.heap.push { cls := .type "tuple_iterator", data := .fields #[.ref l, .int 0 0] }).objs.size = s.heap.objs.size + 1 := Heap.size_push ..
  show _ ∧ _
  rw [hz]
  have he : IsEnum ((s.heap.push { cls := .type "tuple_iterator", data := .fields #[.ref l, .int 0 0] }).push
      { cls := .type "enumerate", data := .fields #[.none, .bool false, .ref s.heap.objs.size, rawInt 0, .none, .none] }) (s.heap.objs.size + 1) s.heap.objs.size 0 .none := by
    have := Heap.get?_push_size (s.heap.push { cls := .type "tuple_iterator", data := .fields #[.ref l, .int 0 0] })
      (o := { cls := .type "enumerate", data := .fields #[.none, .bool false, .ref s.heap.objs.size, rawInt 0, .none, .none] }) rfl
    rw [hz] at this; exact this
  exact ⟨⟨_, he, rfl⟩, h _ he ⟨_, Heap.get?_push_of_some _ (Heap.get?_push_size _ rfl), rfl, rfl⟩ (by rw [Heap.size_push, hz]) fun b o x => Heap.get?_push_of_some _ (Heap.get?_push_of_some _ x)⟩
end
/-- the tuple at a, each item in a new pair -/
def ItetT (K : PySem.W.Frag) (a : Addr) : It :=
  ⟨fun i H => ∃ (xs : List V) (x : V), SqT K H a xs ∧ xs[i]? = some x, fun i H v H' => ∃ T x, v = .ref T ∧ H T = none ∧ H' = upd H T (.tup [.int (i : Nat), x]) ∧ ∀ xs, SqT K H a xs → xs[i]? = some x, fun i H => ∃ xs : List V, SqT K H a xs ∧ xs.length ≤ i⟩
theorem turn_enumT {P : Program} {w : World} {K : PySem.W.Frag} {elts : List Expr} {kk : Nat} {tpos : Pos} (a e it : Addr) :
    Turn P w K (.Tuple elts kk tpos) (ItetT K a) [e, it] e (fun i h => (∃ old, IsEnum h e it ((i : Nat) : Int) old) ∧ h.IsTupleIter it a i ∧ e ≠ it) where
  mem := by simp
  obj := fun i h st b hb => by
    obtain ⟨⟨old, he⟩, ⟨o, ho, hc, hd⟩, _⟩ := st
    have e' : b = e ∨ b = it := by simpa using hb
    rcases e' with z | z
    · rw [z]; exact ⟨_, he, fun v q => nomatch q⟩
    · rw [z]; exact ⟨o, ho, fun v q => by rw [hd] at q; cases q⟩
  keep := fun i h h' st k => let ⟨⟨old, he⟩, hi, hne⟩ := st; ⟨⟨old, k e (by simp) _ he⟩, hi.at fun o q => k it (by simp) o q, hne⟩
  item := by
    intro X hP hw hK hc i pins s σ H E I hf st hg
    subst hP hw hK
    obtain ⟨⟨old, he⟩, hit, hne⟩ := st
    obtain ⟨xs, x, hq, hx⟩ := hg
    obtain ⟨its, rv, p, hz⟩ := I.tuple hq
    obtain ⟨u, hu, ru⟩ := rv.get hx
    have hel : e < s.heap.objs.size := Heap.lt_size he
    have hil : it < s.heap.objs.size := by obtain ⟨_, q, _⟩ := hit; exact Heap.lt_size q
    have pa : a < s.heap.objs.size := p.lt
    have hi : i < its.toArray.size := by
      have := (List.getElem?_eq_some_iff.mp hu).1
      simpa using this
    have nai : a ≠ it := fun z => by
      obtain ⟨o1, q1, c1, d1⟩ := hit
      obtain ⟨o2, q2, c2, d2⟩ := p
      rw [z, q1] at q2
      cases q2
      rw [c1] at c2
      exact absurd c2 (by decide)
    have nae : e ∉ [it, a] := fun z => by
      have z' : e = it ∨ e = a := by simpa using z
      rcases z' with z' | z'
      · exact hne z'
      · obtain ⟨o2, q2, c2, d2⟩ := p
        rw [← z', he] at q2
        cases q2
        have c3 : ("enumerate" : String) = "tuple" := Value.type.inj c2
        exact absurd c3 (by decide)
    refine wpAny_pyNext_enum_itemD (Draws.tuple (A := X.A.in1) (I.ok.hd hc) it a nai its.toArray) he ⟨hit, p⟩ hi hne nae fun x' h' tk hx' ho hit' hT hsz hk => ?_
    have ex : x' = u := by
      have h1 : its.toArray[i]? = some u := by simpa using hu
      rw [h1] at hx'
      exact (Option.some.inj hx').symm
    subst ex
    refine ⟨_, rfl, wpAny_letOwnedTupleGo_enum (s := { s with heap := h', toks := tk + 1 }) ho fun h'' he' sb => ?_⟩
    have hT2 : h''.get? s.heap.objs.size = some { cls := .type "tuple", data := .seq #[.int i tk, x'] } := (sb.2 _ (Nat.ne_of_gt hel)).trans hT
    have new : ObjOk X.prog X.w (upd H s.heap.objs.size (.tup [.int (i : Nat), x])) h'' s.heap.objs.size (.tup [.int (i : Nat), x]) :=
      ⟨by show 2 ≤ sizeLine; decide, [.int i tk, x'], .cons ⟨_, rfl⟩ (.cons ru .nil), ⟨_, hT2, rfl, _, rfl⟩⟩
    have I1 : Inv X pins σ (upd H s.heap.objs.size (.tup [.int (i : Nat), x])) { s with heap := h'', toks := tk + 1 } :=
      I.turnedNew (ch := [e, it]) (fun b ob hb q => (sb.2 b (fun z => hb (by simp [z]))).trans (hk b ob (fun z => hb (by simp [z])) (fun z => hb (by simp [z])) q)) hf (Nat.le_refl _) new
    refine ⟨.ref s.heap.objs.size, _, I1, rfl, ⟨_, x, rfl, I.hok.fresh (Nat.le_refl _), rfl, fun ys hy => ?_⟩, ⟨⟨x', ?_⟩, hit'.1.at fun o q => (sb.2 it (Ne.symm hne)).trans q, hne⟩, fun b hb => ?_⟩
    · rw [I.tuple_inj hy hq]; exact hx
    · have e1 : ((i + 1 : Nat) : Int) = (i : Int) + 1 := by omega
      rw [e1]; exact he'
    · have hb' : b < s.heap.objs.size := by
        have e' : b = e ∨ b = it := by simpa using hb
        rcases e' with z | z
        · rw [z]; exact hel
        · rw [z]; exact hil
      rw [upd_ne (Nat.ne_of_lt hb')]
      exact (hf b hb).1
  done := by
    intro X hP hw hK hc i pins s σ H E I hf st hg
    subst hP hw hK
    obtain ⟨⟨old, he⟩, hit, hne⟩ := st
    obtain ⟨xs, hq, hx⟩ := hg
    obtain ⟨its, rv, p, hz⟩ := I.tuple hq
    obtain ⟨f0, f1, f2, f3, f4, f5⟩ := hf it (by simp)
    have hl := rv.length
    have hTy : s.TypeIs (.ref e) "enumerate" := ⟨_, he, rfl⟩
    unfold pyNext
    refine wpAny_bind (wpAny_attempt (wpAny_callSpecial?_slot (name := Str.ofString "__next__") hTy F.slot_enumerate_next
      (wpAny_call_entry F.slot_enumerate_next hTy F.entry_enumerate_next ?_ (F.args_enumerate_next_1 _))))
    show wpAny _ _ (field (.ref e) 2 >>= _) _ _ _
    refine wpAny_bind (wpAny_field he rfl (x := .ref it) rfl ?_)
    refine wpAny_bind (wpAny_nextOf_tuple_end (I.ok.hd hc) hit p (by simp; omega) fun h' x he' hx' => ?_)
    obtain ⟨o, ho, hc⟩ := hx'
    refine wpAny_bind (wpAny_isInstance (T := "StopIteration") (b := true) ⟨o, ho, hc⟩ isSubtype_stop ?_)
    exact wpAny_pure ⟨rfl, I.turned (t' := s.toks) (fun b o hb q => he' b o hb q) f0 f1 f3 f4 f5⟩
  self := fun A i s Q E st h => let ⟨⟨_, he⟩, _⟩ := st; wpAny_pyIter_enum he h
def iEnumT (K : PySem.W.Frag) (ta : TA) : TI := fun σ H R => ta σ H fun vs H1 => ∃ a xs, vs = [.ref a] ∧ SqT K H1 a xs ∧ R (ItetT K a) H1
theorem pi_enumT {X : Cx} {e : Expr} {ta : TA} {p pos tpos : Pos} {elts : List Expr} {kk : Nat} (hg : Gl X "enumerate") (hm : X.mg "enumerate" = none) (ha : PA X [e] ta) (hs : starEach [e] X.env = [(false, eval e X.env)] := by rfl) :
    PI X (.Tuple elts kk tpos) (.Call (.Name "enumerate" p) [e] [] pos) (iEnumT X.K ta) := by
  refine ⟨fun pins s σ H R I h => ?_⟩
  refine Call_ (ld_blt I hg hm boot_enumerate (PyProof.Rows.callWith_type1 (thn (ha.run pos pins s σ H _ I h) fun us s1 ⟨vs, H1, I1, r1, q1⟩ => ?_) hs rfl))
  obtain ⟨a, xs, ex, hq, q⟩ := q1
  subst ex
  cases r1 with
  | cons r rr =>
    cases rr
    cases r
    obtain ⟨its, rv, p', hz⟩ := I1.tuple hq
    refine call_enumerate_tuple p' fun h' he hit hsz hk => wpAny_pyIter_enum he ?_
    have I2 : Inv X pins σ H1 { s1 with heap := h' } := I1.kept (t' := s1.toks) hk
    refine ⟨s1.heap.objs.size + 1, [s1.heap.objs.size + 1, s1.heap.objs.size], _, _, H1, rfl, I2, turn_enumT a (s1.heap.objs.size + 1) s1.heap.objs.size, ⟨⟨.none, he⟩, hit, Nat.succ_ne_self _⟩, fun b hb => ?_, q⟩
    have e' : b = s1.heap.objs.size + 1 ∨ b = s1.heap.objs.size := by simpa using hb
    have hle : s1.heap.objs.size ≤ b := by
      rcases e' with z | z
      · rw [z]; exact Nat.le_add_right _ _
      · rw [z]; exact Nat.le_refl _
    exact I1.fpOk hle (I1.hok.fresh hle)
/-- for i, x in enumerate(t), the tuple standing -/
theorem for_enumT {K : PySem.W.Frag} {a : Addr} {xs : List V} {g : TG} {tb : TS} {D : Ends} {σ : L2.St} {H : Hp} (Pv : Nat → L2.St → Hp → Prop) (h0 : Pv 0 σ H) (hl : ∀ i σ H, i ≤ xs.length → Pv i σ H → SqT K H a xs) (hu : ∀ i H ys, (∃ σ, Pv i σ H) → SqT K H a ys → ys = xs)
    (hs : ∀ i x σ H T, xs[i]? = some x → Pv i σ H → H T = none → g (.ref T) σ (upd H T (.tup [.int (i : Nat), x])) fun σ2 H2 => tb { D with nx := Pv (i + 1), ct := Pv (i + 1), bk := D.nx } σ2 H2) (hd : ∀ σ H, Pv xs.length σ H → D.nx σ H) :
    ∃ W : Nat → Nat → L2.St → Hp → Prop, (∃ m, W 0 m σ H) ∧ ∀ i m σ H, W i m σ H →
      ((ItetT K a).stop i H ∧ D.nx σ H) ∨ ((ItetT K a).go i H ∧ ∃ N : L2.St → Hp → Prop, (∀ σ' H', N σ' H' → ∃ m', m' < m ∧ W (i + 1) m' σ' H') ∧ ∀ x H', (ItetT K a).yld i H x H' → g x σ H' fun σ2 H2 => tb { D with nx := N, ct := N, bk := D.nx } σ2 H2) := by
  refine ⟨fun i m σ H => m = xs.length - i ∧ i ≤ xs.length ∧ Pv i σ H, ⟨xs.length, by simp, Nat.zero_le _, h0⟩, ?_⟩
  rintro i m σ H ⟨rfl, hi, p⟩
  have q := hl i σ H hi p
  by_cases hlt : i < xs.length
  · refine .inr ⟨⟨xs, xs[i], q, by simp [hlt]⟩, Pv (i + 1), fun σ' H' p' => ⟨xs.length - (i + 1), by omega, rfl, hlt, p'⟩, fun x H' y => ?_⟩
    obtain ⟨T, x', e, hT, e2, y⟩ := y
    subst e e2
    exact hs i x' σ H T (y xs q) p hT
  · have e : i = xs.length := by omega
    subst e
    exact .inl ⟨⟨xs, q, Nat.le_refl _⟩, hd σ H p⟩
/-- d.values(), a view -/
def tView (te : TE) : TE := fun σ H Q => te σ H fun x H1 => ∃ (d : Addr) (kvs : List (Key × V)), x = .ref d ∧ H1 d = some (.dK kvs) ∧ ∀ v, H1 v = none → Q (.ref v) (upd H1 v (.ext fun h => h.IsValuesView v d))
def rSortedView : List V → Hp → VK → Prop := fun xs H Q => ∃ (v d : Addr) (kvs : List (Key × V)) (ns : List Int), xs = [.ref v] ∧ H v = some (.ext fun h => h.IsValuesView v d) ∧ H d = some (.dK kvs) ∧ kvs.map (·.2) = ns.map V.int ∧
      ∀ (ys : List Int) (p : Addr), ys.Perm ns → ys.Pairwise (· ≤ ·) → H p = none → Q (.ref p) (upd H p (.lst (ys.map V.int)))
/-- sorted(d.values()), ints -/
def tSortedVals (te : TE) : TE := tCB rSortedView (tCons (tView te) tNil)
/-- its end, the dict known -/
theorem sorted_vals {d : Addr} {kvs : List (Key × V)} {ns : List Int} {H : Hp} {Q : VK} (hd : H d = some (.dK kvs)) (hk : kvs.map (·.2) = ns.map V.int)
    (k : ∀ (ys : List Int) (p : Addr) (H' : Hp), ys.Perm ns → ys.Pairwise (· ≤ ·) → Same H H' → H p = none → H' p = some (.lst (ys.map V.int)) → Q (.ref p) H') :
    ∃ (d' : Addr) (kvs' : List (Key × V)), V.ref d = .ref d' ∧ H d' = some (.dK kvs') ∧ ∀ v, H v = none → rSortedView [.ref v] (upd H v (.ext fun h => h.IsValuesView v d')) Q := by
  refine ⟨d, kvs, rfl, hd, fun v hv => ⟨v, d, kvs, ns, rfl, upd_same, ?_, hk, fun ys p h1 h2 hp => ?_⟩⟩
  · rw [upd_ne (ne_of_none hd hv)]; exact hd
  · have pv : p ≠ v := fun z => by rw [z, upd_same] at hp; cases hp
    rw [upd_ne pv] at hp
    refine k ys p _ h1 h2 (fun b o e => ?_) hp upd_same
    rw [upd_ne (ne_of_none e hp), upd_ne (ne_of_none e hv)]
    exact e
theorem kv_vals : ∀ {kvs : List (Key × V)} {vs : List (Key × Value)}, KV kvs vs → Vals (kvs.map (·.2)) (vs.map (·.2))
  | _, _, .nil => .nil
  | _, _, .cons r t => .cons r.2 (kv_vals t)
theorem pe_sortedVals {X : Cx} {e : Expr} {te : TE} {p apos cpos pos : Pos} (hc : X.calm = true) (he : PE X e te) (hg : Gl X "sorted") (hm : X.mg "sorted" = none) (hbase : attributeBase e "values" X.env (eval e X.env) = eval e X.env := by rfl) (hline : (apos.endLine == cpos.line) = true := by rfl)
    (hs : starEach [.Call (.Attribute e "values" apos) [] [] cpos] X.env = (false, eval (.Call (.Attribute e "values" apos) [] [] cpos) X.env) :: starEach [] X.env := by rfl) (hpl : (backTo pos (starEach [] X.env)).any (·.1) = false := by rfl) :
    PE X (.Call (.Name "sorted" p) [.Call (.Attribute e "values" apos) [] [] cpos] [] pos) (tSortedVals te) := by
  have hview : PE X (.Call (.Attribute e "values" apos) [] [] cpos) (tView te) := by
    refine ⟨fun pins s σ H Q I h => ?_⟩
    refine wpAny_Call_method (T := "dict") (id := "dict.values") hbase rfl hline F.plainAttrs_dict F.slot_dict_values F.type_dict_values (thn (he.run pins s σ H _ I h) fun u s1 ⟨x, H1, I1, rx, d, kvs, ex, hd, q⟩ => ?_)
    subst ex
    obtain rfl : u = Value.ref d := rx
    obtain ⟨hz, hs0, vs, kv, hdo⟩ := I1.hok d _ hd
    refine ⟨hdo.typeIs, hdo.mapOf.noDict, ?_⟩
    have hview : (s1.heap.push { cls := .type "dict_values", data := .fields #[.ref d] }).IsValuesView s1.heap.objs.size d := ⟨_, Heap.get?_push_size _ rfl, rfl, rfl⟩
    have I2 : Inv X pins σ (upd H1 s1.heap.objs.size (.ext fun h => h.IsValuesView s1.heap.objs.size d)) { s1 with heap := s1.heap.push { cls := .type "dict_values", data := .fields #[.ref d] } } :=
      I1.laid (t' := s1.toks) (fun b ob q => Heap.get?_push_of_some _ q) (Nat.le_refl _) ⟨hview, ⟨_, Heap.get?_push_size _ rfl⟩, fun h1 h2 a k => by
        obtain ⟨o, ho, r⟩ := a
        exact ⟨o, k o ho, r⟩⟩
    show wpAny _ _ (callWith cpos (.builtin "dict.values") [.ref d] [] []) _ X.xe s1
    exact method_meetsIn F.slot_dict_values F.entry_dict_values rfl (PySem.evalArgs_none ⟨rfl, hdo.typeIs, F.args_dict_values_1 _, _, meets_dict_values (mixKind X.prog X.w) d hs0, ⟨vs, hdo⟩, .ref s1.heap.objs.size, _, I2, rfl, q _ (I1.hok.fresh (Nat.le_refl _))⟩)
  have hcall : CallR X (.builtin "sorted") rSortedView := by
    intro pins s σ H xs us Q I r q
    obtain ⟨a, d, kvs, ns, ex, hv, hd, hks, q⟩ := q
    subst ex
    obtain ⟨u, eu, rx⟩ := vals1 r
    subst eu
    cases rx
    obtain ⟨hview, _, _⟩ := (show ObjOk X.prog X.w H s.heap a (.ext fun h => h.IsValuesView a d) from I.hok a _ hv)
    obtain ⟨hz, lo, vs, rel, dd⟩ := I.hok d _ hd
    obtain ⟨ep, hat⟩ := dd.dictAt
    have lk : kvs.length = vs.length := Paired.length rel
    have hvals : Vals (ns.map V.int) (vs.map (·.2)) := hks ▸ kv_vals rel
    refine Calls.call_function_entry PyProof.Rows.kind_sorted PyProof.Rows.plain_sorted PyProof.Rows.entry_sorted (PyProof.Rows.args_sorted1 _) ?_
    unfold Builtin.«sorted»
    refine wpAny_bind (m := checkCount "sorted" 1 1 _) (wpAny_pure ?_)
    refine wpAny_bind (PySem.W.kdu_collect (A := X.A.in1) (PySem.W.kdl_values (knd := mixKind X.prog X.w) (kvs := vs) (ep := ep)) (I.ok.hd hc) ⟨hview, hat⟩ (by omega) fun h' tk acc hk hacc => ?_)
    have hal : acc.toList = vs.map (·.2) := by
      apply List.ext_getElem?
      intro j
      rw [List.getElem?_map]
      by_cases hj : j < vs.length
      · have hj' : j < acc.size := by rw [hacc.1]; exact hj
        obtain ⟨k, e1⟩ := hacc.2 j acc[j] (by simp [hj'])
        rw [e1]
        simp [hj']
      · have h1 : vs[j]? = none := List.getElem?_eq_none (by omega)
        have h2 : acc.toList[j]? = none := List.getElem?_eq_none (by rw [Array.length_toList, hacc.1]; omega)
        rw [h1, h2] <;> rfl
    have I1 : Inv X pins σ H { s with heap := h', toks := tk } := I.kept hk
    have hll : acc.toList.length ≤ sizeLine := by rw [Array.length_toList, hacc.1]; omega
    refine wpAny_bind (wpAny_newList ?_ hll)
    have hoL : (h'.push (seqObj "list" acc.toList.toArray 0)).get? h'.objs.size = some (seqObj "list" acc.toList.toArray 0) := Heap.get?_push_size _ rfl
    have hi := Vals.ints (hal.symm ▸ hvals : Vals (ns.map V.int) acc.toList)
    show wpAny _ _ _ _ _ { s with heap := h'.push (seqObj "list" acc.toList.toArray 0), toks := tk }
    refine wpAny_bind (wpAny_holding (wpAny_call_entry PyProof.Rows.slot_list_sort ⟨_, hoL, rfl⟩ PyProof.Rows.entry_list_sort
      (SrtO.list_sort_ord (s := { s with heap := h'.push (seqObj "list" acc.toList.toArray 0), toks := tk }) SrtO.swo_int hoL hll (fun h2 => SrtO.ints_sortable hi h2) fun out h1 h2 => ⟨_, rfl, ?_⟩) (PyProof.Rows.args_list_sort _)))
    obtain ⟨k1, k2, k3⟩ := SrtO.ints_out hi h1 h2
    obtain ⟨e', he'⟩ := PyProof.Rows.sortedHeap_at (vs := acc.toList) (out := out.toArray) hoL
    have hlen : ((out.map SrtO.iv).map V.int).length ≤ sizeLine := by
      rw [List.length_map, k2.length_eq, ← List.length_map (f := V.int) (as := ns), ← hks, List.length_map]
      exact hz
    refine wpAny_pure ⟨_, rfl, .ref h'.objs.size, upd H h'.objs.size (.lst ((out.map SrtO.iv).map V.int)), I1.laid (t' := tk) (fun b u e => ?_) (Nat.le_refl _)
      (show ObjOk X.prog X.w _ _ _ (.lst ((out.map SrtO.iv).map V.int)) from ⟨hlen, out, e', vals_of_ints k1, he'⟩), rfl, q _ _ k2 k3 (I1.hok.fresh (Nat.le_refl _))⟩
    have hb : b < h'.objs.size := Heap.lt_size e
    rw [PyProof.Rows.sortedHeap_old (Nat.ne_of_lt hb) (by rw [Heap.size_push]; exact Nat.lt_succ_of_lt hb)]
    exact Heap.get?_push_of_some _ e
  exact pe_callB hcall hg hm PyProof.Rows.boot_sorted (pa_cons hview pa_nil hs) (he := hs) (hpl := hpl)
theorem Gr.ofSame {W : List Addr} {F H H' : Hp} (s : Same F H) (e : Same H H') : Gr W F H F H' :=
  ⟨Same.refl F, fun b o _ h => e b o h, s.trans e, fun _ h _ => h, fun b h => by
    cases q : H b with
    | none => exact absurd q h
    | some o => rw [e b o q]; exact fun z => nomatch z⟩
end DL
namespace DL
open PySem PySem.Spec PyProof.Rows L2
section
variable {X : Cx} {K : PySem.W.Frag}
theorem op_addUK (h : X.K = K) : OpR X (binaryOp .Add) (rAddU K) := by subst h; exact op_addU
theorem op_eqUK (h : X.K = K) (hu : X.A.units + 64 < cLine) : OpR X (compareOp .Eq) (rEqU K) := by subst h; exact op_eqU hu
theorem op_neUK (h : X.K = K) (hu : X.A.units + 64 < cLine) : OpR X (compareOp .NotEq) (rNeU K) := by subst h; exact op_neU hu
theorem op_in_seqK (h : X.K = K) : OpR X (compareOp .In) (rIn K false) := by subst h; exact op_in_seq
theorem op_notIn_seqK (h : X.K = K) : OpR X (compareOp .NotIn) (rIn K true) := by subst h; exact op_notIn_seq
theorem ix_seqK (h : X.K = K) : IxR X (rIx K) := by subst h; exact ix_seq
theorem call_lenUK (h : X.K = K) : CallR X (.builtin "len") (rLenU K) := by subst h; exact call_lenU
theorem call_isiK (h : X.K = K) : CallR X (.builtin "isinstance") (rIsi K) := by subst h; exact call_isi
end
theorem pg_tupK {X : Cx} {K : PySem.W.Frag} {es : List Expr} {k : Nat} {pos : Pos} {t : TGs} {n : Nat} (hK : X.K = K) (hc : X.calm = true) (h : PGs X es t)
    (hn : (assignEach es X.env).length = n := by rfl) (hst : (assignEach es X.env).findIdx? (·.1) = none := by rfl) : PG X (.Tuple es k pos) (gTup K n t) := by subst hK; exact pg_tup hc h hn hst
end DL
namespace S
open PySem PySem.Spec PyProof.Rows L2 DL
theorem sview {σ : L2.St} {H : Hp} {Q : VK} {te : TE} (q : te σ H fun x H1 => ∃ (d : Addr) (kvs : List (Key × V)), x = .ref d ∧ H1 d = some (.dK kvs) ∧ ∀ v, H1 v = none → rSortedView [.ref v] (upd H1 v (.ext fun h => h.IsValuesView v d)) Q) : tSortedVals te σ H Q := q
end S

/-! dicts with int keys as lists of pairs; the bodies of sheets: what the object holds, and how it lies in the heap -/
namespace Bo
open PySem PySem.Spec PyProof.Rows L2 DL
abbrev AL (α : Type) := List (Int × α)
def getA {α : Type} (l : AL α) (k : Int) : Option α := (l.find? fun p => decide (p.1 = k)).map (·.2)
def putA {α : Type} (l : AL α) (k : Int) (a : α) : AL α := if (l.any fun p => decide (p.1 = k)) = true then l.map (fun p => if p.1 = k then (p.1, a) else p) else l ++ [(k, a)]
def dropA {α : Type} (l : AL α) (k : Int) : AL α := l.filter fun p => decide (p.1 ≠ k)
def keysA {α : Type} (l : AL α) : List Int := l.map (·.1)
def kM {α : Type} (f : α → V) (l : AL α) : List (Key × V) := l.map fun p => ((Sum.inl p.1 : Key), f p.2)
section
variable {α : Type} (f : α → V)
theorem inl_eq (a b : Int) : decide ((Sum.inl a : Key) = Sum.inl b) = decide (a = b) := by
  by_cases h : a = b
  · subst h; simp
  · rw [decide_eq_false h, decide_eq_false (fun z => h (Sum.inl.inj z))]
theorem valV_kM (k : Int) : ∀ l : AL α, valV (kM f l) (Sum.inl k : Key) = (getA l k).map f
  | [] => rfl
  | p :: r => by
    have ih := valV_kM k r
    by_cases e : p.1 = k
    · rw [show kM f (p :: r) = ((Sum.inl p.1 : Key), f p.2) :: kM f r from rfl, valV_pos (by rw [e])]
      simp [getA, List.find?_cons, e]
    · rw [show kM f (p :: r) = ((Sum.inl p.1 : Key), f p.2) :: kM f r from rfl, valV_neg (fun z => e (Sum.inl.inj z)), ih]
      simp [getA, List.find?_cons, e]
theorem any_kM (k : Int) (l : AL α) : (kM f l).any (fun kv => decide (kv.1 = (Sum.inl k : Key))) = l.any fun p => decide (p.1 = k) := by
  unfold kM
  rw [List.any_map]
  congr 1
  funext p
  exact inl_eq p.1 k
theorem putK_kM (k : Int) (a : α) (l : AL α) : putK (kM f l) (Sum.inl k : Key) (f a) = kM f (putA l k a) := by
  unfold putK putA
  rw [any_kM]
  by_cases h : (l.any fun p => decide (p.1 = k)) = true
  · rw [if_pos h, if_pos h]
    unfold kM
    rw [List.map_map, List.map_map]
    apply List.map_congr_left
    intro p _
    by_cases e : p.1 = k
    · simp [e]
    · simp [e]
  · rw [if_neg h, if_neg h]
    simp [kM]
theorem dropK_kM (k : Int) (l : AL α) : dropK (kM f l) (Sum.inl k : Key) = kM f (dropA l k) := by
  unfold dropK dropA kM
  rw [List.filter_map]
  congr 1
  apply List.filter_congr
  intro p _
  show decide ((Sum.inl p.1 : Key) ≠ Sum.inl k) = decide (p.1 ≠ k)
  by_cases e : p.1 = k
  · simp [e]
  · simp [e]
theorem kM_len (l : AL α) : (kM f l).length = l.length := by simp [kM]
end
section
variable {α : Type}
theorem getA_nil (k : Int) : getA ([] : AL α) k = none := rfl
theorem getA_cons (p : Int × α) (r : AL α) (k : Int) : getA (p :: r) k = if p.1 = k then some p.2 else getA r k := by
  by_cases e : p.1 = k <;> simp [getA, List.find?_cons, e]
theorem getA_app (l r : AL α) (k : Int) : getA (l ++ r) k = (getA l k).or (getA r k) := by
  induction l with
  | nil => simp [getA_nil]
  | cons p l ih =>
    rw [List.cons_append, getA_cons, getA_cons, ih]
    by_cases e : p.1 = k <;> simp [e]
theorem any_getA (l : AL α) (k : Int) : (l.any fun p => decide (p.1 = k)) = (getA l k).isSome := by
  induction l with
  | nil => rfl
  | cons p l ih =>
    rw [List.any_cons, getA_cons, ih]
    by_cases e : p.1 = k <;> simp [e]
theorem getA_map (l : AL α) (k j : Int) (a : α) : getA (l.map (fun p => if p.1 = k then (p.1, a) else p)) j = (getA l j).map fun x => if j = k then a else x := by
  induction l with
  | nil => rfl
  | cons p l ih =>
    rw [List.map_cons, getA_cons, getA_cons, ih]
    by_cases e : p.1 = k
    · rw [if_pos e]
      by_cases e2 : p.1 = j
      · have : j = k := by omega
        simp [e2, this]
      · simp [e2]
    · rw [if_neg e]
      by_cases e2 : p.1 = j
      · have : ¬ j = k := by omega
        simp [e2, this]
      · simp [e2]
theorem getA_putA (l : AL α) (k j : Int) (a : α) : getA (putA l k a) j = if j = k then some a else getA l j := by
  unfold putA
  rw [any_getA]
  by_cases h : (getA l k).isSome = true
  · rw [if_pos h, getA_map]
    by_cases e : j = k
    · subst e
      obtain ⟨x, hx⟩ := Option.isSome_iff_exists.mp h
      simp [hx]
    · simp [e]
  · rw [if_neg h, getA_app, getA_cons, getA_nil]
    by_cases e : j = k
    · subst e
      have hn : getA l j = none := by
        cases q : getA l j with
        | none => rfl
        | some x => rw [q] at h; simp at h
      simp [hn]
    · have : ¬ k = j := fun z => e z.symm
      simp [e, this]
theorem getA_dropA (l : AL α) (k j : Int) : getA (dropA l k) j = if j = k then none else getA l j := by
  induction l with
  | nil => simp [dropA, getA_nil]
  | cons p l ih =>
    unfold dropA at ih ⊢
    rw [List.filter_cons]
    by_cases e : p.1 = k
    · rw [if_neg (by simp [e]), ih, getA_cons]
      by_cases e2 : j = k
      · simp [e2]
      · have : ¬ p.1 = j := by omega
        simp [e2, this]
    · rw [if_pos (by simp [e]), getA_cons, getA_cons, ih]
      by_cases e2 : j = k
      · have : ¬ p.1 = j := by omega
        simp [e2, e]
      · simp [e2]
theorem getA_mem {l : AL α} {k : Int} {a : α} (h : getA l k = some a) : (k, a) ∈ l := by
  induction l with
  | nil => cases h
  | cons p l ih =>
    rw [getA_cons] at h
    by_cases e : p.1 = k
    · rw [if_pos e] at h
      cases h
      subst e
      exact List.mem_cons_self
    · rw [if_neg e] at h
      exact List.mem_cons_of_mem _ (ih h)
theorem getA_of_mem {l : AL α} (nd : (keysA l).Nodup) {k : Int} {a : α} (h : (k, a) ∈ l) : getA l k = some a := by
  induction l with
  | nil => cases h
  | cons p l ih =>
    have nd' : p.1 ∉ keysA l ∧ (keysA l).Nodup := List.nodup_cons.mp nd
    rw [getA_cons]
    rcases List.mem_cons.mp h with e | h
    · rw [← e]; simp
    · have : ¬ p.1 = k := fun z => nd'.1 (by rw [z]; exact List.mem_map_of_mem (f := (·.1)) h)
      rw [if_neg this]
      exact ih nd'.2 h
theorem getA_none {l : AL α} {k : Int} : getA l k = none ↔ k ∉ keysA l := by
  induction l with
  | nil => simp [getA_nil, keysA]
  | cons p l ih =>
    rw [getA_cons]
    by_cases e : p.1 = k
    · simp [e, keysA]
    · rw [if_neg e, ih]
      have : ¬ k = p.1 := fun z => e z.symm
      simp [keysA, this]
theorem keys_putA (l : AL α) (k : Int) (a : α) : keysA (putA l k a) = if k ∈ keysA l then keysA l else keysA l ++ [k] := by
  unfold putA
  rw [any_getA]
  by_cases h : k ∈ keysA l
  · have hs : (getA l k).isSome = true := by
      cases q : getA l k with
      | none => exact absurd h (getA_none.mp q)
      | some x => rfl
    rw [if_pos hs, if_pos h]
    unfold keysA
    rw [List.map_map]
    apply List.map_congr_left
    intro p _
    by_cases e : p.1 = k <;> simp [e]
  · have hs : getA l k = none := getA_none.mpr h
    rw [hs, if_neg (by simp), if_neg h]
    simp [keysA]
theorem nodup_putA {l : AL α} (nd : (keysA l).Nodup) (k : Int) (a : α) : (keysA (putA l k a)).Nodup := by
  rw [keys_putA]
  by_cases h : k ∈ keysA l
  · rw [if_pos h]; exact nd
  · rw [if_neg h]
    rw [List.nodup_append]
    refine ⟨nd, by simp, ?_⟩
    intro a ha b hb z
    simp at hb
    subst hb
    subst z
    exact h ha
theorem nodup_dropA {l : AL α} (nd : (keysA l).Nodup) (k : Int) : (keysA (dropA l k)).Nodup := by
  unfold keysA dropA
  exact List.Nodup.sublist (List.Sublist.map _ List.filter_sublist) nd
theorem putA_len (l : AL α) (k : Int) (a : α) : (putA l k a).length ≤ l.length + 1 := by
  unfold putA
  split <;> simp
theorem putA_new {l : AL α} {k : Int} (a : α) (h : getA l k = none) : putA l k a = l ++ [(k, a)] := by
  unfold putA
  rw [any_getA, h]
  simp
end
/-- what a Bodies object holds -/
structure BSt where
  sheets : AL (AL Int)
  shares : AL Int
  next : Int
  met : AL Unit
/-- a dict of dicts of ints at a: its rows with their addresses -/
structure TabsAt (H : Hp) (a : Addr) (T : AL (Addr × AL Int)) : Prop where
  tab : H a = some (.dK (kM (fun x => V.ref x.1) T))
  rows : ∀ t ∈ T, H t.2.1 = some (.dK (kM V.int t.2.2))
def sheetsOf (T : AL (Addr × AL Int)) : AL (AL Int) := T.map fun t => (t.1, t.2.2)
def addrsOf (T : AL (Addr × AL Int)) : List Addr := T.map (·.2.1)
def flds (a b m : Addr) (n : Int) : List (Str × V) := [("sheets", .ref a), ("shares", .ref b), ("next_body", .int n), ("met", .ref m)]
structure BParts (C : Addr) (F H : Hp) (p : Addr) (st : BSt) (a b m : Addr) (T : AL (Addr × AL Int)) : Prop where
  ob : ∃ dx, H p = some (.ins C dx (flds a b m st.next))
  tabs : TabsAt H a T
  sh : H b = some (.dK (kM V.int st.shares))
  mt : H m = some (.dK (kM (fun _ => V.bl true) st.met))
  eq : sheetsOf T = st.sheets
  nd : (p :: a :: b :: m :: addrsOf T).Nodup
  off : ∀ x ∈ p :: a :: b :: m :: addrsOf T, F x = none
/-- the object at p, W all that it owns -/
def BAt (C : Addr) (F H : Hp) (p : Addr) (st : BSt) (W : List Addr) : Prop := ∃ a b m T, W = p :: a :: b :: m :: addrsOf T ∧ BParts C F H p st a b m T
theorem lk_sheets (a b m : Addr) (n : Int) : (flds a b m n).lookup ("sheets" : Str) = some (.ref a) := rfl
theorem lk_shares (a b m : Addr) (n : Int) : (flds a b m n).lookup ("shares" : Str) = some (.ref b) := rfl
theorem lk_next (a b m : Addr) (n : Int) : (flds a b m n).lookup ("next_body" : Str) = some (.int n) := rfl
theorem lk_met (a b m : Addr) (n : Int) : (flds a b m n).lookup ("met" : Str) = some (.ref m) := rfl
theorem put_next (a b m : Addr) (n k : Int) : putF "next_body" (.int k) (flds a b m n) = flds a b m k := rfl
theorem getA_rows {T : AL (Addr × AL Int)} {k : Int} : getA (sheetsOf T) k = (getA T k).map (·.2) := by
  induction T with
  | nil => rfl
  | cons t T ih =>
    show getA ((t.1, t.2.2) :: sheetsOf T) k = _
    rw [getA_cons, getA_cons, ih]
    by_cases e : t.1 = k <;> simp [e]
end Bo

/-! promises of the deeds on sheets -/
namespace Bo
open PySem PySem.Spec PyProof.Rows L2 DL
def isFrom (d : PyData) (lo hi : Int) : Bool := match d with
  | .int i => decide (lo ≤ i) && decide (i ≤ hi)
  | _ => false
def isTuple (d : PyData) (lo hi : Int) : Bool := match d with
  | .tuple ds => decide (lo ≤ (ds.length : Int)) && decide ((ds.length : Int) ≤ hi)
  | _ => false
def thereD (st : BSt) : PyData → Bool
  | .int i => isFrom (.int i) 1 6 && (getA st.sheets i).isSome
  | _ => false
def comeD (st : BSt) : PyData → Bool
  | .int i => isFrom (.int i) 1 6 && !(getA st.met i).isSome
  | _ => false
inductive Ev where
  | look (b : Int) | make (b : Int) | gone (b : Int)
def evD : Ev → PyData
  | .look b => .tuple [.str "look", .int b]
  | .make b => .tuple [.str "make", .int b]
  | .gone b => .tuple [.str "gone", .int b]
def withBody (st : BSt) (t s : Int) : BSt := { sheets := putA st.sheets t (putA ((getA st.sheets t).getD []) s st.next), shares := putA st.shares st.next 1, next := st.next + 1, met := st.met }
def bodyOf (st : BSt) (t s : Int) : Option Int := getA ((getA st.sheets t).getD []) s
def loadE (st : BSt) (t s : Int) : List Ev := match bodyOf st t s with
  | none => []
  | some b => [.look b]
def cnt (st : BSt) (b : Int) : Int := (getA st.shares b).getD 0
def storeE (st : BSt) (t s : Int) : List Ev × BSt := match bodyOf st t s with
  | none => ([.make st.next], withBody st t s)
  | some b => if 1 < cnt st b then ([.look b, .make st.next], withBody { st with shares := putA st.shares b (cnt st b - 1) } t s) else ([.look b], st)
def shareAll (sh : AL Int) (row : AL Int) : AL Int := row.foldl (fun sh p => putA sh p.2 ((getA sh p.2).getD 0 + 1)) sh
def forkS (st : BSt) (t c : Int) : BSt := { sheets := putA st.sheets c ((getA st.sheets t).getD []), shares := shareAll st.shares ((getA st.sheets t).getD []), next := st.next, met := putA st.met c () }
def endTurn (z : List Ev × AL Int) (b : Int) : List Ev × AL Int :=
  let n := (getA z.2 b).getD 0 - 1
  if n = 0 then (z.1 ++ [.gone b], dropA (putA z.2 b n) b) else (z.1, putA z.2 b n)
def insI (a : Int) : List Int → List Int
  | [] => [a]
  | b :: l => if a ≤ b then a :: b :: l else b :: insI a l
def sortI (l : List Int) : List Int := l.foldr insI []
def endE (st : BSt) (t : Int) : List Ev × BSt :=
  let z := (sortI (((getA st.sheets t).getD []).map (·.2))).foldl endTurn ([], st.shares)
  (z.1, { st with sheets := dropA st.sheets t, shares := z.2 })
inductive Deed where
  | load (t s : Int) | store (t s : Int) | fork (t c : Int) | fin (t : Int)
def deedD : Deed → PyData
  | .load t s => .tuple [.str "load", .int t, .int s]
  | .store t s => .tuple [.str "store", .int t, .int s]
  | .fork t c => .tuple [.str "fork", .int t, .int c]
  | .fin t => .tuple [.str "end", .int t]
def doneE (st : BSt) : Deed → List Ev × BSt
  | .load t s => (loadE st t s, st)
  | .store t s => storeE st t s
  | .fork t c => ([], forkS st t c)
  | .fin t => endE st t
/-- how often a body lies in the rows -/
def occR (row : AL Int) (b : Int) : Nat := (row.map (·.2)).count b
def occ (sh : AL (AL Int)) (b : Int) : Nat := (sh.map fun p => occR p.2 b).sum
/-- what keeps the object well, behind n deeds -/
structure BOk (n : Nat) (st : BSt) : Prop where
  nds : (keysA st.sheets).Nodup
  ndr : ∀ p ∈ st.sheets, (keysA p.2).Nodup
  ndv : ∀ p ∈ st.sheets, (p.2.map (·.2)).Nodup
  sh : ∀ b, getA st.shares b = if occ st.sheets b = 0 then none else some (occ st.sheets b : Int)
  ndh : (keysA st.shares).Nodup
  lt : ∀ b, occ st.sheets b ≠ 0 → 0 ≤ b ∧ b < st.next
  nn : 0 ≤ st.next
  ln : st.next ≤ n
  ls : st.sheets.length ≤ n + 1
  lr : ∀ p ∈ st.sheets, p.2.length ≤ n
  lh : st.shares.length ≤ n
  lm : st.met.length ≤ n + 1
  mks : ∀ t, (getA st.sheets t).isSome = true → (getA st.met t).isSome = true
/-- the sizes alone -/
structure BSz (st : BSt) : Prop where
  nds : (keysA st.sheets).Nodup
  lr : ∀ p ∈ st.sheets, p.2.length ≤ 1000
  lh : st.shares.length ≤ 1000
theorem BOk.sz {n : Nat} {st : BSt} (h : BOk n st) (hn : n ≤ 1000) : BSz st := ⟨h.nds, fun p hp => Nat.le_trans (h.lr p hp) hn, Nat.le_trans h.lh hn⟩
/-- the class as the top has made it -/
structure BoC (K : PySem.W.Frag) (C : Addr) : Prop where
  cl : Cls K C
  n1 : NoAttr K C "sheets"
  n2 : NoAttr K C "shares"
  n3 : NoAttr K C "next_body"
  n4 : NoAttr K C "met"
def spIsFrom (K : PySem.W.Frag) : Sp := fun vs H Q _ => ∃ (F : Hp) (v : V) (d : PyData) (lo hi : Int), vs = [v, .int lo, .int hi] ∧ Same F H ∧ Dp K F v d ∧ Q (.bl (isFrom d lo hi)) H
def spIsTuple (K : PySem.W.Frag) : Sp := fun vs H Q _ => ∃ (F : Hp) (v : V) (d : PyData) (lo hi : Int), vs = [v, .int lo, .int hi] ∧ Same F H ∧ Dp K F v d ∧ Q (.bl (isTuple d lo hi)) H
def spThere (K : PySem.W.Frag) (C : Addr) : Sp := fun vs H Q _ => ∃ (F : Hp) (p : Addr) (st : BSt) (W : List Addr) (v : V) (d : PyData), vs = [.ref p, v] ∧ Same F H ∧ BAt C F H p st W ∧ Dp K F v d ∧ Q (.bl (thereD st d)) H
def spCome (K : PySem.W.Frag) (C : Addr) : Sp := fun vs H Q _ => ∃ (F : Hp) (p : Addr) (st : BSt) (W : List Addr) (v : V) (d : PyData), vs = [.ref p, v] ∧ Same F H ∧ BAt C F H p st W ∧ Dp K F v d ∧ Q (.bl (comeD st d)) H
def optV : Option Int → V
  | none => .non
  | some b => .int b
def spBody (C : Addr) : Sp := fun vs H Q _ => ∃ (F : Hp) (p : Addr) (st : BSt) (W : List Addr) (t s : Int), vs = [.ref p, .int t, .int s] ∧ BAt C F H p st W ∧ (getA st.sheets t).isSome = true ∧ Q (optV (bodyOf st t s)) H
/-- the object changed: what stands behind -/
def BGo (C : Addr) (F H : Hp) (p : Addr) (W : List Addr) (st' : BSt) (F' H' : Hp) : Prop := Gr W F H F' H' ∧ ∃ W', BAt C F' H' p st' W' ∧ ∀ b ∈ W', b ∈ W ∨ H b = none
def spWith (K : PySem.W.Frag) (C : Addr) : Sp := fun vs H Q _ => ∃ (F : Hp) (p : Addr) (st : BSt) (W : List Addr) (t s : Int), vs = [.ref p, .int t, .int s] ∧ Same F H ∧ BAt C F H p st W ∧ (getA st.sheets t).isSome = true ∧ BSz st ∧
  ∀ v F' H', BGo C F H p W (withBody st t s) F' H' → Dp K F' v (evD (.make st.next)) → Q v H'
/-- a new list of its own is handed back -/
def RetL (K : PySem.W.Frag) (F' H H' : Hp) (W : List Addr) (ds : List PyData) (Q : VK) : Prop := ∀ q xs, H q = none → q ∉ W → F' q = none → H' q = some (.lst xs) → DpAll K F' xs ds → Q (.ref q) H'
def spLoad (K : PySem.W.Frag) (C : Addr) : Sp := fun vs H Q _ => ∃ (F : Hp) (p : Addr) (st : BSt) (W : List Addr) (t s : Int), vs = [.ref p, .int t, .int s] ∧ Same F H ∧ BAt C F H p st W ∧ (getA st.sheets t).isSome = true ∧
  ∀ q xs F' H', Gr [] F H F' H' → H q = none → F' q = none → H' q = some (.lst xs) → DpAll K F' xs ((loadE st t s).map evD) → Q (.ref q) H'
/-- the object changed, and a new list of its own is handed back -/
def BRet (K : PySem.W.Frag) (C : Addr) (F H : Hp) (p : Addr) (W : List Addr) (z : List Ev × BSt) (Q : VK) : Prop :=
  ∀ q xs F' H' W', Gr W F H F' H' → BAt C F' H' p z.2 W' → (∀ b ∈ W', b ∈ W ∨ H b = none) → H q = none → q ∉ W' → F' q = none → H' q = some (.lst xs) → DpAll K F' xs (z.1.map evD) → Q (.ref q) H'
def spStore (K : PySem.W.Frag) (C : Addr) : Sp := fun vs H Q _ => ∃ (F : Hp) (p : Addr) (st : BSt) (W : List Addr) (t s : Int), vs = [.ref p, .int t, .int s] ∧ Same F H ∧ BAt C F H p st W ∧ (getA st.sheets t).isSome = true ∧ (∃ n, n ≤ 1000 ∧ BOk n st) ∧ BRet K C F H p W (storeE st t s) Q
def spFork (K : PySem.W.Frag) (C : Addr) : Sp := fun vs H Q _ => ∃ (F : Hp) (p : Addr) (st : BSt) (W : List Addr) (t c : Int), vs = [.ref p, .int t, .int c] ∧ Same F H ∧ BAt C F H p st W ∧ (getA st.sheets t).isSome = true ∧ getA st.sheets c = none ∧ (∃ n, n ≤ 1000 ∧ BOk n st) ∧ BRet K C F H p W ([], forkS st t c) Q
def spEnd (K : PySem.W.Frag) (C : Addr) : Sp := fun vs H Q _ => ∃ (F : Hp) (p : Addr) (st : BSt) (W : List Addr) (t : Int), vs = [.ref p, .int t] ∧ Same F H ∧ BAt C F H p st W ∧ (getA st.sheets t).isSome = true ∧ (∃ n, n ≤ 1000 ∧ BOk n st) ∧ BRet K C F H p W (endE st t) Q
/-- a deed that can be done -/
def can (st : BSt) : Deed → Prop
  | .load t s => (getA st.sheets t).isSome = true
  | .store t s => (getA st.sheets t).isSome = true
  | .fork t c => (getA st.sheets t).isSome = true ∧ getA st.sheets c = none
  | .fin t => (getA st.sheets t).isSome = true
def spDone (K : PySem.W.Frag) (C : Addr) : Sp := fun vs H Q _ => ∃ (F : Hp) (p : Addr) (st : BSt) (W : List Addr) (v : V) (d : Deed), vs = [.ref p, v] ∧ Same F H ∧ BAt C F H p st W ∧ Dp K F v (deedD d) ∧ can st d ∧ (∃ n, n ≤ 1000 ∧ BOk n st) ∧ BRet K C F H p W (doneE st d) Q
def st0 : BSt := { sheets := [(1, [])], shares := [], next := 0, met := [(1, ())] }
/-- __init__ of a new instance at p -/
def spInit (C : Addr) : Sp := fun vs H Q _ => ∃ (F : Hp) (p dx : Addr), vs = [.ref p] ∧ Same F H ∧ F p = none ∧ H p = some (.ins C dx []) ∧ ∀ F' H' W', Gr [p] F H F' H' → BAt C F' H' p st0 W' → (∀ b ∈ W', b = p ∨ H b = none) → Q .non H'
theorem fld_of {K : PySem.W.Frag} {C dx p : Addr} {fs : List (Str × V)} {f : Str} {v : V} {H : Hp} {P : V → Prop} (h : H p = some (.ins C dx fs)) (c : Cls K C) (n : NoAttr K C f) (l : fs.lookup f = some v) (q : P v) :
    ∃ a C dx fs v, V.ref p = .ref a ∧ H a = some (.ins C dx fs) ∧ Cls K C ∧ NoAttr K C f ∧ fs.lookup f = some v ∧ P v := ⟨p, C, dx, fs, v, rfl, h, c, n, l, q⟩
theorem meth_of {C dx p : Addr} {fs : List (Str × V)} {m : Str} {H : Hp} {P : Prop} (h : H p = some (.ins C dx fs)) (l : fs.lookup m = none) (q : P) :
    ∃ a dx fs, V.ref p = .ref a ∧ H a = some (.ins C dx fs) ∧ fs.lookup m = none ∧ P := ⟨p, dx, fs, rfl, h, l, q⟩
theorem dget_of {d : Addr} {kvs : List (Key × V)} {k : Key} {v : V} {H : Hp} {P : V → Prop} (h : H d = some (.dK kvs)) (l : valV kvs k = some v) (q : P v) : ∃ a v, V.ref d = .ref a ∧ DGet H a (kV k) (some v) ∧ P v := ⟨d, v, rfl, by rw [← l]; exact DGet.k h, q⟩
theorem din_of {d : Addr} {kvs : List (Key × V)} {k : Key} {H : Hp} {P : Option V → Prop} (h : H d = some (.dK kvs)) (q : P (valV kvs k)) : ∃ a o, V.ref d = .ref a ∧ DGet H a (kV k) o ∧ P o := ⟨d, _, rfl, DGet.k h, q⟩
theorem dput_of {d : Addr} {kvs : List (Key × V)} {k : Key} {v : V} {H : Hp} {Q : Hp → Prop} (h : H d = some (.dK kvs)) (l : kvs.length < sizeLine) (q : Q (upd H d (.dK (putK kvs k v)))) : ∃ a H', V.ref d = .ref a ∧ DPut H a (kV k) v H' ∧ Q H' := ⟨d, _, rfl, .inl ⟨kvs, k, h, rfl, l, rfl⟩, q⟩
theorem size1000000 {n : Nat} (h : n ≤ 1000000) : n < sizeLine := Nat.lt_of_le_of_lt h (by decide)
theorem getA_len {α : Type} {l : AL α} {k : Int} (h : (getA l k).isSome = true) : ∃ a, getA l k = some a := Option.isSome_iff_exists.mp h
end Bo

/-! the object of bodies in the heap: what a write leaves of it -/
namespace Bo
open PySem PySem.Spec PyProof.Rows L2 DL
structure Apart (p a b m : Addr) (L : List Addr) : Prop where
  pa : p ≠ a
  pb : p ≠ b
  pm : p ≠ m
  pl : p ∉ L
  ab : a ≠ b
  am : a ≠ m
  al : a ∉ L
  bm : b ≠ m
  bl : b ∉ L
  ml : m ∉ L
  nl : L.Nodup
theorem apart {p a b m : Addr} {L : List Addr} (h : (p :: a :: b :: m :: L).Nodup) : Apart p a b m L := by
  simp only [List.nodup_cons, List.mem_cons, not_or] at h
  obtain ⟨⟨h1, h2, h3, h4⟩, ⟨h5, h6, h7⟩, ⟨h8, h9⟩, h10, h11⟩ := h
  exact ⟨h1, h2, h3, h4, h5, h6, h7, h8, h9, h10, h11⟩
theorem Apart.nd {p a b m : Addr} {L : List Addr} (h : Apart p a b m L) : (p :: a :: b :: m :: L).Nodup := by
  simp only [List.nodup_cons, List.mem_cons, not_or]
  exact ⟨⟨h.pa, h.pb, h.pm, h.pl⟩, ⟨h.ab, h.am, h.al⟩, ⟨h.bm, h.bl⟩, h.ml, h.nl⟩
theorem addr_mem {T : AL (Addr × AL Int)} {x : Int × (Addr × AL Int)} (h : x ∈ T) : x.2.1 ∈ addrsOf T := List.mem_map_of_mem (f := fun t : Int × (Addr × AL Int) => t.2.1) h
theorem addr_inj : ∀ {T : AL (Addr × AL Int)}, (addrsOf T).Nodup → ∀ {x y}, x ∈ T → y ∈ T → x.2.1 = y.2.1 → x = y
  | [], _, _, _, h, _, _ => nomatch h
  | z :: T, nd, x, y, hx, hy, e => by
    have nd' : z.2.1 ∉ addrsOf T ∧ (addrsOf T).Nodup := List.nodup_cons.mp nd
    rcases List.mem_cons.mp hx with h1 | h1
    · rcases List.mem_cons.mp hy with h2 | h2
      · rw [h1, h2]
      · subst h1; exact absurd (by rw [e]; exact addr_mem h2) nd'.1
    · rcases List.mem_cons.mp hy with h2 | h2
      · subst h2; exact absurd (by rw [← e]; exact addr_mem h1) nd'.1
      · exact addr_inj nd'.2 h1 h2 e
section
variable {C : Addr} {F H : Hp} {p a b m : Addr} {st : BSt} {T : AL (Addr × AL Int)}
theorem BParts.step (h : BParts C F H p st a b m T) {F' H' : Hp} (k : ∀ x ∈ p :: a :: b :: m :: addrsOf T, ∀ o, H x = some o → H' x = some o) (o : ∀ x ∈ p :: a :: b :: m :: addrsOf T, F' x = none) : BParts C F' H' p st a b m T := by
  obtain ⟨dx, h1⟩ := h.ob
  refine ⟨⟨dx, k _ (by simp) _ h1⟩, ⟨k _ (by simp) _ h.tabs.tab, fun t ht => k _ ?_ _ (h.tabs.rows t ht)⟩, k _ (by simp) _ h.sh, k _ (by simp) _ h.mt, h.eq, h.nd, o⟩
  have := addr_mem ht
  simp [this]
theorem BParts.live (h : BParts C F H p st a b m T) : ∀ x ∈ p :: a :: b :: m :: addrsOf T, H x ≠ none := by
  obtain ⟨dx, h1⟩ := h.ob
  intro x hx e
  simp only [List.mem_cons] at hx
  rcases hx with rfl | rfl | rfl | rfl | hx
  · rw [h1] at e; cases e
  · rw [h.tabs.tab] at e; cases e
  · rw [h.sh] at e; cases e
  · rw [h.mt] at e; cases e
  · obtain ⟨t, ht, rfl⟩ := List.mem_map.mp hx
    rw [h.tabs.rows t ht] at e; cases e
theorem BParts.gr (h : BParts C F H p st a b m T) {F' H' : Hp} {W : List Addr} (g : Gr W F H F' H') (n : ∀ x ∈ p :: a :: b :: m :: addrsOf T, x ∉ W) : BParts C F' H' p st a b m T :=
  h.step (fun x hx o e => g.at (n x hx) e) fun x hx => g.own x (h.off x hx) (h.live x hx)
theorem BAt.gr {W' : List Addr} (h : BAt C F H p st W') {F' H' : Hp} {W : List Addr} (g : Gr W F H F' H') (n : ∀ x ∈ W', x ∉ W) : BAt C F' H' p st W' := by
  obtain ⟨a, b, m, T, rfl, P⟩ := h
  exact ⟨a, b, m, T, rfl, P.gr g n⟩
theorem BAt.gr0 {W' : List Addr} (h : BAt C F H p st W') {F' H' : Hp} (g : Gr [] F H F' H') : BAt C F' H' p st W' := h.gr g fun _ _ z => nomatch z
theorem BParts.wNext (h : BParts C F H p st a b m T) (dx : Addr) (n : Int) : BParts C F (upd H p (.ins C dx (flds a b m n))) p { st with next := n } a b m T := by
  have A := apart h.nd
  refine ⟨⟨dx, upd_same⟩, ⟨?_, fun t ht => ?_⟩, ?_, ?_, h.eq, h.nd, h.off⟩
  · rw [upd_ne A.pa.symm]; exact h.tabs.tab
  · rw [upd_ne fun z => A.pl (by rw [← z]; exact addr_mem ht)]; exact h.tabs.rows t ht
  · rw [upd_ne A.pb.symm]; exact h.sh
  · rw [upd_ne A.pm.symm]; exact h.mt
theorem BParts.wShares (h : BParts C F H p st a b m T) (sh : AL Int) : BParts C F (upd H b (.dK (kM V.int sh))) p { st with shares := sh } a b m T := by
  have A := apart h.nd
  obtain ⟨dx, h1⟩ := h.ob
  refine ⟨⟨dx, ?_⟩, ⟨?_, fun t ht => ?_⟩, upd_same, ?_, h.eq, h.nd, h.off⟩
  · rw [upd_ne A.pb]; exact h1
  · rw [upd_ne A.ab]; exact h.tabs.tab
  · rw [upd_ne fun z => A.bl (by rw [← z]; exact addr_mem ht)]; exact h.tabs.rows t ht
  · rw [upd_ne A.bm.symm]; exact h.mt
theorem BParts.wMet (h : BParts C F H p st a b m T) (mt : AL Unit) : BParts C F (upd H m (.dK (kM (fun _ => V.bl true) mt))) p { st with met := mt } a b m T := by
  have A := apart h.nd
  obtain ⟨dx, h1⟩ := h.ob
  refine ⟨⟨dx, ?_⟩, ⟨?_, fun t ht => ?_⟩, ?_, upd_same, h.eq, h.nd, h.off⟩
  · rw [upd_ne A.pm]; exact h1
  · rw [upd_ne A.am]; exact h.tabs.tab
  · rw [upd_ne fun z => A.ml (by rw [← z]; exact addr_mem ht)]; exact h.tabs.rows t ht
  · rw [upd_ne A.bm]; exact h.sh
def setRow (T : AL (Addr × AL Int)) (t : Int) (row : AL Int) : AL (Addr × AL Int) := T.map fun x => if x.1 = t then (x.1, (x.2.1, row)) else x
theorem setRow_addrs (T : AL (Addr × AL Int)) (t : Int) (row : AL Int) : addrsOf (setRow T t row) = addrsOf T := by
  unfold addrsOf setRow
  rw [List.map_map]
  apply List.map_congr_left
  intro x _
  show (if x.1 = t then (x.1, (x.2.1, row)) else x).2.1 = x.2.1
  by_cases e : x.1 = t <;> simp [e]
theorem keys_sheetsOf (T : AL (Addr × AL Int)) : keysA (sheetsOf T) = keysA T := by
  unfold keysA sheetsOf
  rw [List.map_map]; rfl
theorem setRow_sheets {T : AL (Addr × AL Int)} {t : Int} (h : (getA T t).isSome = true) (row : AL Int) : sheetsOf (setRow T t row) = putA (sheetsOf T) t row := by
  unfold putA
  rw [any_getA, getA_rows, Option.isSome_map, if_pos h]
  unfold sheetsOf setRow
  rw [List.map_map, List.map_map]
  apply List.map_congr_left
  intro x _
  show ((if x.1 = t then (x.1, (x.2.1, row)) else x).1, (if x.1 = t then (x.1, (x.2.1, row)) else x).2.2) = if x.1 = t then (x.1, row) else (x.1, x.2.2)
  by_cases e : x.1 = t <;> simp [e]
theorem setRow_kM (T : AL (Addr × AL Int)) (t : Int) (row : AL Int) : kM (fun x : Addr × AL Int => V.ref x.1) (setRow T t row) = kM (fun x : Addr × AL Int => V.ref x.1) T := by
  unfold kM setRow
  rw [List.map_map]
  apply List.map_congr_left
  intro x _
  show ((Sum.inl (if x.1 = t then (x.1, (x.2.1, row)) else x).1 : Key), V.ref (if x.1 = t then (x.1, (x.2.1, row)) else x).2.1) = _
  by_cases e : x.1 = t <;> simp [e]
theorem BParts.wRow (h : BParts C F H p st a b m T) (nk : (keysA st.sheets).Nodup) {t : Int} {d : Addr} {row : AL Int} (ht : getA T t = some (d, row)) (row' : AL Int) :
    BParts C F (upd H d (.dK (kM V.int row'))) p { st with sheets := putA st.sheets t row' } a b m (setRow T t row') := by
  have A := apart h.nd
  obtain ⟨dx, h1⟩ := h.ob
  have hm := getA_mem ht
  have hd : d ∈ addrsOf T := addr_mem hm
  have nkT : (keysA T).Nodup := by rw [← keys_sheetsOf, h.eq]; exact nk
  refine ⟨⟨dx, ?_⟩, ⟨?_, fun x hx => ?_⟩, ?_, ?_, ?_, by rw [setRow_addrs]; exact h.nd, by rw [setRow_addrs]; exact h.off⟩
  · rw [upd_ne fun z => A.pl (by rw [z]; exact hd)]; exact h1
  · rw [upd_ne fun z => A.al (by rw [z]; exact hd), setRow_kM]; exact h.tabs.tab
  · obtain ⟨y, hy, rfl⟩ := List.mem_map.mp hx
    by_cases e : y.1 = t
    · have e2 : getA T t = some y.2 := getA_of_mem nkT (by rw [← e]; exact hy)
      rw [ht] at e2
      have e3 : y.2.1 = d := by rw [← Option.some.inj e2]
      rw [if_pos e]
      show upd H d _ y.2.1 = _
      rw [e3, upd_same]
    · rw [if_neg e]
      rw [upd_ne fun z => e (by rw [addr_inj A.nl hy hm z])]
      exact h.tabs.rows y hy
  · rw [upd_ne fun z => A.bl (by rw [z]; exact hd)]; exact h.sh
  · rw [upd_ne fun z => A.ml (by rw [z]; exact hd)]; exact h.mt
  · rw [setRow_sheets (by rw [ht]; rfl), h.eq]
theorem BParts.wNew (h : BParts C F H p st a b m T) {q : Addr} {c : Int} {row : AL Int} (hq : H q = some (.dK (kM V.int row))) (nq : q ∉ p :: a :: b :: m :: addrsOf T) (fq : F q = none) (hc : getA st.sheets c = none) :
    BParts C F (upd H a (.dK (kM (fun x : Addr × AL Int => V.ref x.1) (T ++ [(c, (q, row))])))) p { st with sheets := putA st.sheets c row } a b m (T ++ [(c, (q, row))]) := by
  have A := apart h.nd
  obtain ⟨dx, h1⟩ := h.ob
  have ea : addrsOf (T ++ [(c, (q, row))]) = addrsOf T ++ [q] := by simp [addrsOf]
  simp only [List.mem_cons, not_or] at nq
  obtain ⟨n1, n2, n3, n4, n5⟩ := nq
  refine ⟨⟨dx, ?_⟩, ⟨upd_same, fun x hx => ?_⟩, ?_, ?_, ?_, ?_, ?_⟩
  · rw [upd_ne A.pa]; exact h1
  · rcases List.mem_append.mp hx with hx | hx
    · rw [upd_ne fun z => A.al (by rw [← z]; exact addr_mem hx)]; exact h.tabs.rows x hx
    · simp only [List.mem_singleton] at hx
      subst hx
      show upd H a _ q = _
      rw [upd_ne n2]; exact hq
  · rw [upd_ne A.ab.symm]; exact h.sh
  · rw [upd_ne A.am.symm]; exact h.mt
  · rw [putA_new _ hc, ← h.eq]; simp [sheetsOf]
  · rw [ea]
    refine Apart.nd ⟨A.pa, A.pb, A.pm, ?_, A.ab, A.am, ?_, A.bm, ?_, ?_, ?_⟩
    · simp [A.pl, Ne.symm n1]
    · simp [A.al, Ne.symm n2]
    · simp [A.bl, Ne.symm n3]
    · simp [A.ml, Ne.symm n4]
    · rw [List.nodup_append]
      refine ⟨A.nl, by simp, ?_⟩
      intro x hx y hy z
      simp at hy
      subst hy; subst z
      exact n5 hx
  · intro x hx
    rw [ea] at hx
    have : x ∈ p :: a :: b :: m :: addrsOf T ∨ x = q := by
      simp only [List.mem_cons, List.mem_append, List.not_mem_nil, or_false] at hx ⊢
      rcases hx with h | h | h | h | h | h <;> simp [h]
    rcases this with h2 | h2
    · exact h.off x h2
    · rw [h2]; exact fq
theorem BParts.wDrop (h : BParts C F H p st a b m T) (t : Int) : BParts C F (upd H a (.dK (kM (fun x : Addr × AL Int => V.ref x.1) (dropA T t)))) p { st with sheets := dropA st.sheets t } a b m (dropA T t) := by
  have A := apart h.nd
  obtain ⟨dx, h1⟩ := h.ob
  have sub : ∀ x ∈ addrsOf (dropA T t), x ∈ addrsOf T := fun x hx => by
    obtain ⟨y, hy, rfl⟩ := List.mem_map.mp hx
    exact addr_mem (List.mem_filter.mp hy).1
  have snd : (addrsOf (dropA T t)).Nodup := List.Nodup.sublist (List.Sublist.map _ List.filter_sublist) A.nl
  refine ⟨⟨dx, ?_⟩, ⟨upd_same, fun x hx => ?_⟩, ?_, ?_, ?_, ?_, ?_⟩
  · rw [upd_ne A.pa]; exact h1
  · have hx' := (List.mem_filter.mp hx).1
    rw [upd_ne fun z => A.al (by rw [← z]; exact addr_mem hx')]; exact h.tabs.rows x hx'
  · rw [upd_ne A.ab.symm]; exact h.sh
  · rw [upd_ne A.am.symm]; exact h.mt
  · show sheetsOf (dropA T t) = dropA st.sheets t
    rw [← h.eq]
    unfold sheetsOf dropA
    rw [List.filter_map]; rfl
  · exact Apart.nd ⟨A.pa, A.pb, A.pm, fun z => A.pl (sub _ z), A.ab, A.am, fun z => A.al (sub _ z), A.bm, fun z => A.bl (sub _ z), fun z => A.ml (sub _ z), snd⟩
  · intro x hx
    refine h.off x ?_
    simp only [List.mem_cons] at hx ⊢
    rcases hx with h | h | h | h | h
    · simp [h]
    · simp [h]
    · simp [h]
    · simp [h]
    · simp [sub _ h]
end
end Bo

namespace DL
open PySem PySem.Spec PyProof.Rows L2
theorem upd_comm {H : Hp} {a b : Addr} {x y : HO} (h : a ≠ b) : upd (upd H a x) b y = upd (upd H b y) a x := by
  funext c
  by_cases h1 : c = a
  · subst h1; rw [upd_ne h, upd_same, upd_same]
  · by_cases h2 : c = b
    · subst h2; rw [upd_same, upd_ne h1, upd_same]
    · rw [upd_ne h2, upd_ne h1, upd_ne h1, upd_ne h2]
/-- an object that came in the stretch is written -/
theorem Gr.poke {W : List Addr} {F H F1 H1 : Hp} (g : Gr W F H F1 H1) {q : Addr} {o : HO} (hq : H q = none) (fq : F1 q = none) : Gr W F H F1 (upd H1 q o) := by
  refine ⟨g.fs, fun b u n e => ?_, fun b u e => ?_, g.own, fun b e => ?_⟩
  · rw [upd_ne (ne_of_none e hq)]; exact g.hs b u n e
  · rw [upd_ne (ne_of_none e fq)]; exact g.sub b u e
  · by_cases hb : b = q
    · subst hb; exact absurd hq e
    · rw [upd_ne hb]; exact g.live b e
/-- an object of the frame is written -/
theorem Gr.put {W : List Addr} {F H F1 H1 : Hp} (g : Gr W F H F1 H1) {q : Addr} {o : HO} (hq : q ∈ W) (fq : F1 q = none) : Gr W F H F1 (upd H1 q o) := g.trans (Gr.write g.sub fq hq)
theorem same_upd_self {F H : Hp} (s : Same F H) {q : Addr} {o : HO} (fq : F q = none) : Same F (upd H q o) := fun b u e => by
  rw [upd_ne (ne_of_none e fq)]; exact s b u e
theorem walk_enumT {K : PySem.W.Frag} {a : Addr} {xs : List V} : Walk (ItetT K a) xs.length (fun H => SqT K H a xs) (YPair (fun i => some (.int (i : Nat))) (fun i => xs[i]?)) := by
  refine ⟨fun i _ hi q => ⟨xs, xs[i], q, by simp [hi]⟩, fun _ q => ⟨xs, q, Nat.le_refl _⟩, fun i H v H' _ q y => ?_⟩
  obtain ⟨T, x, h1, h2, h3, h4⟩ := y
  exact ⟨T, .int (i : Nat), x, h1, h2, h3, rfl, h4 xs q⟩
theorem not_in_of_live {H : Hp} {W : List Addr} (l : ∀ x ∈ W, H x ≠ none) {q : Addr} (hq : H q = none) : q ∉ W := fun h => l q h hq
theorem app_len {xs ys : List V} {n m : Nat} (h1 : xs.length ≤ n) (h2 : ys.length ≤ m) (h : n + m ≤ 1000000) : xs.length + ys.length ≤ sizeLine := Nat.le_of_lt (Nat.lt_of_le_of_lt (Nat.le_trans (Nat.add_le_add h1 h2) h) (by decide))
end DL
namespace Bo
open PySem PySem.Spec PyProof.Rows L2 DL
theorem BAt.live {C : Addr} {F H : Hp} {p : Addr} {st : BSt} {W : List Addr} (h : BAt C F H p st W) : ∀ x ∈ W, H x ≠ none := by
  obtain ⟨a, b, m, T, rfl, P⟩ := h
  exact P.live
theorem BAt.off {C : Addr} {F H : Hp} {p : Addr} {st : BSt} {W : List Addr} (h : BAt C F H p st W) : ∀ x ∈ W, F x = none := by
  obtain ⟨a, b, m, T, rfl, P⟩ := h
  exact P.off
theorem BAt.poke {C : Addr} {F H : Hp} {p : Addr} {st : BSt} {W : List Addr} (h : BAt C F H p st W) {q : Addr} {o : HO} (n : q ∉ W) : BAt C F (upd H q o) p st W := by
  obtain ⟨a, b, m, T, rfl, P⟩ := h
  refine ⟨a, b, m, T, rfl, P.step (fun x hx u e => ?_) P.off⟩
  rw [upd_ne fun z => n (by rw [← z]; exact hx)]; exact e
theorem bodyOf_mem {st : BSt} {t s x : Int} (h : bodyOf st t s = some x) : ∃ row, getA st.sheets t = some row ∧ getA row s = some x := by
  unfold bodyOf at h
  cases e : getA st.sheets t with
  | none => rw [e] at h; cases h
  | some row => rw [e] at h; exact ⟨row, rfl, h⟩
theorem occ_mem {sh : AL (AL Int)} {t : Int} {row : AL Int} {s x : Int} (h1 : (t, row) ∈ sh) (h2 : (s, x) ∈ row) : occ sh x ≠ 0 := by
  unfold occ
  induction sh with
  | nil => cases h1
  | cons p sh ih =>
    rw [List.map_cons, List.sum_cons]
    rcases List.mem_cons.mp h1 with e | h1
    · subst e
      have : 0 < occR row x := by
        unfold occR
        exact List.count_pos_iff.mpr (List.mem_map_of_mem (f := fun p : Int × Int => p.2) h2)
      show occR row x + _ ≠ 0
      omega
    · have := ih h1
      omega
theorem shares_of {n : Nat} {st : BSt} (h : BOk n st) {t s x : Int} (hb : bodyOf st t s = some x) : getA st.shares x = some (cnt st x) ∧ 0 < cnt st x := by
  obtain ⟨row, h1, h2⟩ := bodyOf_mem hb
  have hz := occ_mem (getA_mem h1) (getA_mem h2)
  have e := h.sh x
  rw [if_neg hz] at e
  unfold cnt
  rw [e]
  refine ⟨rfl, ?_⟩
  show 0 < ((occ st.sheets x : Nat) : Int)
  omega
end Bo
namespace Bo
open PySem PySem.Spec PyProof.Rows L2 DL
theorem dgetF {d : Addr} {kvs : List (Key × V)} {k : Key} {v : V} {H : Hp} (h : H d = some (.dK kvs)) (l : valV kvs k = some v) : DGet H d (kV k) (some v) := by rw [← l]; exact DGet.k h
theorem ok_look : PyData.canLay0 (.str "look") = true := by unfold PyData.canLay0; decide +kernel
theorem ok_make : PyData.canLay0 (.str "make") = true := by unfold PyData.canLay0; decide +kernel
theorem ok_gone : PyData.canLay0 (.str "gone") = true := by unfold PyData.canLay0; decide +kernel
theorem evs_lay : ∀ l : List Ev, PyData.canLayAll0 (l.map evD) = true ∧ PyData.depthAll (l.map evD) ≤ 1
  | [] => ⟨by simp [PyData.canLayAll0], by simp [PyData.depthAll]⟩
  | x :: l => by
    obtain ⟨h1, h2⟩ := evs_lay l
    refine ⟨?_, ?_⟩
    · rw [List.map_cons]
      unfold PyData.canLayAll0
      rw [h1, Bool.and_true]
      cases x <;> simp [evD, PyData.canLay0, PyData.canLayAll0] <;> decide +kernel
    · rw [List.map_cons]
      unfold PyData.depthAll
      have : (evD x).depth ≤ 1 := by cases x <;> simp [evD, PyData.depth, PyData.depthAll]
      omega
theorem evs_shaped (l : List Ev) : SeqAt.shaped (.list (l.map evD)) = true := by
  obtain ⟨h1, h2⟩ := evs_lay l
  unfold SeqAt.shaped
  have h3 : (PyData.list (l.map evD)).depth ≤ 2 := by unfold PyData.depth; omega
  have h4 : (PyData.list (l.map evD)).canLay0 = true := by unfold PyData.canLay0; exact h1
  rw [h4, decide_eq_true (by omega)] <;> rfl
end Bo
namespace Bo
open PySem PySem.Spec PyProof.Rows L2 DL
theorem putA_len_in {α : Type} {l : AL α} {k : Int} {x : α} (h : getA l k = some x) (a : α) : (putA l k a).length = l.length := by
  have : k ∈ keysA l := Classical.byContradiction fun z => by rw [getA_none.mpr z] at h; cases h
  have e5 := congrArg List.length (keys_putA l k a)
  rw [if_pos this] at e5
  simpa only [keysA, List.length_map] using e5
theorem shareAll_app (sh : AL Int) (r : AL Int) (p : Int × Int) : shareAll sh (r ++ [p]) = putA (shareAll sh r) p.2 ((getA (shareAll sh r) p.2).getD 0 + 1) := by
  unfold shareAll
  rw [List.foldl_append]; rfl
theorem shareAll_in : ∀ (row sh : AL Int) {b x : Int}, getA sh b = some x → (getA (shareAll sh row) b).isSome = true
  | [], sh, b, x, h => by unfold shareAll; rw [List.foldl_nil, h]; rfl
  | p :: row, sh, b, x, h => by
    show (getA (shareAll (putA sh p.2 ((getA sh p.2).getD 0 + 1)) row) b).isSome = true
    by_cases e : b = p.2
    · subst e
      exact shareAll_in row _ (x := (getA sh p.2).getD 0 + 1) (by rw [getA_putA, if_pos rfl])
    · exact shareAll_in row _ (x := x) (by rw [getA_putA, if_neg e]; exact h)
theorem shareAll_len : ∀ (row sh : AL Int), (∀ p ∈ row, (getA sh p.2).isSome = true) → (shareAll sh row).length = sh.length
  | [], sh, _ => rfl
  | p :: row, sh, h => by
    obtain ⟨x, hx⟩ := getA_len (h p List.mem_cons_self)
    have e : (shareAll (putA sh p.2 ((getA sh p.2).getD 0 + 1)) row).length = _ := shareAll_len row _ fun q hq => by
      by_cases e : q.2 = p.2
      · rw [e, getA_putA, if_pos rfl]; rfl
      · rw [getA_putA, if_neg e]; exact h q (List.mem_cons_of_mem _ hq)
    show (shareAll (putA sh p.2 ((getA sh p.2).getD 0 + 1)) row).length = _
    rw [e, putA_len_in hx]
theorem row_shares {n : Nat} {st : BSt} (h : BOk n st) {t : Int} {row : AL Int} (hr : getA st.sheets t = some row) : ∀ p ∈ row, ∃ x, getA st.shares p.2 = some x := by
  intro p hp
  have hz := occ_mem (getA_mem hr) (s := p.1) (x := p.2) hp
  have e := h.sh p.2
  rw [if_neg hz] at e
  exact ⟨_, e⟩
theorem take_succ_get {α : Type} {l : List α} {i : Nat} {x : α} (h : l[i]? = some x) : l.take (i + 1) = l.take i ++ [x] := by
  rw [List.take_add_one, h]; rfl
theorem walk_valuesA {d : Addr} {o : Obj} {row : AL Int} : Walk (Itd d o (kM V.int row)) row.length (fun H => H d = some (.frz o (.dK (kM V.int row)))) (fun i H x H' => H' = H ∧ ∃ p, row[i]? = some p ∧ x = .int p.2) := by
  have w := walk_values (d := d) (o := o) (kvs := kM V.int row)
  rw [kM_len] at w
  refine w.mono (fun _ h => h) fun i H x H' hi _ y => ⟨y.1, ?_⟩
  obtain ⟨k, e⟩ := y.2
  unfold kM at e
  rw [List.getElem?_map] at e
  cases q : row[i]? with
  | none => rw [q] at e; cases e
  | some p => rw [q] at e; simp at e; exact ⟨p, rfl, e.2.symm⟩
end Bo
namespace DL
open PySem PySem.Spec PyProof.Rows L2
theorem Gr.ofSameF {W : List Addr} {F H H' : Hp} (s : Same F H) (e : Same H H') {L : Addr} {o : HO} (hL : H L = none) (h : H' L = some o) : Gr W F H (upd F L o) H' := by
  have fL := sub_free s hL
  refine ⟨fun b u q => ?_, fun b u _ q => e b u q, fun b u q => ?_, fun b q1 q2 => ?_, fun b q => ?_⟩
  · rw [upd_ne (ne_of_none q fL)]; exact q
  · by_cases hb : b = L
    · subst hb; rw [upd_same] at q; rw [h]; exact q
    · rw [upd_ne hb] at q; exact e b u (s b u q)
  · rw [upd_ne fun z => q2 (by rw [z]; exact hL)]; exact q1
  · cases z : H b with
    | none => exact absurd z q
    | some u => rw [e b u z]; exact fun z => nomatch z
theorem perm_sorted_eq : ∀ {l l' : List Int}, l.Perm l' → l.Pairwise (· ≤ ·) → l'.Pairwise (· ≤ ·) → l = l'
  | [], l', h, _, _ => by rw [List.nil_perm.mp h]
  | a :: l, [], h, _, _ => by have := h.length_eq; simp at this
  | a :: l, b :: l', h, h1, h2 => by
    rw [List.pairwise_cons] at h1 h2
    have hab : a = b := by
      have ha : a ∈ b :: l' := h.subset List.mem_cons_self
      have hb : b ∈ a :: l := h.symm.subset List.mem_cons_self
      rcases List.mem_cons.mp ha with e | ha
      · exact e
      · rcases List.mem_cons.mp hb with e | hb
        · exact e.symm
        · have := h1.1 b hb
          have := h2.1 a ha
          omega
    subst hab
    rw [perm_sorted_eq (List.Perm.cons_inv h) h1.2 h2.2]
end DL
namespace Bo
open PySem PySem.Spec PyProof.Rows L2 DL
theorem insI_perm (a : Int) : ∀ l : List Int, (insI a l).Perm (a :: l)
  | [] => .refl _
  | b :: l => by
    unfold insI
    by_cases h : a ≤ b
    · rw [if_pos h]
    · rw [if_neg h]
      exact ((insI_perm a l).cons b).trans (.swap a b l)
theorem insI_sorted (a : Int) : ∀ {l : List Int}, l.Pairwise (· ≤ ·) → (insI a l).Pairwise (· ≤ ·)
  | [], _ => by simp [insI]
  | b :: l, h => by
    rw [List.pairwise_cons] at h
    unfold insI
    by_cases hab : a ≤ b
    · rw [if_pos hab, List.pairwise_cons, List.pairwise_cons]
      refine ⟨fun c hc => ?_, h.1, h.2⟩
      rcases List.mem_cons.mp hc with rfl | hc
      · exact hab
      · exact Int.le_trans hab (h.1 c hc)
    · rw [if_neg hab, List.pairwise_cons]
      refine ⟨fun c hc => ?_, insI_sorted a h.2⟩
      rcases List.mem_cons.mp ((insI_perm a l).subset hc) with rfl | hc
      · omega
      · exact h.1 c hc
theorem sortI_perm : ∀ l : List Int, (sortI l).Perm l
  | [] => .refl _
  | a :: l => by
    show (insI a (sortI l)).Perm (a :: l)
    exact (insI_perm a _).trans ((sortI_perm l).cons a)
theorem sortI_sorted : ∀ l : List Int, (sortI l).Pairwise (· ≤ ·)
  | [] => .nil
  | a :: l => insI_sorted a (sortI_sorted l)
theorem sortI_uniq {l ys : List Int} (h : ys.Perm l) (s : ys.Pairwise (· ≤ ·)) : ys = sortI l := perm_sorted_eq (h.trans (sortI_perm l).symm) s (sortI_sorted l)
theorem endTurn_other {z : List Ev × AL Int} {x b : Int} (h : b ≠ x) : getA (endTurn z x).2 b = getA z.2 b := by
  unfold endTurn
  dsimp only
  by_cases e : (getA z.2 x).getD 0 - 1 = 0
  · rw [if_pos e]
    show getA (dropA (putA z.2 x _) x) b = _
    rw [getA_dropA, if_neg h, getA_putA, if_neg h]
  · rw [if_neg e]
    show getA (putA z.2 x _) b = _
    rw [getA_putA, if_neg h]
theorem endFold_other {b : Int} : ∀ {l : List Int} {z : List Ev × AL Int}, b ∉ l → getA (l.foldl endTurn z).2 b = getA z.2 b
  | [], _, _ => rfl
  | x :: l, z, h => by
    rw [List.foldl_cons, endFold_other (fun q => h (List.mem_cons_of_mem _ q)), endTurn_other (fun q => h (by rw [q]; exact List.mem_cons_self))]
theorem take_succ_fold {α β : Type} {f : β → α → β} {z : β} {l : List α} {i : Nat} {x : α} (h : l[i]? = some x) : (l.take (i + 1)).foldl f z = f ((l.take i).foldl f z) x := by
  rw [take_succ_get h, List.foldl_append]; rfl
theorem nodup_take {α : Type} {l : List α} (nd : l.Nodup) {i : Nat} {x : α} (h : l[i]? = some x) : x ∉ l.take i := by
  intro hx
  obtain ⟨hi, hl⟩ := List.getElem?_eq_some_iff.mp h
  obtain ⟨j, hj, e⟩ := List.mem_take_iff_getElem.mp hx
  have hj' : j < i := by omega
  have := List.pairwise_iff_getElem.mp nd j i (by omega) hi hj'
  exact this (by rw [e, hl])
end Bo
namespace S
open PySem PySem.Spec PyProof.Rows L2 DL
theorem slTo {K : PySem.W.Frag} {F H : Hp} {v : V} {ds : List PyData} {e : Nat} {Q : VK} (h : Dp K F v (.tuple ds)) (s : Same F H) (q : ∀ w F' H', Gr [] F H F' H' → Dp K F' w (.tuple (ds.take e)) → Q w H') : rSlU K v none (some (e : Int)) H Q := by
  obtain ⟨a, xs, rfl, h1, h2⟩ := dp_tuple h
  have hl := dp_len h2
  refine .inr ⟨a, xs, rfl, same_tup s h1, fun hc => ?_, fun _ p hp => ?_⟩
  · rw [HT.sIx_nat] at hc
    have : ds.take e = ds := List.take_of_length_le (by omega)
    exact q _ F H (Gr.refl s) (by rw [this]; exact h)
  · have e1 : cutV xs none (some (e : Int)) = xs.take e := by
      unfold cutV
      rw [HT.sIx_nat, HT.sIx_none, List.drop_zero, Nat.sub_zero]
      by_cases h5 : e ≤ xs.length
      · rw [Nat.min_eq_left h5]
      · rw [Nat.min_eq_right (by omega), List.take_of_length_le (Nat.le_refl _), List.take_of_length_le (by omega)]
    rw [e1]
    have g : Gr [] F H (upd F p (.tup (xs.take e))) (upd H p (.tup (xs.take e))) := Gr.new s hp
    exact q _ _ _ g (.tup (.inl (.inl upd_same)) ((dp_take e h2).to g.fs))
theorem slFrom {K : PySem.W.Frag} {F H : Hp} {v : V} {ds : List PyData} {e : Nat} {Q : VK} (h : Dp K F v (.tuple ds)) (s : Same F H) (q : ∀ w F' H', Gr [] F H F' H' → Dp K F' w (.tuple (ds.drop e)) → Q w H') : rSlU K v (some (e : Int)) none H Q := by
  obtain ⟨a, xs, rfl, h1, h2⟩ := dp_tuple h
  have hl := dp_len h2
  refine .inr ⟨a, xs, rfl, same_tup s h1, fun hc => ?_, fun _ p hp => ?_⟩
  · rw [HT.sIx_nat] at hc
    have : ds.drop e = ds := by
      have : e = 0 ∨ xs.length = 0 := by omega
      rcases this with rfl | h0
      · rfl
      · have : ds = [] := List.length_eq_zero_iff.mp (by omega)
        rw [this, List.drop_nil]
    exact q _ F H (Gr.refl s) (by rw [this]; exact h)
  · have e1 : cutV xs (some (e : Int)) none = xs.drop e := by
      unfold cutV
      rw [HT.sIx_nat, HT.sIx_none]
      by_cases h5 : e ≤ xs.length
      · rw [Nat.min_eq_left h5, List.take_of_length_le (by rw [List.length_drop]; omega)]
      · rw [Nat.min_eq_right (by omega), List.drop_of_length_le (Nat.le_refl _), List.drop_of_length_le (by omega)] <;> simp
    rw [e1]
    have g : Gr [] F H (upd F p (.tup (xs.drop e))) (upd H p (.tup (xs.drop e))) := Gr.new s hp
    exact q _ _ _ g (.tup (.inl (.inl upd_same)) ((dp_drop e h2).to g.fs))
/-- a, b = the tuple -/
theorem gTup2 {K : PySem.W.Frag} {F H : Hp} {v : V} {d1 d2 : PyData} {t : TGs} {σ : L2.St} {Q : L2.St → Hp → Prop} (h : Dp K F v (.tuple [d1, d2])) (s : Same F H) (q : ∀ x y, Dp K F x d1 → Dp K F y d2 → t [x, y] σ H Q) : gTup K 2 t v σ H Q := by
  obtain ⟨a, xs, rfl, h1, h2⟩ := dp_tuple h
  cases h2 with
  | cons hx h2 =>
    cases h2 with
    | cons hy h2 =>
      cases h2
      exact ⟨a, _, rfl, same_tup s h1, rfl, q _ _ hx hy⟩
/-- the tuple of the heap -/
theorem gTupO {K : PySem.W.Frag} {H : Hp} {a : Addr} {xs : List V} {n : Nat} {t : TGs} {σ : L2.St} {Q : L2.St → Hp → Prop} (h : H a = some (.tup xs)) (e : xs.length = n) (q : t xs σ H Q) : gTup K n t (.ref a) σ H Q := ⟨a, xs, rfl, .inl (.inl h), e, q⟩
theorem gCons {t : TG} {u : TGs} {v : V} {r : List V} {σ : L2.St} {H : Hp} {Q : L2.St → Hp → Prop} (q : t v σ H fun σ' H' => u r σ' H' Q) : gCons t u (v :: r) σ H Q := ⟨v, r, rfl, q⟩
theorem gNil {σ : L2.St} {H : Hp} {Q : L2.St → Hp → Prop} (q : Q σ H) : gNil [] σ H Q := ⟨rfl, q⟩
theorem inT {K : PySem.W.Frag} {H : Hp} {x : V} {p : Addr} {xs : List V} {Q : VK} (h : H p = some (.tup xs)) (h1 : flatV x = true) (h2 : xs.all flatV = true) (q : Q (.bl (inV x xs)) H) : rIn K false x (.ref p) H Q := ⟨p, xs, rfl, .inr (.inl (.inl h)), h1, h2, q⟩
theorem inL {K : PySem.W.Frag} {H : Hp} {x : V} {p : Addr} {xs : List V} {Q : VK} (h : H p = some (.lst xs)) (h1 : flatV x = true) (h2 : xs.all flatV = true) (q : Q (.bl (inV x xs)) H) : rIn K false x (.ref p) H Q := ⟨p, xs, rfl, .inl (SqL.of h), h1, h2, q⟩
theorem ninL {K : PySem.W.Frag} {H : Hp} {x : V} {p : Addr} {xs : List V} {Q : VK} (h : H p = some (.lst xs)) (h1 : flatV x = true) (h2 : xs.all flatV = true) (q : Q (.bl (!inV x xs)) H) : rIn K true x (.ref p) H Q := ⟨p, xs, rfl, .inl (SqL.of h), h1, h2, q⟩
end S
namespace S
open PySem PySem.Spec PyProof.Rows L2 DL
theorem pairsC {tk tv : TE} {r : List (TE × TE)} {σ : L2.St} {H : Hp} {Q : List (V × V) → Hp → Prop} (q : tk σ H fun x H1 => tv σ H1 fun y H2 => tPairs r σ H2 fun ps H3 => Q ((x, y) :: ps) H3) : tPairs ((tk, tv) :: r) σ H Q := q
theorem pairsN {σ : L2.St} {H : Hp} {Q : List (V × V) → Hp → Prop} (q : Q [] H) : tPairs [] σ H Q := q
end S
namespace S
open PySem PySem.Spec PyProof.Rows L2 DL
theorem ixN_nat {n j : Nat} (h : j < n) : ixN n (j : Int) = some j := by
  unfold ixN
  rw [if_pos (by omega), if_pos (by omega), Int.toNat_natCast]
theorem atI_nat {α : Type} {l : List α} {j : Nat} {a : α} (h : l[j]? = some a) : atI l (j : Int) = some a := by
  unfold atI
  rw [ixN_nat (List.getElem?_eq_some_iff.mp h).1]
  exact h
theorem atI_0 {α : Type} {l : List α} {a : α} : atI (a :: l) 0 = some a := atI_nat (j := 0) rfl
theorem atI_1 {α : Type} {l : List α} {a b : α} : atI (a :: b :: l) 1 = some b := atI_nat (j := 1) rfl
theorem atI_2 {α : Type} {l : List α} {a b c : α} : atI (a :: b :: c :: l) 2 = some c := atI_nat (j := 2) rfl
end S
namespace S
open PySem PySem.Spec PyProof.Rows L2 DL
theorem iEnumT {K : PySem.W.Frag} {ta : TA} {σ : L2.St} {H : Hp} {R : It → Hp → Prop} (q : ta σ H fun vs H1 => ∃ a xs, vs = [.ref a] ∧ SqT K H1 a xs ∧ R (ItetT K a) H1) : DL.iEnumT K ta σ H R := q
end S
namespace S
open PySem PySem.Spec PyProof.Rows L2 DL
theorem lcS {wi : TI} {g : TG} {tt : TT} {te : TE} {vs : List Nat} {σ : L2.St} {H : Hp} {Q : VK} (q : wi σ H fun J H1 => ∀ D, H1 D = none → ∃ W : Nat → Nat → Hp → Prop, (∃ m, W 0 m (upd H1 D (.lst []))) ∧ ∀ i m H, W i m H →
  (J.stop i H ∧ Q (.ref D) H) ∨ (J.go i H ∧ ∃ Nx : Hp → Prop, (∀ H', Nx H' → ∃ m', m' < m ∧ W (i + 1) m' H') ∧ ∀ x H', J.yld i H x H' → g x (wipe σ vs) H' fun σ2 H2 => wipe σ2 vs = wipe σ vs ∧ tt σ2 H2 fun b H3 =>
    if b = true then te σ2 H3 fun y H4 => ∃ acc, H4 D = some (.lst acc) ∧ acc.length < sizeLine ∧ Nx (upd H4 D (.lst (acc ++ [y]))) else Nx H3)) : tLc wi g tt te vs σ H Q := q
theorem yes {σ : L2.St} {H : Hp} {QT : Bool → Hp → Prop} (q : QT true H) : tYes σ H QT := q
end S

/-! plain: what a deed does to the tables keeps them well -/
namespace Bo
open PySem PySem.Spec PyProof.Rows L2 DL
def deedOk (st : BSt) : PyData → Bool
  | .tuple (.str w :: t :: rest) => thereD st t && (match rest with
    | [] => decide (w = "end")
    | [x] => if w = "fork" then comeD st x else (decide (w = "load") || decide (w = "store")) && isFrom x 0 63
    | _ => false)
  | _ => false
def okD (st : BSt) (d : Deed) : Bool := deedOk st (deedD d)
def okAll : BSt → List Deed → Bool
  | _, [] => true
  | st, d :: ds => okD st d && okAll (doneE st d).2 ds
def runStep (z : List Ev × BSt) (d : Deed) : List Ev × BSt := (z.1 ++ (doneE z.2 d).1, (doneE z.2 d).2)
def runAll (z : List Ev × BSt) (ds : List Deed) : List Ev × BSt := ds.foldl runStep z
theorem okAll_at : ∀ {ds : List Deed} {st : BSt} {es : List Ev} {i : Nat} {d : Deed}, okAll st ds = true → ds[i]? = some d → okD (runAll (es, st) (ds.take i)).2 d = true
  | [], _, _, _, _, _, h => by simp at h
  | x :: ds, st, es, 0, d, h, e => by
    simp at e
    subst e
    exact (Bool.and_eq_true_iff.mp h).1
  | x :: ds, st, es, i + 1, d, h, e => okAll_at (ds := ds) (i := i) (Bool.and_eq_true_iff.mp h).2 (by simpa using e)
theorem putA_cons_eq {α : Type} {p : Int × α} {l : AL α} {k : Int} {a : α} (h : p.1 = k) (n : k ∉ keysA l) : putA (p :: l) k a = (k, a) :: l := by
  unfold putA
  rw [List.any_cons, decide_eq_true h, Bool.true_or, if_pos rfl, List.map_cons, if_pos h, h]
  congr 1
  conv => rhs; rw [← List.map_id l]
  apply List.map_congr_left
  intro q hq
  rw [if_neg fun z => n (by rw [← z]; exact List.mem_map_of_mem (f := fun p : Int × α => p.1) hq)]
  rfl
theorem putA_cons_ne {α : Type} {p : Int × α} {l : AL α} {k : Int} {a : α} (h : p.1 ≠ k) : putA (p :: l) k a = p :: putA l k a := by
  unfold putA
  rw [List.any_cons, decide_eq_false h, Bool.false_or]
  by_cases e : (l.any fun p => decide (p.1 = k)) = true
  · rw [if_pos e, if_pos e, List.map_cons, if_neg h]
  · rw [if_neg e, if_neg e]; rfl
theorem mem_putA {α : Type} {l : AL α} {k : Int} {a : α} {p : Int × α} (h : p ∈ putA l k a) : p ∈ l ∨ p = (k, a) := by
  unfold putA at h
  by_cases e : (l.any fun p => decide (p.1 = k)) = true
  · rw [if_pos e] at h
    obtain ⟨q, hq, rfl⟩ := List.mem_map.mp h
    by_cases e2 : q.1 = k
    · rw [if_pos e2]; exact .inr (by rw [e2])
    · rw [if_neg e2]; exact .inl hq
  · rw [if_neg e] at h
    rcases List.mem_append.mp h with h | h
    · exact .inl h
    · exact .inr (List.mem_singleton.mp h)
theorem dropA_cons_eq {α : Type} {p : Int × α} {l : AL α} {k : Int} (h : p.1 = k) (n : k ∉ keysA l) : dropA (p :: l) k = l := by
  unfold dropA
  rw [List.filter_cons, if_neg (by simp [h])]
  rw [List.filter_eq_self]
  intro q hq
  exact decide_eq_true fun z => n (by rw [← z]; exact List.mem_map_of_mem (f := fun p : Int × α => p.1) hq)
theorem dropA_cons_ne {α : Type} {p : Int × α} {l : AL α} {k : Int} (h : p.1 ≠ k) : dropA (p :: l) k = p :: dropA l k := by
  unfold dropA
  rw [List.filter_cons, if_pos (by simp [h])]
theorem occ_cons (p : Int × AL Int) (sh : AL (AL Int)) (b : Int) : occ (p :: sh) b = occR p.2 b + occ sh b := by
  unfold occ; rw [List.map_cons, List.sum_cons]
theorem occR_cons (p : Int × Int) (r : AL Int) (b : Int) : occR (p :: r) b = occR r b + if p.2 = b then 1 else 0 := by
  unfold occR
  rw [List.map_cons, List.count_cons]
  by_cases h : p.2 = b <;> simp [h]
theorem occR_nil (b : Int) : occR [] b = 0 := rfl
theorem occ_putA : ∀ {sh : AL (AL Int)} (t : Int) (row : AL Int) (b : Int), (keysA sh).Nodup → occ (putA sh t row) b + occR ((getA sh t).getD []) b = occ sh b + occR row b
  | [], t, row, b, _ => by
    rw [putA_new _ (getA_nil t), getA_nil]
    show occ ([] ++ [(t, row)]) b + 0 = 0 + occR row b
    rw [List.nil_append, occ_cons]
    show occR row b + 0 + 0 = _
    omega
  | p :: sh, t, row, b, nd => by
    have nd' : p.1 ∉ keysA sh ∧ (keysA sh).Nodup := List.nodup_cons.mp nd
    by_cases h : p.1 = t
    · rw [putA_cons_eq h (by rw [← h]; exact nd'.1), getA_cons, if_pos h, occ_cons, occ_cons]
      show occR row b + _ + occR p.2 b = _
      omega
    · rw [putA_cons_ne h, getA_cons, if_neg h, occ_cons, occ_cons]
      have := occ_putA t row b nd'.2
      omega
theorem occ_dropA : ∀ {sh : AL (AL Int)} (t : Int) (b : Int), (keysA sh).Nodup → occ (dropA sh t) b + occR ((getA sh t).getD []) b = occ sh b
  | [], t, b, _ => rfl
  | p :: sh, t, b, nd => by
    have nd' : p.1 ∉ keysA sh ∧ (keysA sh).Nodup := List.nodup_cons.mp nd
    by_cases h : p.1 = t
    · rw [dropA_cons_eq h (by rw [← h]; exact nd'.1), getA_cons, if_pos h, occ_cons]
      show _ + occR p.2 b = _
      omega
    · rw [dropA_cons_ne h, getA_cons, if_neg h, occ_cons, occ_cons]
      have := occ_dropA t b nd'.2
      omega
theorem occR_putA : ∀ {r : AL Int} (s x b : Int), (keysA r).Nodup → occR (putA r s x) b + (if getA r s = some b then 1 else 0) = occR r b + if x = b then 1 else 0
  | [], s, x, b, _ => by
    rw [putA_new _ (getA_nil s), getA_nil]
    show occR ([] ++ [(s, x)]) b + 0 = 0 + _
    rw [List.nil_append, occR_cons]
    show 0 + (if x = b then 1 else 0) + 0 = 0 + (if x = b then 1 else 0)
    rfl
  | p :: r, s, x, b, nd => by
    have nd' : p.1 ∉ keysA r ∧ (keysA r).Nodup := List.nodup_cons.mp nd
    by_cases h : p.1 = s
    · rw [putA_cons_eq h (by rw [← h]; exact nd'.1), getA_cons, if_pos h, occR_cons, occR_cons]
      by_cases e : p.2 = b
      · simp [e]; omega
      · simp [e]
    · rw [putA_cons_ne h, getA_cons, if_neg h, occR_cons, occR_cons]
      have := occR_putA s x b nd'.2
      omega
theorem occR_pos {r : AL Int} {b : Int} : occR r b ≠ 0 ↔ b ∈ r.map (·.2) := by
  unfold occR
  rw [← List.count_pos_iff]
  omega
theorem occR_le_one {r : AL Int} {b : Int} (h : (r.map (·.2)).Nodup) : occR r b ≤ 1 := by
  unfold occR
  exact List.nodup_iff_count.mp h b
theorem occR_le_occ {sh : AL (AL Int)} {t : Int} (b : Int) (nd : (keysA sh).Nodup) : occR ((getA sh t).getD []) b ≤ occ sh b := by
  have := occ_dropA t b nd
  omega
theorem row_ok {n : Nat} {st : BSt} (h : BOk n st) (t : Int) : (keysA ((getA st.sheets t).getD [])).Nodup ∧ (((getA st.sheets t).getD []).map (·.2)).Nodup ∧ ((getA st.sheets t).getD []).length ≤ n := by
  cases q : getA st.sheets t with
  | none => exact ⟨List.nodup_nil, List.nodup_nil, Nat.zero_le _⟩
  | some row => exact ⟨h.ndr _ (getA_mem q), h.ndv _ (getA_mem q), h.lr _ (getA_mem q)⟩
theorem putA_vals {r : AL Int} {s x y : Int} (h : y ∈ (putA r s x).map (·.2)) : y ∈ r.map (·.2) ∨ y = x := by
  obtain ⟨p, hp, rfl⟩ := List.mem_map.mp h
  rcases mem_putA hp with h | h
  · exact .inl (List.mem_map_of_mem (f := fun p : Int × Int => p.2) h)
  · exact .inr (by rw [h])
theorem vals_putA : ∀ {r : AL Int} {s x : Int}, (keysA r).Nodup → (r.map (·.2)).Nodup → x ∉ r.map (·.2) → ((putA r s x).map (·.2)).Nodup
  | [], s, x, _, _, _ => by rw [putA_new _ (getA_nil s)]; simp
  | p :: r, s, x, nd, nv, hx => by
    have nd' : p.1 ∉ keysA r ∧ (keysA r).Nodup := List.nodup_cons.mp nd
    have nv' : p.2 ∉ r.map (·.2) ∧ (r.map (·.2)).Nodup := List.nodup_cons.mp nv
    have hx' : x ≠ p.2 ∧ x ∉ r.map (·.2) := ⟨fun z => hx (by rw [z]; exact List.mem_cons_self), fun z => hx (List.mem_cons_of_mem _ z)⟩
    by_cases h : p.1 = s
    · rw [putA_cons_eq h (by rw [← h]; exact nd'.1), List.map_cons]
      exact List.nodup_cons.mpr ⟨hx'.2, nv'.2⟩
    · rw [putA_cons_ne h, List.map_cons]
      refine List.nodup_cons.mpr ⟨fun z => ?_, vals_putA nd'.2 nv'.2 hx'.2⟩
      rcases putA_vals z with z | z
      · exact nv'.1 z
      · exact hx'.1 z.symm
/-- the common step of load, store: a new body at (t, s), shares as told -/
theorem BOk.withBody {n : Nat} {st : BSt} (h : BOk n st) {t s : Int} (ht : (getA st.sheets t).isSome = true) (sh : AL Int) (nsh : (keysA sh).Nodup) (lsh : sh.length ≤ n)
    (hsh : ∀ b, getA sh b = if occ st.sheets b - (if bodyOf st t s = some b then 1 else 0) = 0 then none else some ((occ st.sheets b - (if bodyOf st t s = some b then 1 else 0) : Nat) : Int)) : BOk (n + 1) (withBody { st with shares := sh } t s) := by
  obtain ⟨r1, r2, r3⟩ := row_ok h t
  obtain ⟨row, hrow⟩ := getA_len ht
  have hb0 : bodyOf st t s = getA ((getA st.sheets t).getD []) s := rfl
  have hx : st.next ∉ ((getA st.sheets t).getD []).map (·.2) := fun z => by
    have h1 := occR_pos.mpr z
    have h2 := occR_le_occ (t := t) st.next h.nds
    have := h.lt st.next (by omega)
    omega
  have hocc : ∀ b, occ (putA st.sheets t (putA ((getA st.sheets t).getD []) s st.next)) b + (if bodyOf st t s = some b then 1 else 0) = occ st.sheets b + if st.next = b then 1 else 0 := fun b => by
    have h1 := occ_putA t (putA ((getA st.sheets t).getD []) s st.next) b h.nds
    have h2 := occR_putA s st.next b r1
    rw [← hb0] at h2
    omega
  have hz : occ st.sheets st.next = 0 := Classical.byContradiction fun z => by
    have := h.lt st.next z
    omega
  have hbn : bodyOf st t s ≠ some st.next := fun z => by
    have e := z
    rw [hb0] at e
    exact hx (List.mem_map_of_mem (f := fun p : Int × Int => p.2) (getA_mem e))
  refine ⟨nodup_putA h.nds _ _, ?_, ?_, fun b => ?_, nodup_putA nsh _ _, fun b hb => ?_, ?_, ?_, ?_, ?_, ?_, ?_, ?_⟩
  · intro p hp
    rcases mem_putA hp with hp | rfl
    · exact h.ndr p hp
    · exact nodup_putA r1 _ _
  · intro p hp
    rcases mem_putA hp with hp | rfl
    · exact h.ndv p hp
    · exact vals_putA r1 r2 hx
  · show getA (putA sh st.next 1) b = if occ (putA st.sheets t (putA ((getA st.sheets t).getD []) s st.next)) b = 0 then none else some _
    have e := hocc b
    rw [getA_putA]
    by_cases eb : b = st.next
    · subst eb
      rw [if_pos rfl] at e
      rw [if_neg hbn, hz] at e
      have e2 : occ (putA st.sheets t (putA ((getA st.sheets t).getD []) s st.next)) st.next = 1 := by omega
      rw [if_pos rfl, if_neg (by show ¬ occ (putA st.sheets t (putA ((getA st.sheets t).getD []) s st.next)) st.next = 0; omega)]
      show some 1 = some ((occ (putA st.sheets t (putA ((getA st.sheets t).getD []) s st.next)) st.next : Nat) : Int)
      rw [e2]; rfl
    · have e3 : (if st.next = b then 1 else 0) = 0 := if_neg fun z => eb z.symm
      rw [e3] at e
      rw [if_neg eb, hsh b]
      have e2 : occ (putA st.sheets t (putA ((getA st.sheets t).getD []) s st.next)) b = occ st.sheets b - (if bodyOf st t s = some b then 1 else 0) := by omega
      show _ = if occ (putA st.sheets t (putA ((getA st.sheets t).getD []) s st.next)) b = 0 then none else some ((occ (putA st.sheets t (putA ((getA st.sheets t).getD []) s st.next)) b : Nat) : Int)
      rw [e2]
  · have e := hocc b
    have hb' : occ (putA st.sheets t (putA ((getA st.sheets t).getD []) s st.next)) b ≠ 0 := hb
    show 0 ≤ b ∧ b < st.next + 1
    have nn := h.nn
    by_cases eb : st.next = b
    · omega
    · have e3 : (if st.next = b then 1 else 0) = 0 := if_neg eb
      rw [e3] at e
      have := h.lt b (by omega)
      omega
  · show 0 ≤ st.next + 1
    have nn := h.nn
    omega
  · show st.next + 1 ≤ ((n + 1 : Nat) : Int)
    have := h.ln
    omega
  · show (putA st.sheets t _).length ≤ n + 1 + 1
    rw [putA_len_in hrow]
    have := h.ls
    omega
  · intro p hp
    rcases mem_putA hp with hp | rfl
    · have := h.lr p hp
      omega
    · show (putA ((getA st.sheets t).getD []) s st.next).length ≤ n + 1
      have := putA_len ((getA st.sheets t).getD []) s st.next
      omega
  · show (putA sh st.next 1).length ≤ n + 1
    have := putA_len sh st.next 1
    omega
  · show st.met.length ≤ n + 1 + 1
    have := h.lm
    omega
  · intro t' h'
    have h2 : (getA (putA st.sheets t (putA ((getA st.sheets t).getD []) s st.next)) t').isSome = true := h'
    rw [getA_putA] at h2
    by_cases e : t' = t
    · rw [e]; exact h.mks t ht
    · rw [if_neg e] at h2; exact h.mks t' h2
theorem shareAll_get : ∀ (row sh : AL Int) (b : Int), getA (shareAll sh row) b = if occR row b = 0 then getA sh b else some ((getA sh b).getD 0 + (occR row b : Int))
  | [], sh, b => by rw [occR_nil]; rfl
  | p :: row, sh, b => by
    show getA (shareAll (putA sh p.2 ((getA sh p.2).getD 0 + 1)) row) b = _
    rw [shareAll_get row, getA_putA, occR_cons]
    by_cases e : p.2 = b
    · subst e
      rw [if_pos rfl, if_pos rfl, if_neg (show ¬ occR row p.2 + 1 = 0 by omega)]
      by_cases e2 : occR row p.2 = 0
      · rw [if_pos e2, e2]; rfl
      · rw [if_neg e2]
        show some ((getA sh p.2).getD 0 + 1 + (occR row p.2 : Int)) = _
        congr 1
        omega
    · have e3 : (if p.2 = b then 1 else 0) = 0 := if_neg e
      rw [if_neg (show ¬ b = p.2 from fun z => e z.symm), e3, Nat.add_zero]
theorem shareAll_nodup : ∀ (row sh : AL Int), (keysA sh).Nodup → (keysA (shareAll sh row)).Nodup
  | [], sh, h => h
  | p :: row, sh, h => shareAll_nodup row _ (nodup_putA h _ _)
theorem BOk.fork {n : Nat} {st : BSt} (h : BOk n st) {t c : Int} (ht : (getA st.sheets t).isSome = true) (hc : getA st.sheets c = none) : BOk (n + 1) (forkS st t c) := by
  obtain ⟨r1, r2, r3⟩ := row_ok h t
  have hocc : ∀ b, occ (putA st.sheets c ((getA st.sheets t).getD [])) b = occ st.sheets b + occR ((getA st.sheets t).getD []) b := fun b => by
    have h1 := occ_putA c ((getA st.sheets t).getD []) b h.nds
    rw [hc] at h1
    have : occR ((none : Option (AL Int)).getD []) b = 0 := rfl
    omega
  have hle := fun b => occR_le_occ (t := t) b h.nds
  refine ⟨nodup_putA h.nds _ _, ?_, ?_, fun b => ?_, shareAll_nodup _ _ h.ndh, fun b hb => ?_, h.nn, ?_, ?_, ?_, ?_, ?_, ?_⟩
  · intro p hp
    rcases mem_putA hp with hp | rfl
    · exact h.ndr p hp
    · exact r1
  · intro p hp
    rcases mem_putA hp with hp | rfl
    · exact h.ndv p hp
    · exact r2
  · show getA (shareAll st.shares ((getA st.sheets t).getD [])) b = if occ (putA st.sheets c ((getA st.sheets t).getD [])) b = 0 then none else some ((occ (putA st.sheets c ((getA st.sheets t).getD [])) b : Nat) : Int)
    rw [hocc, shareAll_get, h.sh b]
    have := hle b
    by_cases e1 : occR ((getA st.sheets t).getD []) b = 0
    · rw [if_pos e1, e1, Nat.add_zero]
    · rw [if_neg e1, if_neg (show ¬ occ st.sheets b = 0 by omega), if_neg (show ¬ occ st.sheets b + occR ((getA st.sheets t).getD []) b = 0 by omega), Option.getD_some]
      congr 1
  · have hb' : occ (putA st.sheets c ((getA st.sheets t).getD [])) b ≠ 0 := hb
    rw [hocc] at hb'
    have := hle b
    exact h.lt b (by omega)
  · show st.next ≤ ((n + 1 : Nat) : Int)
    have := h.ln
    omega
  · show (putA st.sheets c _).length ≤ n + 1 + 1
    have := putA_len st.sheets c ((getA st.sheets t).getD [])
    have := h.ls
    omega
  · intro p hp
    rcases mem_putA hp with hp | rfl
    · have := h.lr p hp
      omega
    · show ((getA st.sheets t).getD []).length ≤ n + 1
      omega
  · show (shareAll st.shares ((getA st.sheets t).getD [])).length ≤ n + 1
    obtain ⟨row, hrow⟩ := getA_len ht
    rw [shareAll_len _ _ fun p hp => by
      rw [hrow] at hp
      obtain ⟨x, hx⟩ := row_shares h hrow p hp
      rw [hx]; rfl]
    have := h.lh
    omega
  · show (putA st.met c ()).length ≤ n + 1 + 1
    have := putA_len st.met c ()
    have := h.lm
    omega
  · intro t' h'
    have h2 : (getA (putA st.sheets c ((getA st.sheets t).getD [])) t').isSome = true := h'
    show (getA (putA st.met c ()) t').isSome = true
    rw [getA_putA] at h2 ⊢
    by_cases e : t' = c
    · rw [if_pos e]; rfl
    · rw [if_neg e] at h2 ⊢; exact h.mks t' h2
theorem endTurn_at {z : List Ev × AL Int} {x c : Int} (h : getA z.2 x = some c) : getA (endTurn z x).2 x = if c = 1 then none else some (c - 1) := by
  unfold endTurn
  rw [h]
  dsimp only [Option.getD_some]
  by_cases e : c = 1
  · rw [if_pos e, if_pos (by omega), getA_dropA, if_pos rfl]
  · rw [if_neg e, if_neg (by omega), getA_putA, if_pos rfl]
theorem endTurn_nodup {z : List Ev × AL Int} (h : (keysA z.2).Nodup) (x : Int) : (keysA (endTurn z x).2).Nodup := by
  unfold endTurn
  dsimp only
  split
  · exact nodup_dropA (nodup_putA h _ _) _
  · exact nodup_putA h _ _
theorem endTurn_len {z : List Ev × AL Int} {x c : Int} (h : getA z.2 x = some c) : (endTurn z x).2.length ≤ z.2.length := by
  unfold endTurn
  dsimp only
  split
  · refine Nat.le_trans (List.length_filter_le _ _) ?_
    rw [putA_len_in h]; exact Nat.le_refl _
  · show (putA z.2 x _).length ≤ _
    rw [putA_len_in h]; exact Nat.le_refl _
/-- the end's fold over distinct bodies that all stand -/
theorem endFold : ∀ {l : List Int} {z : List Ev × AL Int}, l.Nodup → (keysA z.2).Nodup → (∀ x ∈ l, (getA z.2 x).isSome = true) →
    (∀ b, getA (l.foldl endTurn z).2 b = if b ∈ l then (if getA z.2 b = some 1 then none else (getA z.2 b).map (· - 1)) else getA z.2 b) ∧ (keysA (l.foldl endTurn z).2).Nodup ∧ (l.foldl endTurn z).2.length ≤ z.2.length ∧
    (l.foldl endTurn z).1 = z.1 ++ (l.filter fun b => getA z.2 b = some 1).map Ev.gone
  | [], z, _, nd, _ => ⟨fun b => by simp, nd, Nat.le_refl _, by simp⟩
  | x :: l, z, nl, nd, hs => by
    have nl' := List.nodup_cons.mp nl
    obtain ⟨c, hc⟩ := getA_len (hs x List.mem_cons_self)
    have ho : ∀ b ∈ l, getA (endTurn z x).2 b = getA z.2 b := fun b hb => endTurn_other fun e => nl'.1 (by rw [← e]; exact hb)
    obtain ⟨h1, h2, h3, h4⟩ := endFold (l := l) (z := endTurn z x) nl'.2 (endTurn_nodup nd x) fun y hy => by rw [ho y hy]; exact hs y (List.mem_cons_of_mem _ hy)
    refine ⟨fun b => ?_, h2, Nat.le_trans h3 (endTurn_len hc), ?_⟩
    · show getA (l.foldl endTurn (endTurn z x)).2 b = _
      rw [h1 b]
      by_cases eb : b = x
      · subst eb
        rw [if_neg nl'.1, if_pos List.mem_cons_self, endTurn_at hc, hc]
        by_cases e1 : c = 1
        · subst e1; simp
        · rw [if_neg e1, if_neg (fun z => e1 (Option.some.inj z))]; rfl
      · rw [endTurn_other eb]
        by_cases e2 : b ∈ l
        · rw [if_pos e2, if_pos (List.mem_cons_of_mem _ e2)]
        · rw [if_neg e2, if_neg (fun z => (List.mem_cons.mp z).elim eb e2)]
    · show (l.foldl endTurn (endTurn z x)).1 = _
      rw [h4]
      have hf : (l.filter fun b => decide (getA (endTurn z x).2 b = some 1)) = l.filter fun b => decide (getA z.2 b = some 1) := List.filter_congr fun b hb => by rw [ho b hb]
      rw [hf, List.filter_cons, hc]
      unfold endTurn
      rw [hc]
      dsimp only [Option.getD_some]
      by_cases e1 : c = 1
      · subst e1
        simp
      · rw [if_neg (show ¬ c - 1 = 0 by omega), if_neg (by simp [e1])]
theorem BOk.fin {n : Nat} {st : BSt} (h : BOk n st) {t : Int} (ht : (getA st.sheets t).isSome = true) : BOk (n + 1) (endE st t).2 ∧ (endE st t).1.length ≤ n ∧
    (endE st t).1 = (((sortI (((getA st.sheets t).getD []).map (·.2))).filter fun b => decide (occ st.sheets b = 1)).map Ev.gone) := by
  obtain ⟨r1, r2, r3⟩ := row_ok h t
  have hperm := sortI_perm (((getA st.sheets t).getD []).map (·.2))
  have hnd : (sortI (((getA st.sheets t).getD []).map (·.2))).Nodup := hperm.symm.nodup_iff.mp r2
  have hmem : ∀ b, b ∈ sortI (((getA st.sheets t).getD []).map (·.2)) ↔ occR ((getA st.sheets t).getD []) b ≠ 0 := fun b => by rw [occR_pos]; exact hperm.mem_iff
  have hle := fun b => occR_le_occ (t := t) b h.nds
  have hst : ∀ x ∈ sortI (((getA st.sheets t).getD []).map (·.2)), (getA st.shares x).isSome = true := fun x hx => by
    rw [h.sh x, if_neg (by have := (hmem x).mp hx; have := hle x; omega)]; rfl
  obtain ⟨h1, h2, h3, h4⟩ := endFold (z := ([], st.shares)) hnd h.ndh hst
  have hone : ∀ b, getA st.shares b = some 1 ↔ occ st.sheets b = 1 := fun b => by
    rw [h.sh b]
    by_cases e : occ st.sheets b = 0
    · rw [if_pos e]; simp [e]
    · rw [if_neg e]; simp; omega
  have hdrop := fun b => occ_dropA t b h.nds
  have heq : (endE st t).1 = (((sortI (((getA st.sheets t).getD []).map (·.2))).filter fun b => decide (occ st.sheets b = 1)).map Ev.gone) := by
    show ((sortI (((getA st.sheets t).getD []).map (·.2))).foldl endTurn ([], st.shares)).1 = _
    rw [h4, List.nil_append]
    congr 1
    apply List.filter_congr
    intro b _
    have := hone b
    by_cases e : occ st.sheets b = 1
    · rw [decide_eq_true e, decide_eq_true (this.mpr e)]
    · rw [decide_eq_false e, decide_eq_false (fun z => e (this.mp z))]
  refine ⟨⟨nodup_dropA h.nds _, fun p hp => h.ndr p (List.mem_filter.mp hp).1, fun p hp => h.ndv p (List.mem_filter.mp hp).1, fun b => ?_, h2, fun b hb => ?_, h.nn, ?_, ?_, fun p hp => ?_, ?_, ?_, fun t' h' => ?_⟩, ?_, heq⟩
  · show getA ((sortI (((getA st.sheets t).getD []).map (·.2))).foldl endTurn ([], st.shares)).2 b = if occ (dropA st.sheets t) b = 0 then none else some ((occ (dropA st.sheets t) b : Nat) : Int)
    rw [h1 b]
    have e0 := hdrop b
    have hm := hmem b
    have hb1 : occR ((getA st.sheets t).getD []) b ≤ 1 := occR_le_one r2
    have hsb := h.sh b
    by_cases em : b ∈ sortI (((getA st.sheets t).getD []).map (·.2))
    · have := hm.mp em
      rw [if_pos em]
      show (if getA st.shares b = some 1 then none else (getA st.shares b).map (· - 1)) = _
      by_cases e1 : occ st.sheets b = 1
      · rw [if_pos ((hone b).mpr e1), if_pos (by omega)]
      · rw [if_neg (fun z => e1 ((hone b).mp z)), if_neg (show ¬ occ (dropA st.sheets t) b = 0 by omega), hsb, if_neg (by omega)]
        show some ((occ st.sheets b : Int) - 1) = _
        congr 1
        omega
    · have : occR ((getA st.sheets t).getD []) b = 0 := Classical.byContradiction fun z => em (hm.mpr z)
      rw [if_neg em]
      show getA st.shares b = _
      rw [hsb, show occ (dropA st.sheets t) b = occ st.sheets b by omega]
  · have e0 := hdrop b
    have hb' : occ (dropA st.sheets t) b ≠ 0 := hb
    exact h.lt b (by omega)
  · show st.next ≤ ((n + 1 : Nat) : Int)
    have := h.ln
    omega
  · show (dropA st.sheets t).length ≤ n + 1 + 1
    have := List.length_filter_le (fun p : Int × AL Int => decide (p.1 ≠ t)) st.sheets
    have := h.ls
    unfold dropA
    omega
  · have := h.lr p (List.mem_filter.mp hp).1
    omega
  · show ((sortI (((getA st.sheets t).getD []).map (·.2))).foldl endTurn ([], st.shares)).2.length ≤ n + 1
    have h5 : ((sortI (((getA st.sheets t).getD []).map (·.2))).foldl endTurn ([], st.shares)).2.length ≤ st.shares.length := h3
    have := h.lh
    omega
  · show st.met.length ≤ n + 1 + 1
    have := h.lm
    omega
  · have h2 : (getA (dropA st.sheets t) t').isSome = true := h'
    rw [getA_dropA] at h2
    by_cases e : t' = t
    · rw [if_pos e] at h2; cases h2
    · rw [if_neg e] at h2; exact h.mks t' h2
  · rw [heq, List.length_map]
    refine Nat.le_trans (List.length_filter_le _ _) ?_
    rw [hperm.length_eq, List.length_map]
    exact r3
theorem BOk.more {n m : Nat} {st : BSt} (h : BOk n st) (hm : n ≤ m) : BOk m st :=
  ⟨h.nds, h.ndr, h.ndv, h.sh, h.ndh, h.lt, h.nn, by have := h.ln; omega, by have := h.ls; omega, fun p hp => by have := h.lr p hp; omega, by have := h.lh; omega, by have := h.lm; omega, h.mks⟩
theorem BOk.zero : BOk 0 st0 := by
  have ho : ∀ b, occ st0.sheets b = 0 := fun b => rfl
  refine ⟨by simp [st0, keysA], ?_, ?_, fun b => by rw [ho, if_pos rfl]; rfl, by simp [st0, keysA], fun b hb => absurd (ho b) hb, Int.le_refl _, Int.le_refl _, Nat.le_refl _, ?_, Nat.le_refl _, Nat.le_refl _, ?_⟩
  · intro p hp; simp [st0] at hp; subst hp; exact List.nodup_nil
  · intro p hp; simp [st0] at hp; subst hp; exact List.nodup_nil
  · intro p hp; simp [st0] at hp; subst hp; exact Nat.le_refl _
  · intro t h
    simp only [st0, getA_cons, getA_nil] at h ⊢
    by_cases e : (1 : Int) = t
    · rw [if_pos e]; rfl
    · rw [if_neg e] at h; cases h
/-- a deed that is told to be well can be done -/
theorem can_of {n : Nat} {st : BSt} (h : BOk n st) {d : Deed} (ok : okD st d = true) : can st d := by
  have isT : ∀ t : Int, thereD st (.int t) = true → (getA st.sheets t).isSome = true := fun t ht => (Bool.and_eq_true_iff.mp ht).2
  cases d with
  | load t s => exact isT t (Bool.and_eq_true_iff.mp ok).1
  | store t s => exact isT t (Bool.and_eq_true_iff.mp ok).1
  | fork t c =>
    obtain ⟨h1, h2⟩ := Bool.and_eq_true_iff.mp ok
    refine ⟨isT t h1, ?_⟩
    have h3 : comeD st (.int c) = true := by simpa [deedD] using h2
    have h4 : (getA st.met c).isSome = false := by
      have := (Bool.and_eq_true_iff.mp h3).2
      simpa using this
    cases q : getA st.sheets c with
    | none => rfl
    | some x =>
      have := h.mks c (by rw [q]; rfl)
      rw [h4] at this; cases this
  | fin t => exact isT t (Bool.and_eq_true_iff.mp ok).1
theorem BOk.step {n : Nat} {st : BSt} (h : BOk n st) (hn : 1 ≤ n + 1) {d : Deed} (c : can st d) : BOk (n + 1) (doneE st d).2 ∧ (doneE st d).1.length ≤ n + 2 := by
  cases d with
  | load t s =>
    refine ⟨h.more (Nat.le_succ n), ?_⟩
    show (loadE st t s).length ≤ n + 2
    unfold loadE
    cases bodyOf st t s <;> simp
  | store t s =>
    show BOk (n + 1) (storeE st t s).2 ∧ (storeE st t s).1.length ≤ n + 2
    unfold storeE
    cases q : bodyOf st t s with
    | none =>
      refine ⟨?_, by simp⟩
      have := h.withBody (s := s) c st.shares h.ndh h.lh fun b => by
        have e3 : (if (none : Option Int) = some b then 1 else 0) = 0 := by simp
        rw [q, e3, Nat.sub_zero]; exact h.sh b
      exact this
    | some x =>
      obtain ⟨hc, hc0⟩ := shares_of h q
      dsimp only
      by_cases e : 1 < cnt st x
      · rw [if_pos e]
        refine ⟨?_, by simp⟩
        refine h.withBody (s := s) c (putA st.shares x (cnt st x - 1)) (nodup_putA h.ndh _ _) (by rw [putA_len_in hc]; exact h.lh) fun b => ?_
        have hx := h.sh x
        rw [hc] at hx
        rw [q, getA_putA]
        by_cases eb : b = x
        · subst eb
          rw [if_pos rfl, if_pos rfl]
          by_cases e0 : occ st.sheets b = 0
          · rw [if_pos e0] at hx; cases hx
          · rw [if_neg e0] at hx
            have hx' := Option.some.inj hx
            rw [if_neg (by omega)]
            congr 1
            omega
        · have e3 : (if some x = some b then 1 else 0) = 0 := if_neg fun z => eb (Option.some.inj z).symm
          rw [if_neg eb, e3, Nat.sub_zero]
          exact h.sh b
      · rw [if_neg e]
        exact ⟨h.more (Nat.le_succ n), by simp⟩
  | fork t x => exact ⟨h.fork c.1 c.2, Nat.zero_le _⟩
  | fin t =>
    obtain ⟨h1, h2, _⟩ := h.fin c
    exact ⟨h1, Nat.le_trans h2 (by omega)⟩
theorem run_ok {ds : List Deed} (ok : okAll st0 ds = true) : ∀ i, i ≤ ds.length → BOk i (runAll ([], st0) (ds.take i)).2 ∧ (runAll ([], st0) (ds.take i)).1.length ≤ i * (i + 2)
  | 0, _ => ⟨BOk.zero, Nat.zero_le _⟩
  | i + 1, hi => by
    obtain ⟨h1, h2⟩ := run_ok ok i (by omega)
    have hd : ds[i]? = some ds[i] := by simp
    have hr : runAll ([], st0) (ds.take (i + 1)) = runStep (runAll ([], st0) (ds.take i)) ds[i] := take_succ_fold hd
    rw [hr]
    obtain ⟨h3, h4⟩ := h1.step (by omega) (can_of h1 (okAll_at (es := []) ok hd))
    refine ⟨h3, ?_⟩
    show ((runAll ([], st0) (ds.take i)).1 ++ _).length ≤ _
    rw [List.length_append]
    have e : (i + 1) * (i + 1 + 2) = i * (i + 2) + (i + 2) + (i + 1) := by
      rw [show i + 1 + 2 = (i + 2) + 1 from rfl, Nat.mul_succ, Nat.succ_mul]
    omega
def spIsDeed (K : PySem.W.Frag) (C : Addr) : Sp := fun vs H Q _ => ∃ (F : Hp) (p : Addr) (st : BSt) (W : List Addr) (v : V) (d : PyData), vs = [.ref p, v] ∧ Same F H ∧ BAt C F H p st W ∧ Dp K F v d ∧ ∀ F' H', Gr [] F H F' H' → Q (.bl (deedOk st d)) H'
/-- gone_through of deeds that are well -/
def spGone (K : PySem.W.Frag) (C : Addr) : Sp := fun vs H Q _ => ∃ (F : Hp) (v : V) (ds : List Deed), vs = [v] ∧ Same F H ∧ Dp K F v (.tuple (ds.map deedD)) ∧ ds.length ≤ 400 ∧ okAll st0 ds = true ∧
  ∀ r q p xs F' H' W', Gr [] F H F' H' → BAt C F' H' p (runAll ([], st0) ds).2 W' → (∀ b ∈ W', H b = none) → H q = none → q ∉ W' → F' q = none → H' q = some (.lst xs) → DpAll K F' xs ((runAll ([], st0) ds).1.map evD) →
    H r = none → H' r = some (.tup [.ref q, .ref p]) → Q (.ref r) H'
end Bo
namespace DL
open PySem PySem.Spec PyProof.Rows L2
theorem Gr.fresh {W : List Addr} {F H F1 H1 F2 H2 : Hp} (a : Gr [] F H F1 H1) (b : Gr W F1 H1 F2 H2) (h : ∀ x ∈ W, H x = none) : Gr [] F H F2 H2 :=
  ⟨a.fs.trans b.fs, fun c o n e => b.hs c o (fun z => by rw [h c z] at e; cases e) (a.hs c o n e), b.sub, fun c h1 h2 => b.own c (a.own c h1 h2) (a.live c h2), fun c h => b.live c (a.live c h)⟩
end DL

/-! the object of frames -/
namespace Fr
open PySem PySem.Spec PyProof.Rows L2 DL Bo
inductive Rule where
  | first | longest | clock | told (cs : List Int)
def ruleD : Rule → PyData
  | .first => .str "first"
  | .longest => .str "longest"
  | .clock => .str "clock"
  | .told cs => .tuple [.str "told", .tuple (cs.map PyData.int)]
def Rule.isStr : Rule → Bool
  | .told _ => false | _ => true
def Rule.isClock : Rule → Bool
  | .clock => true | _ => false
def Rule.isLongest : Rule → Bool
  | .longest => true | _ => false
theorem isStr_rule (R : Rule) : isStr (ruleD R) = R.isStr := by cases R <;> rfl
theorem eqv_clock (R : Rule) : PyData.eqv (ruleD R) (.str "clock") = R.isClock := by
  cases R with
  | told cs => simp [ruleD, PyData.eqv, Rule.isClock]
  | _ => simp only [ruleD, PyData.eqv, Rule.isClock] <;> decide +kernel
theorem eqv_longest (R : Rule) : PyData.eqv (ruleD R) (.str "longest") = R.isLongest := by
  cases R with
  | told cs => simp [ruleD, PyData.eqv, Rule.isLongest]
  | _ => simp only [ruleD, PyData.eqv, Rule.isLongest] <;> decide +kernel
theorem lay_str {x : Str} (h : PyData.strOk x = true) : PyData.canLay0 (.str x) = true := by unfold PyData.canLay0; exact h
theorem shaped_str {x : Str} (h : PyData.strOk x = true) : SeqAt.shaped (.str x) = true := by
  unfold SeqAt.shaped
  rw [lay_str h, show (PyData.str x).depth = 0 by simp [PyData.depth]] <;> rfl
theorem shaped_clock : SeqAt.shaped (.str "clock") = true := shaped_str (by decide +kernel)
theorem shaped_longest : SeqAt.shaped (.str "longest") = true := shaped_str (by decide +kernel)
theorem shaped_rule (R : Rule) : SeqAt.shaped (ruleD R) = true := by
  cases R with
  | first => exact shaped_str (by decide +kernel)
  | longest => exact shaped_str (by decide +kernel)
  | clock => exact shaped_str (by decide +kernel)
  | told cs =>
    have h1 := PySem.W.ke_canLayAll0 cs
    have h2 := PySem.W.ke_depthAll cs
    have h3 : PyData.canLay0 (.str "told") = true := lay_str (by decide +kernel)
    simp [ruleD, SeqAt.shaped, PyData.canLayAll0, PyData.depth, PyData.depthAll, h2, h3, PyData.canLay0, h1]
    exact h3
structure FSt where
  places : Int
  rule : Rule
  row : List Int
  marked : AL Unit
  missed : Int
  left : Nat
def fflds (n : Int) (v : V) (r m : Addr) (mi : Int) (l : Nat) : List (Str × V) := [("places", .int n), ("rule", v), ("row", .ref r), ("marked", .ref m), ("missed", .int mi), ("left", .int (l : Int))]
structure FParts (K : PySem.W.Frag) (C : Addr) (F H : Hp) (p : Addr) (st : FSt) (v : V) (r m : Addr) : Prop where
  ob : ∃ dx, H p = some (.ins C dx (fflds st.places v r m st.missed st.left))
  rwd : H r = some (.lst (st.row.map V.int))
  mkd : H m = some (.dK (kM (fun _ => V.bl true) st.marked))
  rl : Dp K F v (ruleD st.rule)
  pr : p ≠ r
  pm : p ≠ m
  rm : r ≠ m
  fp : F p = none
  fr : F r = none
  fm : F m = none
def FAt (K : PySem.W.Frag) (C : Addr) (F H : Hp) (p : Addr) (st : FSt) (W : List Addr) : Prop := ∃ v r m, W = [p, r, m] ∧ FParts K C F H p st v r m
theorem lk_places (n : Int) (v : V) (r m : Addr) (mi : Int) (l : Nat) : (fflds n v r m mi l).lookup ("places" : Str) = some (.int n) := rfl
theorem lk_rule (n : Int) (v : V) (r m : Addr) (mi : Int) (l : Nat) : (fflds n v r m mi l).lookup ("rule" : Str) = some v := rfl
theorem lk_row (n : Int) (v : V) (r m : Addr) (mi : Int) (l : Nat) : (fflds n v r m mi l).lookup ("row" : Str) = some (.ref r) := rfl
theorem lk_marked (n : Int) (v : V) (r m : Addr) (mi : Int) (l : Nat) : (fflds n v r m mi l).lookup ("marked" : Str) = some (.ref m) := rfl
theorem lk_missed (n : Int) (v : V) (r m : Addr) (mi : Int) (l : Nat) : (fflds n v r m mi l).lookup ("missed" : Str) = some (.int mi) := rfl
theorem lk_left (n : Int) (v : V) (r m : Addr) (mi : Int) (l : Nat) : (fflds n v r m mi l).lookup ("left" : Str) = some (.int (l : Int)) := rfl
theorem put_missed (n : Int) (v : V) (r m : Addr) (mi k : Int) (l : Nat) : putF "missed" (.int k) (fflds n v r m mi l) = fflds n v r m k l := rfl
theorem put_left (n : Int) (v : V) (r m : Addr) (mi : Int) (l : Nat) : putF "left" (.int ((l : Int) + 1)) (fflds n v r m mi l) = fflds n v r m mi (l + 1) := rfl
section
variable {K : PySem.W.Frag} {C : Addr} {F H : Hp} {p r m : Addr} {v : V} {st : FSt}
theorem FParts.step (h : FParts K C F H p st v r m) {F' H' : Hp} (fs : Same F F') (k : ∀ x ∈ [p, r, m], ∀ o, H x = some o → H' x = some o) (o : ∀ x ∈ [p, r, m], F' x = none) : FParts K C F' H' p st v r m := by
  obtain ⟨dx, h1⟩ := h.ob
  exact ⟨⟨dx, k p (by simp) _ h1⟩, k r (by simp) _ h.rwd, k m (by simp) _ h.mkd, h.rl.to fs, h.pr, h.pm, h.rm, o p (by simp), o r (by simp), o m (by simp)⟩
theorem FParts.off (h : FParts K C F H p st v r m) : ∀ x ∈ [p, r, m], F x = none := by
  intro x hx
  simp only [List.mem_cons, List.not_mem_nil, or_false] at hx
  rcases hx with rfl | rfl | rfl
  · exact h.fp
  · exact h.fr
  · exact h.fm
theorem FParts.live (h : FParts K C F H p st v r m) : ∀ x ∈ [p, r, m], H x ≠ none := by
  obtain ⟨dx, h1⟩ := h.ob
  intro x hx e
  simp only [List.mem_cons, List.not_mem_nil, or_false] at hx
  rcases hx with rfl | rfl | rfl
  · rw [h1] at e; cases e
  · rw [h.rwd] at e; cases e
  · rw [h.mkd] at e; cases e
theorem FParts.gr (h : FParts K C F H p st v r m) {F' H' : Hp} {W : List Addr} (g : Gr W F H F' H') (n : ∀ x ∈ [p, r, m], x ∉ W) : FParts K C F' H' p st v r m :=
  h.step g.fs (fun x hx o e => g.at (n x hx) e) fun x hx => g.own x (h.off x hx) (h.live x hx)
theorem FParts.gr0 (h : FParts K C F H p st v r m) {F' H' : Hp} (g : Gr [] F H F' H') : FParts K C F' H' p st v r m := h.gr g fun _ _ z => nomatch z
theorem FParts.wRow (h : FParts K C F H p st v r m) (row : List Int) : FParts K C F (upd H r (.lst (row.map V.int))) p { st with row := row } v r m := by
  obtain ⟨dx, h1⟩ := h.ob
  exact ⟨⟨dx, (upd_ne h.pr).trans h1⟩, upd_same, (upd_ne h.rm.symm).trans h.mkd, h.rl, h.pr, h.pm, h.rm, h.fp, h.fr, h.fm⟩
theorem FParts.wMark (h : FParts K C F H p st v r m) (mk : AL Unit) : FParts K C F (upd H m (.dK (kM (fun _ => V.bl true) mk))) p { st with marked := mk } v r m := by
  obtain ⟨dx, h1⟩ := h.ob
  exact ⟨⟨dx, (upd_ne h.pm).trans h1⟩, (upd_ne h.rm).trans h.rwd, upd_same, h.rl, h.pr, h.pm, h.rm, h.fp, h.fr, h.fm⟩
theorem FParts.wMissed (h : FParts K C F H p st v r m) (dx : Addr) (k : Int) : FParts K C F (upd H p (.ins C dx (fflds st.places v r m k st.left))) p { st with missed := k } v r m :=
  ⟨⟨dx, upd_same⟩, (upd_ne h.pr.symm).trans h.rwd, (upd_ne h.pm.symm).trans h.mkd, h.rl, h.pr, h.pm, h.rm, h.fp, h.fr, h.fm⟩
theorem FParts.wLeft (h : FParts K C F H p st v r m) (dx : Addr) (k : Nat) : FParts K C F (upd H p (.ins C dx (fflds st.places v r m st.missed k))) p { st with left := k } v r m :=
  ⟨⟨dx, upd_same⟩, (upd_ne h.pr.symm).trans h.rwd, (upd_ne h.pm.symm).trans h.mkd, h.rl, h.pr, h.pm, h.rm, h.fp, h.fr, h.fm⟩
theorem FAt.gr (h : FAt K C F H p st W') {F' H' : Hp} {W : List Addr} (g : Gr W F H F' H') (n : ∀ x ∈ W', x ∉ W) : FAt K C F' H' p st W' := by
  obtain ⟨v, r, m, rfl, P⟩ := h
  exact ⟨v, r, m, rfl, P.gr g n⟩
theorem FAt.gr0 (h : FAt K C F H p st W') {F' H' : Hp} (g : Gr [] F H F' H') : FAt K C F' H' p st W' := h.gr g fun _ _ z => nomatch z
theorem FAt.live (h : FAt K C F H p st W') : ∀ x ∈ W', H x ≠ none := by
  obtain ⟨v, r, m, rfl, P⟩ := h
  exact P.live
end
/-- the class as the top has made it -/
structure FrC (K : PySem.W.Frag) (C : Addr) : Prop where
  cl : Cls K C
  n1 : NoAttr K C "places"
  n2 : NoAttr K C "rule"
  n3 : NoAttr K C "row"
  n4 : NoAttr K C "marked"
  n5 : NoAttr K C "missed"
  n6 : NoAttr K C "left"
/-! what the methods do -/
def turnC : Nat → List Int → AL Unit → List Int × AL Unit
  | 0, row, mk => (row, mk)
  | _ + 1, [], mk => ([], mk)
  | n + 1, b :: row, mk => if (getA mk b).isSome = true then turnC n (row ++ [b]) (dropA mk b) else (b :: row, mk)
theorem getA_some_len {α : Type} {l : AL α} {k : Int} (h : (getA l k).isSome = true) : (dropA l k).length < l.length := by
  obtain ⟨a, ha⟩ := getA_len h
  have hm := getA_mem ha
  unfold dropA
  have h1 := List.length_filter_le (fun p : Int × α => decide (p.1 ≠ k)) l
  rcases Nat.lt_or_ge (l.filter fun p : Int × α => decide (p.1 ≠ k)).length l.length with h2 | h2
  · exact h2
  · have h3 := List.length_filter_eq_length_iff.mp (Nat.le_antisymm h1 h2) _ hm
    simp at h3
theorem turnC_fuel : ∀ (n m : Nat) (row : List Int) (mk : AL Unit), mk.length ≤ n → mk.length ≤ m → turnC n row mk = turnC m row mk
  | 0, 0, _, _, _, _ => rfl
  | 0, m + 1, row, mk, h, _ => by
    have : mk = [] := List.length_eq_zero_iff.mp (Nat.le_zero.mp h)
    subst this
    cases row with
    | nil => rfl
    | cons b row => rfl
  | n + 1, 0, row, mk, _, h => by
    have : mk = [] := List.length_eq_zero_iff.mp (Nat.le_zero.mp h)
    subst this
    cases row with
    | nil => rfl
    | cons b row => rfl
  | n + 1, m + 1, [], mk, _, _ => rfl
  | n + 1, m + 1, b :: row, mk, h1, h2 => by
    unfold turnC
    by_cases e : (getA mk b).isSome = true
    · rw [if_pos e, if_pos e]
      have := getA_some_len e
      exact turnC_fuel n m _ _ (by omega) (by omega)
    · rw [if_neg e, if_neg e]
def choiceF (st : FSt) : Int := match st.rule with
  | .told cs => (cs[st.left]?).getD 0
  | _ => 0
def chosenF (st : FSt) : Int := ((sortI st.row)[(choiceF st % st.places).toNat]?).getD 0
def putOutF (st : FSt) : FSt :=
  let st1 := if st.rule.isClock then { st with row := (turnC st.marked.length st.row st.marked).1, marked := (turnC st.marked.length st.row st.marked).2 } else st
  let st2 := if st.rule.isStr then { st1 with row := st1.row.drop 1 } else { st1 with row := st1.row.erase (chosenF st1) }
  { st2 with left := st2.left + 1 }
def lookF (st : FSt) (b : Int) : FSt :=
  let st1 := if st.rule.isLongest then { st with row := st.row.erase b ++ [b] } else st
  if st.rule.isClock then { st1 with marked := putA st1.marked b () } else st1
def leaveF (st : FSt) (b : Int) : FSt := { st with row := st.row.erase b, marked := dropA st.marked b }
def comeF (st : FSt) : Ev → FSt
  | .gone b => leaveF st b
  | .look b | .make b => if b ∈ st.row then lookF st b else
    let st1 := if (st.row.length : Int) = st.places then putOutF st else st
    { st1 with row := st1.row ++ [b], missed := st1.missed + 1 }
theorem turnC_len : ∀ (n : Nat) (row : List Int) (mk : AL Unit), (turnC n row mk).1.length = row.length
  | 0, _, _ => rfl
  | _ + 1, [], _ => rfl
  | n + 1, b :: row, mk => by
    unfold turnC
    by_cases e : (getA mk b).isSome = true
    · rw [if_pos e, turnC_len n]; simp
    · rw [if_neg e]
theorem putOut_len (st : FSt) : (putOutF st).row.length ≤ st.row.length := by
  have h0 : (if st.rule.isClock then ({ st with row := (turnC st.marked.length st.row st.marked).1, marked := (turnC st.marked.length st.row st.marked).2 } : FSt) else st).row.length = st.row.length := by
    by_cases e : st.rule.isClock = true
    · rw [if_pos e]; exact turnC_len ..
    · rw [if_neg e]
  unfold putOutF
  dsimp only
  generalize (if st.rule.isClock then ({ st with row := (turnC st.marked.length st.row st.marked).1, marked := (turnC st.marked.length st.row st.marked).2 } : FSt) else st) = st1 at *
  by_cases e : st.rule.isStr = true
  · rw [if_pos e]
    show (st1.row.drop 1).length ≤ _
    rw [List.length_drop]; omega
  · rw [if_neg e]
    show (st1.row.erase _).length ≤ _
    have := List.length_erase_le (a := chosenF st1) (l := st1.row)
    omega
/-- what keeps the frames well, behind n events -/
structure FOk (n : Nat) (st : FSt) : Prop where
  p1 : 1 ≤ st.places
  p2 : st.places ≤ 16
  nd : st.row.Nodup
  rl : (st.row.length : Int) ≤ st.places
  ml : st.marked.length ≤ n
def spNeedFrames (K : PySem.W.Frag) : Sp := fun vs H Q _ => ∃ n : Int, vs = [.int n] ∧ 1 ≤ n ∧ n ≤ 16 ∧ Q .non H
def ruleOk : Rule → Prop
  | .told cs => cs.length ≤ 800 ∧ ∀ c ∈ cs, 0 ≤ c ∧ c ≤ 15
  | _ => True
def spChoices (K : PySem.W.Frag) : Sp := fun vs H Q _ => ∃ (F : Hp) (v : V) (cs : List Int), vs = [v] ∧ Same F H ∧ Dp K F v (.tuple (cs.map .int)) ∧ cs.length ≤ 800 ∧ (∀ c ∈ cs, 0 ≤ c ∧ c ≤ 15) ∧ ∀ F' H', Gr [] F H F' H' → Q (.bl true) H'
def spIsRule (K : PySem.W.Frag) : Sp := fun vs H Q _ => ∃ (F : Hp) (v : V) (R : Rule), vs = [v] ∧ Same F H ∧ Dp K F v (ruleD R) ∧ ruleOk R ∧ ∀ F' H', Gr [] F H F' H' → Q (.bl true) H'
def spNeedRule (K : PySem.W.Frag) : Sp := fun vs H Q _ => ∃ (F : Hp) (v : V) (R : Rule), vs = [v] ∧ Same F H ∧ Dp K F v (ruleD R) ∧ ruleOk R ∧ ∀ F' H', Gr [] F H F' H' → Q .non H'
def fst0 (n : Int) (R : Rule) : FSt := ⟨n, R, [], [], 0, 0⟩
def spFInit (K : PySem.W.Frag) (C : Addr) : Sp := fun vs H Q _ => ∃ (F : Hp) (p dx : Addr) (n : Int) (v : V) (R : Rule), vs = [.ref p, .int n, v] ∧ Same F H ∧ F p = none ∧ H p = some (.ins C dx []) ∧ Dp K F v (ruleD R) ∧
  ∀ F' H' W', Gr [p] F H F' H' → FAt K C F' H' p (fst0 n R) W' → (∀ b ∈ W', b = p ∨ H b = none) → Q .non H'
def spInside (K : PySem.W.Frag) (C : Addr) : Sp := fun vs H Q _ => ∃ (F : Hp) (p : Addr) (st : FSt) (W : List Addr), vs = [.ref p] ∧ Same F H ∧ FAt K C F H p st W ∧ ∀ v F' H', Gr [] F H F' H' → Dp K F' v (.tuple ((sortI st.row).map .int)) → Q v H'
def spChosen (K : PySem.W.Frag) (C : Addr) : Sp := fun vs H Q _ => ∃ (F : Hp) (p : Addr) (st : FSt) (W : List Addr), vs = [.ref p] ∧ Same F H ∧ FAt K C F H p st W ∧ st.rule.isStr = false ∧ 1 ≤ st.places ∧ (st.row.length : Int) = st.places ∧ ∀ F' H', Gr [] F H F' H' → Q (.int (chosenF st)) H'
/-- the object changed in its place -/
def FSet (K : PySem.W.Frag) (C : Addr) (F H : Hp) (p : Addr) (W : List Addr) (st' : FSt) (Q : VK) : Prop := ∀ F' H', Gr W F H F' H' → FAt K C F' H' p st' W → Q .non H'
def spPutOut (K : PySem.W.Frag) (C : Addr) : Sp := fun vs H Q _ => ∃ (F : Hp) (p : Addr) (st : FSt) (W : List Addr), vs = [.ref p] ∧ Same F H ∧ FAt K C F H p st W ∧ (∃ n, n ≤ 900000 ∧ FOk n st) ∧ (st.row.length : Int) = st.places ∧ FSet K C F H p W (putOutF st) Q
def spLook (K : PySem.W.Frag) (C : Addr) : Sp := fun vs H Q _ => ∃ (F : Hp) (p : Addr) (st : FSt) (W : List Addr) (b : Int), vs = [.ref p, .int b] ∧ Same F H ∧ FAt K C F H p st W ∧ (∃ n, n ≤ 900000 ∧ FOk n st) ∧ b ∈ st.row ∧ FSet K C F H p W (lookF st b) Q
def spLeave (K : PySem.W.Frag) (C : Addr) : Sp := fun vs H Q _ => ∃ (F : Hp) (p : Addr) (st : FSt) (W : List Addr) (b : Int), vs = [.ref p, .int b] ∧ Same F H ∧ FAt K C F H p st W ∧ FSet K C F H p W (leaveF st b) Q
def spComeF (K : PySem.W.Frag) (C : Addr) : Sp := fun vs H Q _ => ∃ (F : Hp) (p : Addr) (st : FSt) (W : List Addr) (v : V) (e : Ev), vs = [.ref p, v] ∧ Same F H ∧ FAt K C F H p st W ∧ Dp K F v (evD e) ∧ (∃ n, n ≤ 900000 ∧ FOk n st) ∧ FSet K C F H p W (comeF st e) Q
def runF (st : FSt) (es : List Ev) : FSt := es.foldl comeF st
/-- misses of deeds, frames and a rule that are well -/
def spMisses (K : PySem.W.Frag) : Sp := fun vs H Q _ => ∃ (F : Hp) (v u : V) (ds : List Deed) (n : Int) (R : Rule), vs = [v, .int n, u] ∧ Same F H ∧ Dp K F v (.tuple (ds.map deedD)) ∧ ds.length ≤ 400 ∧ okAll st0 ds = true ∧ 1 ≤ n ∧ n ≤ 16 ∧ Dp K F u (ruleD R) ∧ ruleOk R ∧
  ∀ w F' H', Gr [] F H F' H' → Dp K F' w (.tuple [.int (runF (fst0 n R) (runAll ([], st0) ds).1).missed, .tuple ((sortI (runF (fst0 n R) (runAll ([], st0) ds).1).row).map .int)]) → Q w H'
/-! lists of ints -/
theorem flat_ints (l : List Int) : (l.map V.int).all flatV = true := by rw [List.all_map, List.all_eq_true]; intro _ _; rfl
theorem inV_ints (b : Int) (l : List Int) : inV (.int b) (l.map V.int) = decide (b ∈ l) := by
  unfold inV
  rw [List.any_map]
  by_cases h : b ∈ l
  · rw [decide_eq_true h, List.any_eq_true]
    exact ⟨b, h, by show (b == b) = true; simp⟩
  · rw [decide_eq_false h, List.any_eq_false]
    intro x hx z
    have : (x == b) = true := z
    exact h (by rw [← eq_of_beq this]; exact hx)
theorem rem_at : ∀ {l : List Int} {b : Int}, b ∈ l → ∃ j, l[j]? = some b ∧ (∀ m : Nat, m < j → l[m]? ≠ some b) ∧ l.eraseIdx j = l.erase b
  | [], _, h => nomatch h
  | a :: l, b, h => by
    by_cases e : a = b
    · subst e
      exact ⟨0, rfl, fun m hm => absurd hm (Nat.not_lt_zero _), by simp⟩
    · have h' : b ∈ l := (List.mem_cons.mp h).resolve_left fun z => e z.symm
      obtain ⟨j, h1, h2, h3⟩ := rem_at h'
      refine ⟨j + 1, by simpa using h1, fun m hm => ?_, ?_⟩
      · cases m with
        | zero => simpa using e
        | succ m => simpa using h2 m (by omega)
      · rw [List.eraseIdx_cons_succ, h3, List.erase_cons, if_neg (by simpa using e)]
/-- l.remove(b), ints -/
theorem remO {r : Addr} {l : List Int} {b : Int} {H : Hp} {Q : VK} (h : H r = some (.lst (l.map V.int))) (hb : b ∈ l) (q : Q .non (upd H r (.lst ((l.erase b).map V.int)))) : rRemI (.ref r) [.int b] H Q := by
  obtain ⟨j, h1, h2, h3⟩ := rem_at hb
  exact ⟨r, l, b, j, rfl, rfl, h, h1, h2, by rw [h3]; exact q⟩
/-- l.pop(0) -/
theorem pop0 {r : Addr} {l : List Int} {b : Int} {H : Hp} {Q : VK} (h : H r = some (.lst ((b :: l).map V.int))) (q : Q (.int b) (upd H r (.lst (l.map V.int)))) : rPopAt (.ref r) [.int 0] H Q :=
  ⟨r, _, 0, 0, .int b, rfl, rfl, h, by decide, by decide, (ixN_seq (S.ixN_nat (n := ((b :: l).map V.int).length) (j := 0) (by simp))).1, rfl, q⟩
theorem turnC_perm : ∀ (n : Nat) (row : List Int) (mk : AL Unit), (turnC n row mk).1.Perm row
  | 0, _, _ => .refl _
  | _ + 1, [], _ => .refl _
  | n + 1, b :: row, mk => by
    unfold turnC
    by_cases e : (getA mk b).isSome = true
    · rw [if_pos e]
      exact (turnC_perm n _ _).trans (List.perm_append_comm (l₁ := row) (l₂ := [b]))
    · rw [if_neg e]
theorem turnC_mk : ∀ (n : Nat) (row : List Int) (mk : AL Unit), (turnC n row mk).2.length ≤ mk.length
  | 0, _, _ => Nat.le_refl _
  | _ + 1, [], _ => Nat.le_refl _
  | n + 1, b :: row, mk => by
    unfold turnC
    by_cases e : (getA mk b).isSome = true
    · rw [if_pos e]
      have := turnC_mk n (row ++ [b]) (dropA mk b)
      have := getA_some_len e
      omega
    · rw [if_neg e]; exact Nat.le_refl _
theorem chosenF_mem {st : FSt} (h1 : 1 ≤ st.places) (h2 : (st.row.length : Int) = st.places) : chosenF st ∈ st.row := by
  have hm1 := Int.emod_nonneg (choiceF st) (show st.places ≠ 0 by omega)
  have hm2 := Int.emod_lt_of_pos (choiceF st) (show 0 < st.places by omega)
  have hl2 : (sortI st.row).length = st.row.length := (sortI_perm _).length_eq
  have hj : (choiceF st % st.places).toNat < (sortI st.row).length := by omega
  unfold chosenF
  rw [List.getElem?_eq_getElem hj]
  exact (sortI_perm _).subset (List.getElem_mem hj)
/-- st with the clock turned -/
def turnF (st : FSt) : FSt := if st.rule.isClock then { st with row := (turnC st.marked.length st.row st.marked).1, marked := (turnC st.marked.length st.row st.marked).2 } else st
theorem turnF_facts (st : FSt) : (turnF st).row.Perm st.row ∧ (turnF st).marked.length ≤ st.marked.length ∧ (turnF st).places = st.places ∧ (turnF st).rule = st.rule ∧ (turnF st).left = st.left ∧ (turnF st).missed = st.missed := by
  unfold turnF
  by_cases e : st.rule.isClock = true
  · rw [if_pos e]; exact ⟨turnC_perm .., turnC_mk .., rfl, rfl, rfl, rfl⟩
  · rw [if_neg e]; exact ⟨.refl _, Nat.le_refl _, rfl, rfl, rfl, rfl⟩
theorem putOut_turn (st : FSt) : putOutF st = { (if st.rule.isStr then { turnF st with row := (turnF st).row.drop 1 } else { turnF st with row := (turnF st).row.erase (chosenF (turnF st)) }) with left := (turnF st).left + 1 } := by
  unfold putOutF turnF
  by_cases z : st.rule.isStr = true
  · simp [z]
  · simp [z]
theorem putOut_facts {st : FSt} (h1 : 1 ≤ st.places) (h2 : (st.row.length : Int) = st.places) : (putOutF st).row.Sublist (turnF st).row ∧ (putOutF st).row.length + 1 = st.row.length ∧ (putOutF st).marked.length ≤ st.marked.length ∧ (putOutF st).places = st.places ∧ (putOutF st).rule = st.rule ∧ (putOutF st).missed = st.missed ∧ (putOutF st).left = st.left + 1 := by
  obtain ⟨f1, f2, f3, f4, f5, f6⟩ := turnF_facts st
  rw [putOut_turn]
  have hl := f1.length_eq
  by_cases z : st.rule.isStr = true
  · rw [if_pos z]
    refine ⟨List.drop_sublist _ _, ?_, f2, f3, f4, f6, by show (turnF st).left + 1 = _; rw [f5]⟩
    show ((turnF st).row.drop 1).length + 1 = _
    rw [List.length_drop]; omega
  · rw [if_neg z]
    have hm := chosenF_mem (st := turnF st) (by omega) (by omega)
    refine ⟨List.erase_sublist, ?_, f2, f3, f4, f6, by show (turnF st).left + 1 = _; rw [f5]⟩
    show ((turnF st).row.erase _).length + 1 = _
    rw [List.length_erase_of_mem hm]
    omega
theorem nodup_snoc {l : List Int} {b : Int} (h : l.Nodup) (n : b ∉ l) : (l ++ [b]).Nodup := by
  rw [List.nodup_append]
  refine ⟨h, by simp, ?_⟩
  intro x hx y hy z
  simp at hy
  subst hy; subst z
  exact n hx
theorem FOk.step {n : Nat} {st : FSt} (h : FOk n st) (e : Ev) : FOk (n + 1) (comeF st e) ∧ (comeF st e).places = st.places ∧ (comeF st e).rule = st.rule := by
  have hcome : ∀ b, FOk (n + 1) (comeF st (.look b)) ∧ (comeF st (.look b)).places = st.places ∧ (comeF st (.look b)).rule = st.rule := fun b => by
    show FOk (n + 1) (if b ∈ st.row then lookF st b else _) ∧ (if b ∈ st.row then lookF st b else _).places = st.places ∧ (if b ∈ st.row then lookF st b else _).rule = st.rule
    by_cases hb : b ∈ st.row
    · rw [if_pos hb]
      have hl : (st.row.erase b ++ [b]).length = st.row.length := by
        rw [List.length_append, List.length_erase_of_mem hb]
        have := List.length_pos_of_mem hb
        show st.row.length - 1 + 1 = _
        omega
      have hnd : (st.row.erase b ++ [b]).Nodup := nodup_snoc (h.nd.erase b) (by rw [h.nd.mem_erase_iff]; simp)
      have ml := h.ml
      have rl := h.rl
      have pl := putA_len st.marked b ()
      unfold lookF
      by_cases e1 : st.rule.isLongest = true
      · rw [if_pos e1]
        by_cases e2 : st.rule.isClock = true
        · rw [if_pos e2]
          exact ⟨⟨h.p1, h.p2, hnd, by show ((st.row.erase b ++ [b]).length : Int) ≤ st.places; rw [hl]; exact rl, by show (putA st.marked b ()).length ≤ n + 1; omega⟩, rfl, rfl⟩
        · rw [if_neg e2]
          exact ⟨⟨h.p1, h.p2, hnd, by show ((st.row.erase b ++ [b]).length : Int) ≤ st.places; rw [hl]; exact rl, by show st.marked.length ≤ n + 1; omega⟩, rfl, rfl⟩
      · rw [if_neg e1]
        by_cases e2 : st.rule.isClock = true
        · rw [if_pos e2]
          exact ⟨⟨h.p1, h.p2, h.nd, rl, by show (putA st.marked b ()).length ≤ n + 1; omega⟩, rfl, rfl⟩
        · rw [if_neg e2]
          exact ⟨⟨h.p1, h.p2, h.nd, rl, by omega⟩, rfl, rfl⟩
    · rw [if_neg hb]
      have ml := h.ml
      have rl := h.rl
      by_cases e3 : (st.row.length : Int) = st.places
      · rw [if_pos e3]
        obtain ⟨f1, f2, f3, f4, f5, f6, f7⟩ := putOut_facts h.p1 e3
        obtain ⟨t1, _⟩ := turnF_facts st
        have hnd : (putOutF st).row.Nodup := f1.nodup (t1.symm.nodup_iff.mp h.nd)
        have hnb : b ∉ (putOutF st).row := fun z => hb (t1.subset (f1.subset z))
        refine ⟨⟨by show 1 ≤ (putOutF st).places; rw [f4]; exact h.p1, by show (putOutF st).places ≤ 16; rw [f4]; exact h.p2, nodup_snoc hnd hnb, ?_, by show (putOutF st).marked.length ≤ n + 1; omega⟩, f4, f5⟩
        show (((putOutF st).row ++ [b]).length : Int) ≤ (putOutF st).places
        rw [List.length_append, f4]
        show (((putOutF st).row.length + 1 : Nat) : Int) ≤ _
        omega
      · rw [if_neg e3]
        refine ⟨⟨h.p1, h.p2, nodup_snoc h.nd hb, ?_, by show st.marked.length ≤ n + 1; omega⟩, rfl, rfl⟩
        show ((st.row ++ [b]).length : Int) ≤ st.places
        rw [List.length_append]
        show ((st.row.length + 1 : Nat) : Int) ≤ _
        omega
  cases e with
  | look b => exact hcome b
  | make b => exact hcome b
  | gone b =>
    have h1 := List.length_erase_le (a := b) (l := st.row)
    have h2 := List.length_filter_le (fun p : Int × Unit => decide (p.1 ≠ b)) st.marked
    have ml := h.ml
    have rl := h.rl
    exact ⟨⟨h.p1, h.p2, h.nd.erase b, by show ((st.row.erase b).length : Int) ≤ st.places; omega, by show (dropA st.marked b).length ≤ n + 1; unfold dropA; omega⟩, rfl, rfl⟩
theorem FOk.zero {n : Int} (h1 : 1 ≤ n) (h2 : n ≤ 16) (R : Rule) : FOk 0 (fst0 n R) := ⟨h1, h2, List.nodup_nil, by show (0 : Int) ≤ n; omega, Nat.le_refl _⟩
theorem runF_ok {n : Int} (h1 : 1 ≤ n) (h2 : n ≤ 16) (R : Rule) (es : List Ev) : ∀ i, i ≤ es.length → FOk i (runF (fst0 n R) (es.take i))
  | 0, _ => FOk.zero h1 h2 R
  | i + 1, hi => by
    have hd : es[i]? = some es[i] := by simp
    have hr : runF (fst0 n R) (es.take (i + 1)) = comeF (runF (fst0 n R) (es.take i)) es[i] := take_succ_fold hd
    rw [hr]
    exact ((runF_ok h1 h2 R es i (by omega)).step _).1
end Fr
namespace DL
open PySem PySem.Spec PyProof.Rows L2
/-- an object that came in the stretch becomes frozen -/
theorem Gr.frz {W : List Addr} {F H F1 H1 : Hp} (g : Gr W F H F1 H1) {q : Addr} {o : HO} (hq : H q = none) (fq : F1 q = none) (h : H1 q = some o) : Gr W F H (upd F1 q o) H1 := by
  refine ⟨fun b u e => ?_, g.hs, fun b u e => ?_, fun b e1 e2 => ?_, g.live⟩
  · have := g.fs b u e
    rw [upd_ne (ne_of_none this fq)]; exact this
  · by_cases hb : b = q
    · subst hb; rw [upd_same] at e; rw [h]; exact e
    · rw [upd_ne hb] at e; exact g.sub b u e
  · by_cases hb : b = q
    · subst hb; exact absurd hq e2
    · rw [upd_ne hb]; exact g.own b e1 e2
end DL
namespace S
open PySem PySem.Spec PyProof.Rows L2 DL
theorem ixTO {K : PySem.W.Frag} {H : Hp} {Q : VK} {a : Addr} {xs : List V} {w : V} {i : Int} (h : H a = some (.tup xs)) (e : atI xs i = some w) (q : Q w H) : rIx K (.ref a) (.int i) H Q := .inr (.inl ⟨a, xs, i, w, rfl, rfl, .inl (.inl h), e, q⟩)
end S

/-! the law's own helpers: the deck, draws, sameness -/
namespace S
open PySem PySem.Spec PyProof.Rows L2 DL
/-- a statement both of whose ways meet again -/
theorem seqJ {s1 s3 : TS} {D : Ends} {σ : L2.St} {H : Hp} (P : L2.St → Hp → Prop) (hr : ∀ σ' H', P σ' H' → s3 D σ' H') (h : (∀ σ' H', P σ' H' → s3 D σ' H') → s1 { D with nx := s3 D } σ H) : tSeq s1 s3 D σ H := h hr
/-- an if whose other way is come to by several roads -/
theorem ifJ {t : TT} {s1 s2 : TS} {D : Ends} {σ : L2.St} {H : Hp} (P : Hp → Prop) (hs2 : ∀ H', P H' → s2 D σ H') (h : (∀ H', P H' → s2 D σ H') → t σ H fun b H1 => if b = true then s1 D σ H1 else s2 D σ H1) : tIfS t s1 s2 D σ H := h hs2
theorem int1G {a : Int} {P : V → Prop} (q : P (.int a)) : (∃ i, [V.int a] = [V.int i] ∧ P (.int i)) ∨ ∃ k, [V.int a] = [V.bl k] ∧ P (.int (if k then 1 else 0)) := .inl ⟨a, rfl, q⟩
theorem lenSL {K : PySem.W.Frag} {H : Hp} {Q : VK} {a : Addr} {xs : List V} (h : SqL K H a xs) (q : Q (.int xs.length) H) : rLenU K [.ref a] H Q := .inl ⟨a, xs, rfl, .inl h, q⟩
theorem lenST {K : PySem.W.Frag} {H : Hp} {Q : VK} {a : Addr} {xs : List V} (h : SqT K H a xs) (q : Q (.int xs.length) H) : rLenU K [.ref a] H Q := .inl ⟨a, xs, rfl, .inr h, q⟩
theorem ixSL {K : PySem.W.Frag} {H : Hp} {Q : VK} {a : Addr} {xs : List V} {w : V} {i : Int} (h : SqL K H a xs) (e : atI xs i = some w) (q : Q w H) : rIx K (.ref a) (.int i) H Q := .inl ⟨a, xs, i, w, rfl, rfl, h, e, q⟩
theorem ixST {K : PySem.W.Frag} {H : Hp} {Q : VK} {a : Addr} {xs : List V} {w : V} {i : Int} (h : SqT K H a xs) (e : atI xs i = some w) (q : Q w H) : rIx K (.ref a) (.int i) H Q := .inr (.inl ⟨a, xs, i, w, rfl, rfl, h, e, q⟩)
end S
namespace DL
open PySem PySem.Spec PyProof.Rows L2
theorem rd_gr {W : List Addr} {F H F' H' : Hp} (g : Gr W F H F' H') {a : Addr} (n : a ∉ W) {u : HO} (h : Rd H a u) : Rd H' a u := by
  rcases h with h | ⟨o, h⟩
  · exact .inl (g.at n h)
  · exact .inr ⟨o, g.at n h⟩
theorem sql_gr {K : PySem.W.Frag} {W : List Addr} {F H F' H' : Hp} (g : Gr W F H F' H') {a : Addr} (n : a ∉ W) {xs : List V} (h : SqL K H a xs) : SqL K H' a xs := h.imp (rd_gr g n) id
theorem sqt_gr {K : PySem.W.Frag} {W : List Addr} {F H F' H' : Hp} (g : Gr W F H F' H') {a : Addr} (n : a ∉ W) {xs : List V} (h : SqT K H a xs) : SqT K H' a xs := h.imp (rd_gr g n) id
end DL
namespace Lw
open PySem PySem.Spec PyProof.Rows L2 DL Bo Fr
/-- the deck at q, behind at most m draws -/
def DkAt (H : Hp) (q : Addr) (m : Nat) : Prop := ∃ a b c : Int, H q = some (.lst [.int a, .int b, .int c]) ∧ 0 ≤ a ∧ a < 2 ^ 1100 ∧ 0 ≤ b ∧ b < 2 ^ 120 ∧ 0 ≤ c ∧ c ≤ m
theorem DkAt.more {H : Hp} {q : Addr} {m n : Nat} (h : DkAt H q m) (hn : m ≤ n) : DkAt H q n := by
  obtain ⟨a, b, c, h1, h2, h3, h4, h5, h6, h7⟩ := h
  exact ⟨a, b, c, h1, h2, h3, h4, h5, h6, by omega⟩
theorem DkAt.gr {W : List Addr} {F H F' H' : Hp} {q : Addr} {m : Nat} (h : DkAt H q m) (g : Gr W F H F' H') (n : q ∉ W) : DkAt H' q m := by
  obtain ⟨a, b, c, h1, h2⟩ := h
  exact ⟨a, b, c, g.at n h1, h2⟩
theorem DkAt.live {H : Hp} {q : Addr} {m : Nat} (h : DkAt H q m) : H q ≠ none := by
  obtain ⟨a, b, c, h1, _⟩ := h
  rw [h1]; exact fun z => nomatch z
theorem DkAt.poke {H : Hp} {q r : Addr} {m : Nat} {o : HO} (h : DkAt H q m) (n : q ≠ r) : DkAt (upd H r o) q m := by
  obtain ⟨a, b, c, h1, h2⟩ := h
  exact ⟨a, b, c, (upd_ne n).trans h1, h2⟩
def spDeck (K : PySem.W.Frag) : Sp := fun vs H Q _ => ∃ (F : Hp) (a : Addr) (ns : List Int) (k : Int), vs = [.ref a, .int k] ∧ Same F H ∧ SqL K H a (ns.map V.int) ∧ ns.length ≤ 63 ∧ 0 ≤ k ∧ k < 64 ∧
  ∀ q H', Gr [] F H F H' → H q = none → F q = none → DkAt H' q 0 → Q (.ref q) H'
def spDraw : Sp := fun vs H Q _ => ∃ (F : Hp) (q : Addr) (many : Int) (m : Nat), vs = [.ref q, .int many] ∧ Same F H ∧ F q = none ∧ DkAt H q m ∧ m ≤ 1000000 ∧ 1 ≤ many ∧ many < 2 ^ 60 ∧
  ∀ x H', Gr [q] F H F H' → DkAt H' q (m + 1) → 0 ≤ x → x < many → Q (.int x) H'
def spPick (K : PySem.W.Frag) : Sp := fun vs H Q _ => ∃ (F : Hp) (q a : Addr) (xs : List V) (m : Nat), vs = [.ref q, .ref a] ∧ Same F H ∧ F q = none ∧ DkAt H q m ∧ m ≤ 1000000 ∧ (SqL K H a xs ∨ SqT K H a xs) ∧ (∀ H', Gr [q] F H F H' → SqL K H' a xs ∨ SqT K H' a xs) ∧ xs ≠ [] ∧ xs.length ≤ 1000000 ∧
  ∀ (i : Nat) x H', xs[i]? = some x → Gr [q] F H F H' → DkAt H' q (m + 1) → Q x H'
theorem pick_own {K : PySem.W.Frag} {F H : Hp} {q a : Addr} {xs : List V} (n : a ≠ q) (h : SqL K H a xs) : (SqL K H a xs ∨ SqT K H a xs) ∧ (∀ H', Gr [q] F H F H' → SqL K H' a xs ∨ SqT K H' a xs) := ⟨.inl h, fun _ g => .inl (sql_gr g (by simp [n]) h)⟩
theorem pick_dat {K : PySem.W.Frag} {F H : Hp} {q a : Addr} {xs : List V} (s : Same F H) (h : SqL K F a xs) : (SqL K H a xs ∨ SqT K H a xs) ∧ (∀ H', Gr [q] F H F H' → SqL K H' a xs ∨ SqT K H' a xs) := ⟨.inl (same_lst s h), fun _ g => .inl (same_lst g.sub h)⟩
theorem mod_lt {x M : Int} {n : Nat} (h : 0 < M) (h2 : M < 2 ^ n) : (x % M).natAbs < 2 ^ n ∧ 0 ≤ x % M ∧ x % M < M := by
  have h3 := Int.emod_nonneg x (show M ≠ 0 by omega)
  have h4 := Int.emod_lt_of_pos x h
  refine ⟨?_, h3, h4⟩
  have h5 : (((x % M).natAbs : Nat) : Int) < ((2 ^ n : Nat) : Int) := by
    rw [Int.natCast_pow]
    show ((x % M).natAbs : Int) < 2 ^ n
    omega
  exact Int.ofNat_lt.mp h5
theorem abs_lt {x : Int} {n : Nat} (h0 : 0 ≤ x) (h : x < 2 ^ n) : x.natAbs < 2 ^ n := by
  have h5 : ((x.natAbs : Nat) : Int) < ((2 ^ n : Nat) : Int) := by
    rw [Int.natCast_pow]
    show (x.natAbs : Int) < 2 ^ n
    omega
  exact Int.ofNat_lt.mp h5
theorem ten_pow (k : Nat) (h : k ≤ 100) : CPowW 10 (k : Int) := powW_of (a := 4) (b := 100) (by decide) (by decide) (by omega) (by omega) (by decide)
theorem walk_zipT {K : PySem.W.Frag} {a b : Addr} {xs ys : List V} {n : Nat} (hn : n = min xs.length ys.length) : Walk (RZ.ItzT K a b) n (fun H => SqT K H a xs ∧ SqT K H b ys) (YPair (fun i => xs[i]?) (fun i => ys[i]?)) := by
  subst hn
  refine ⟨fun i _ hi q => ?_, fun _ q => ⟨xs, ys, q.1, q.2, by omega⟩, fun i H v H' _ q y => ?_⟩
  · have h1 : i < xs.length := by omega
    have h2 : i < ys.length := by omega
    exact ⟨xs, ys, xs[i], ys[i], q.1, q.2, by simp [h1], by simp [h2]⟩
  · obtain ⟨T, x, z, h1, h2, h3, h4, h5⟩ := y
    exact ⟨T, x, z, h1, h2, h3, h4 xs q.1, h5 ys q.2⟩
/-- isinstance(x, (tuple, list)) -/
theorem isi_seq {K : PySem.W.Frag} {F H : Hp} {v : V} {d : PyData} {tp : Addr} {Q : VK} (h : Dp K F v d) (s : Same F H) (ht : H tp = some (.tup [.ty "tuple", .ty "list"])) (q : Q (.bl (isTup d || isLst d)) H) : rIsiT K [v, .ref tp] H Q := by
  refine ⟨v, tp, _, _, [.type "tuple", .type "list"], isTup d || isLst d, rfl, ht, .cons (.ty _) (.cons (.ty _) .nil), tyx_of h s, ?_, q⟩
  have k1 : ∀ a : String, kitB a "tuple" = some (a == "tuple") → kitB a "list" = some (a == "list") → PySem.W.kitAny K (.type a) [.type "tuple", .type "list"] = some (a == "tuple" || a == "list") := by
    intro a h1 h2
    unfold PySem.W.kitAny
    rw [kit_ty h1]
    cases e1 : (a == "tuple")
    · dsimp only
      unfold PySem.W.kitAny
      rw [kit_ty h2]
      cases e2 : (a == "list")
      · rfl
      · rfl
    · rfl
  cases h <;> (refine k1 _ ?_ ?_ <;> (dsimp only [tyN]; decide +kernel))
mutual
def wid : PyData → Bool
  | .list ds => decide (ds.length ≤ 1000000) && widAll ds
  | .tuple ds => decide (ds.length ≤ 1000000) && widAll ds
  | _ => true
def widAll : List PyData → Bool
  | [] => true
  | d :: ds => wid d && widAll ds
end
theorem wid_mem : ∀ {ds : List PyData} {d : PyData}, d ∈ ds → widAll ds = true → wid d = true
  | [], _, h, _ => nomatch h
  | e :: ds, d, h, w => by
    unfold widAll at w
    obtain ⟨w1, w2⟩ := Bool.and_eq_true_iff.mp w
    rcases List.mem_cons.mp h with rfl | h
    · exact w1
    · exact wid_mem h w2
theorem wid_ints (l : List Int) : widAll (l.map PyData.int) = true := by
  induction l with
  | nil => unfold widAll; rfl
  | cons a l ih => rw [List.map_cons]; unfold widAll; rw [ih]; simp [wid]
def spSame (K : PySem.W.Frag) (n : Nat) : Sp := fun vs H Q _ => ∃ (F : Hp) (v u : V) (d : PyData), vs = [v, u] ∧ Same F H ∧ Dp K F v d ∧ Dp K F u d ∧ d.depth < n ∧ wid d = true ∧ ∀ F' H', Gr [] F H F' H' → Q (.bl true) H'
theorem new_tupS {F H : Hp} {xs : List V} {G : Addr → Prop} (s : Same F H) (k : ∀ p, Gr [] F H F (upd H p (.tup xs)) → upd H p (.tup xs) p = some (.tup xs) → G p) (hl : xs.length ≤ sizeLine := by decide) : xs.length ≤ sizeLine ∧ ∀ p, H p = none → G p := ⟨hl, fun p hp => k p (Gr.newOwn s hp) upd_same⟩
theorem depth_mem : ∀ {ds : List PyData} {d : PyData}, d ∈ ds → d.depth ≤ PyData.depthAll ds
  | [], _, h => nomatch h
  | e :: ds, d, h => by
    unfold PyData.depthAll
    rcases List.mem_cons.mp h with rfl | h
    · omega
    · have := depth_mem h
      omega
end Lw
namespace S
open PySem PySem.Spec PyProof.Rows L2 DL
theorem neBB {K : PySem.W.Frag} {H : Hp} {Q : VK} {a b : Bool} (q : Q (.bl (!decide (a = b))) H) : rNeU K (.bl a) (.bl b) H Q := .inl ⟨rfl, by
  have e : decide ((V.bl a) = V.bl b) = decide (a = b) := by
    by_cases h : a = b
    · subst h; simp
    · rw [decide_eq_false h, decide_eq_false (fun z => h (V.bl.inj z))]
  rw [e]; exact q⟩
theorem eqSelf {K : PySem.W.Frag} {H : Hp} {Q : VK} {v : V} (hs : scal v v = true) (q : Q (.bl true) H) : rEqU K v v H Q := .inl ⟨hs, by rw [decide_eq_true rfl]; exact q⟩
theorem iZipT {K : PySem.W.Frag} {ta : TA} {σ : L2.St} {H : Hp} {R : It → Hp → Prop} (q : ta σ H fun vs H1 => ∃ a b xs ys, vs = [.ref a, .ref b] ∧ ((SqL K H1 a xs ∧ SqL K H1 b ys ∧ R (Itz K a b) H1) ∨ (SqT K H1 a xs ∧ SqT K H1 b ys ∧ R (RZ.ItzT K a b) H1))) : RZ.iZipA K ta σ H R := q
end S

/-! the deeds that the law draws -/
namespace Lw
open PySem PySem.Spec PyProof.Rows L2 DL Bo Fr
structure GInv (there met : List Int) (st : BSt) : Prop where
  nt : there.Nodup
  ne : there ≠ []
  rg : ∀ t ∈ there, 1 ≤ t ∧ t ≤ 6
  th : ∀ t, t ∈ there ↔ (getA st.sheets t).isSome = true
  mt : ∀ t, t ∈ met ↔ (getA st.met t).isSome = true
theorem isFrom_of {i lo hi : Int} (h1 : lo ≤ i) (h2 : i ≤ hi) : isFrom (.int i) lo hi = true := by
  show (decide (lo ≤ i) && decide (i ≤ hi)) = true
  rw [decide_eq_true h1, decide_eq_true h2] <;> rfl
theorem GInv.there {there met : List Int} {st : BSt} (h : GInv there met st) {t : Int} (ht : t ∈ there) : thereD st (.int t) = true := by
  obtain ⟨h1, h2⟩ := h.rg t ht
  show (isFrom (.int t) 1 6 && (getA st.sheets t).isSome) = true
  rw [isFrom_of h1 h2, (h.th t).mp ht] <;> rfl
theorem ok_load {st : BSt} {t s : Int} (h : thereD st (.int t) = true) (h1 : 0 ≤ s) (h2 : s ≤ 63) : okD st (.load t s) = true := by
  show (thereD st (.int t) && (if ("load" : Str) = "fork" then comeD st (.int s) else (decide (("load" : Str) = "load") || decide (("load" : Str) = "store")) && isFrom (.int s) 0 63)) = true
  rw [h, if_neg (by decide +kernel), isFrom_of h1 h2, show decide (("load" : Str) = "load") = true by decide +kernel] <;> rfl
theorem ok_store {st : BSt} {t s : Int} (h : thereD st (.int t) = true) (h1 : 0 ≤ s) (h2 : s ≤ 63) : okD st (.store t s) = true := by
  show (thereD st (.int t) && (if ("store" : Str) = "fork" then comeD st (.int s) else (decide (("store" : Str) = "load") || decide (("store" : Str) = "store")) && isFrom (.int s) 0 63)) = true
  rw [h, if_neg (by decide +kernel), isFrom_of h1 h2, show decide (("store" : Str) = "load") = false by decide +kernel, show decide (("store" : Str) = "store") = true by decide +kernel] <;> rfl
theorem ok_fork {st : BSt} {t c : Int} (h : thereD st (.int t) = true) (h1 : 1 ≤ c) (h2 : c ≤ 6) (h3 : (getA st.met c).isSome = false) : okD st (.fork t c) = true := by
  show (thereD st (.int t) && (if ("fork" : Str) = "fork" then comeD st (.int c) else (decide (("fork" : Str) = "load") || decide (("fork" : Str) = "store")) && isFrom (.int c) 0 63)) = true
  rw [h, if_pos rfl, Bool.true_and]
  show (isFrom (.int c) 1 6 && !(getA st.met c).isSome) = true
  rw [isFrom_of h1 h2, h3] <;> rfl
theorem ok_fin {st : BSt} {t : Int} (h : thereD st (.int t) = true) : okD st (.fin t) = true := by
  show (thereD st (.int t) && decide (("end" : Str) = "end")) = true
  rw [h, decide_eq_true rfl] <;> rfl
theorem isSome_putA {α : Type} {l : AL α} {k j : Int} {a : α} : (getA (putA l k a) j).isSome = true ↔ j = k ∨ (getA l j).isSome = true := by
  rw [getA_putA]
  by_cases e : j = k <;> simp [e]
theorem GInv.store {there met : List Int} {st : BSt} (h : GInv there met st) {t s : Int} (ht : t ∈ there) : GInv there met (doneE st (.store t s)).2 := by
  show GInv there met (storeE st t s).2
  have hw : ∀ sh : AL Int, GInv there met (withBody { st with shares := sh } t s) := fun sh => by
    refine ⟨h.nt, h.ne, h.rg, fun t' => ?_, h.mt⟩
    show _ ↔ (getA (putA st.sheets t _) t').isSome = true
    rw [isSome_putA, h.th]
    constructor
    · exact .inr
    · rintro (rfl | h2)
      · exact (h.th _).mp ht
      · exact h2
  unfold storeE
  cases q : bodyOf st t s with
  | none => exact hw st.shares
  | some b =>
    dsimp only
    by_cases e : 1 < cnt st b
    · rw [if_pos e]; exact hw _
    · rw [if_neg e]; exact h
theorem GInv.fork {there met : List Int} {st : BSt} (h : GInv there met st) {t c : Int} (h1 : 1 ≤ c) (h2 : c ≤ 6) (hc : c ∉ met) (ht : c ∉ there) : GInv (there ++ [c]) (met ++ [c]) (doneE st (.fork t c)).2 := by
  refine ⟨nodup_snoc h.nt ht, by simp, fun t' h' => ?_, fun t' => ?_, fun t' => ?_⟩
  · rcases List.mem_append.mp h' with h' | h'
    · exact h.rg t' h'
    · rw [List.mem_singleton.mp h']; exact ⟨h1, h2⟩
  · show _ ↔ (getA (putA st.sheets c _) t').isSome = true
    rw [isSome_putA, List.mem_append, List.mem_singleton, h.th]
    exact or_comm
  · show _ ↔ (getA (putA st.met c _) t').isSome = true
    rw [isSome_putA, List.mem_append, List.mem_singleton, h.mt]
    exact or_comm
theorem GInv.fin {there met : List Int} {st : BSt} (h : GInv there met st) {t : Int} (ht : t ∈ there) (hl : 1 < there.length) : GInv (there.erase t) met (doneE st (.fin t)).2 := by
  refine ⟨h.nt.erase t, fun z => ?_, fun t' h' => h.rg t' (List.mem_of_mem_erase h'), fun t' => ?_, h.mt⟩
  · have := List.length_erase_of_mem ht
    rw [z] at this
    simp at this
    omega
  · show _ ↔ (getA (dropA st.sheets t) t').isSome = true
    rw [h.nt.mem_erase_iff, getA_dropA, h.th]
    by_cases e : t' = t <;> simp [e]
theorem okAll_snoc : ∀ {ds : List Deed} {st : BSt} {es : List Ev} {d : Deed}, okAll st ds = true → okD (runAll (es, st) ds).2 d = true → okAll st (ds ++ [d]) = true
  | [], st, es, d, _, h => by
    show (okD st d && okAll (doneE st d).2 []) = true
    rw [show okD st d = true from h] <;> rfl
  | x :: ds, st, es, d, h1, h2 => by
    obtain ⟨a, b⟩ := Bool.and_eq_true_iff.mp h1
    show (okD st x && okAll (doneE st x).2 (ds ++ [d])) = true
    rw [a, Bool.true_and]
    exact okAll_snoc (es := es ++ (doneE st x).1) b h2
theorem runAll_snoc (z : List Ev × BSt) (ds : List Deed) (d : Deed) : runAll z (ds ++ [d]) = runStep (runAll z ds) d := by
  unfold runAll; rw [List.foldl_append]; rfl
/-- the sheets that the deeds name -/
def shIn (sh : List Int) : Deed → Prop
  | .load _ s => s ∈ sh
  | .store _ s => s ∈ sh
  | _ => True
theorem keys_putA_sub {α : Type} {l : AL α} {k : Int} {a : α} {sh : List Int} (h : ∀ x ∈ keysA l, x ∈ sh) (hk : k ∈ sh) : ∀ x ∈ keysA (putA l k a), x ∈ sh := by
  intro x hx
  rw [keys_putA] at hx
  by_cases e : k ∈ keysA l
  · rw [if_pos e] at hx; exact h x hx
  · rw [if_neg e] at hx
    rcases List.mem_append.mp hx with hx | hx
    · exact h x hx
    · rw [List.mem_singleton.mp hx]; exact hk
theorem rows_in {sh : List Int} {st : BSt} (h : ∀ p ∈ st.sheets, ∀ k ∈ keysA p.2, k ∈ sh) {d : Deed} (hd : shIn sh d) : ∀ p ∈ (doneE st d).2.sheets, ∀ k ∈ keysA p.2, k ∈ sh := by
  have hrow : ∀ t, ∀ k ∈ keysA ((getA st.sheets t).getD []), k ∈ sh := fun t k hk => by
    cases q : getA st.sheets t with
    | none => rw [q] at hk; cases hk
    | some row => rw [q] at hk; exact h _ (getA_mem q) k hk
  cases d with
  | load t s => exact h
  | store t s =>
    have hw : ∀ shs : AL Int, ∀ p ∈ (withBody { st with shares := shs } t s).sheets, ∀ k ∈ keysA p.2, k ∈ sh := fun shs p hp k hk => by
      rcases mem_putA hp with hp | rfl
      · exact h p hp k hk
      · exact keys_putA_sub (hrow t) hd k hk
    show ∀ p ∈ (storeE st t s).2.sheets, _
    unfold storeE
    cases q : bodyOf st t s with
    | none => exact hw st.shares
    | some b =>
      dsimp only
      by_cases e : 1 < cnt st b
      · rw [if_pos e]; exact hw _
      · rw [if_neg e]; exact h
  | fork t c =>
    intro p hp k hk
    rcases mem_putA hp with hp | rfl
    · exact h p hp k hk
    · exact hrow t k hk
  | fin t =>
    intro p hp k hk
    exact h p (List.mem_filter.mp hp).1 k hk
theorem run_rows {sh : List Int} : ∀ {ds : List Deed} {z : List Ev × BSt}, (∀ p ∈ z.2.sheets, ∀ k ∈ keysA p.2, k ∈ sh) → (∀ d ∈ ds, shIn sh d) → ∀ p ∈ (runAll z ds).2.sheets, ∀ k ∈ keysA p.2, k ∈ sh
  | [], z, h, _ => h
  | d :: ds, z, h, hd => run_rows (ds := ds) (z := runStep z d) (rows_in h (hd d List.mem_cons_self)) fun e he => hd e (List.mem_cons_of_mem _ he)
theorem len_of_sub : ∀ {l m : List Int}, l.Nodup → (∀ x ∈ l, x ∈ m) → l.length ≤ m.length
  | [], m, _, _ => Nat.zero_le _
  | a :: l, m, nd, h => by
    obtain ⟨n1, n2⟩ := List.nodup_cons.mp nd
    have ha := h a List.mem_cons_self
    have := len_of_sub (l := l) (m := m.erase a) n2 fun x hx => (List.mem_erase_of_ne fun z => n1 (by rw [← z]; exact hx)).mpr (h x (List.mem_cons_of_mem _ hx))
    rw [List.length_erase_of_mem ha] at this
    have := List.length_pos_of_mem ha
    rw [List.length_cons]
    omega
/-- the law's deeds -/
def spLawDeeds (K : PySem.W.Frag) : Sp := fun vs H Q _ => ∃ (F : Hp) (q a : Addr) (many : Int) (sh : List Int) (m : Nat), vs = [.ref q, .int many, .ref a] ∧ Same F H ∧ F q = none ∧ DkAt H q m ∧ m ≤ 10000 ∧ 0 ≤ many ∧ many ≤ 100 ∧ SqL K F a (sh.map V.int) ∧ sh ≠ [] ∧ sh.length ≤ 50 ∧ (∀ s ∈ sh, 0 ≤ s ∧ s ≤ 63) ∧
  ∀ ds v F' H', Gr [q] F H F' H' → DkAt H' q (m + 4 * many.toNat) → ds.length = many.toNat → okAll st0 ds = true → (∀ d ∈ ds, shIn sh d) → (∃ t, (getA (runAll ([], st0) ds).2.sheets t).isSome = true) → Dp K F' v (.tuple (ds.map deedD)) → Q v H'
end Lw
namespace S
open PySem PySem.Spec PyProof.Rows L2 DL
theorem iRng1 {ta : TA} {σ : L2.St} {H : Hp} {R : It → Hp → Prop} (q : ta σ H fun vs H1 => ∃ j : Int, vs = [.int j] ∧ -(2 ^ 62) ≤ j ∧ j < 2 ^ 62 ∧ R (Itr 0 j.toNat) H1) : L2.iRng1 ta σ H R := q
theorem iRng2 {ta : TA} {σ : L2.St} {H : Hp} {R : It → Hp → Prop} (q : ta σ H fun vs H1 => ∃ i j : Int, vs = [.int i, .int j] ∧ (-(2 ^ 62) ≤ i ∧ i < 2 ^ 62 ∧ -(2 ^ 62) ≤ j ∧ j < 2 ^ 62) ∧ R (Itr i (j - i).toNat) H1) : L2.iRng2 ta σ H R := q
end S
namespace Lw
open PySem PySem.Spec PyProof.Rows L2 DL Bo Fr
theorem ints_shaped (l : List Int) : SeqAt.shaped (.list (l.map PyData.int)) = true := PySem.W.ke_shaped_ints l
theorem eqv_nil (l : List PyData) : PyData.eqv (.list l) (.list []) = l.isEmpty := by
  cases l <;> simp [PyData.eqv, PyData.eqvAll]
end Lw
namespace Lw
open PySem PySem.Spec PyProof.Rows L2 DL Bo Fr
structure DCore (K : PySem.W.Frag) (F H : Hp) (q tA mA rA : Addr) (sh : List Int) (m i : Nat) (F' H' : Hp) (ds : List Deed) (there met : List Int) (xs : List V) : Prop where
  g : Gr [q] F H F' H'
  dk : DkAt H' q (m + 4 * i)
  dl : ds.length = i
  ok : okAll st0 ds = true
  si : ∀ d ∈ ds, shIn sh d
  gi : GInv there met (runAll ([], st0) ds).2
  ht : H' tA = some (.lst (there.map V.int))
  hm : H' mA = some (.lst (met.map V.int))
  hr : H' rA = some (.lst xs)
  hx : DpAll K F' xs (ds.map deedD)
  ft : F' tA = none
  fm : F' mA = none
  fr : F' rA = none
  lt : there.length ≤ i + 1
  lm : met.length ≤ i + 1
theorem DCore.snoc {K : PySem.W.Frag} {F H : Hp} {q tA mA rA : Addr} {sh : List Int} {m i : Nat} {F' H' : Hp} {ds : List Deed} {there met : List Int} {xs : List V} (c : DCore K F H q tA mA rA sh m i F' H' ds there met xs)
    {F9 H9 : Hp} {d : Deed} {there' met' : List Int} {v : V} (g : Gr [q] F H F9 H9) (fs : Same F' F9) (dk : DkAt H9 q (m + 4 * (i + 1))) (ok : okD (runAll ([], st0) ds).2 d = true) (si : shIn sh d) (gi : GInv there' met' (doneE (runAll ([], st0) ds).2 d).2)
    (ht : H9 tA = some (.lst (there'.map V.int))) (hm : H9 mA = some (.lst (met'.map V.int))) (hr : H9 rA = some (.lst (xs ++ [v]))) (hv : Dp K F9 v (deedD d)) (ft : F9 tA = none) (fm : F9 mA = none) (fr : F9 rA = none) (lt : there'.length ≤ i + 2) (lm : met'.length ≤ i + 2) :
    DCore K F H q tA mA rA sh m (i + 1) F9 H9 (ds ++ [d]) there' met' (xs ++ [v]) := by
  refine ⟨g, dk, by simp [c.dl], okAll_snoc (es := []) c.ok ok, fun e he => ?_, by rw [runAll_snoc]; exact gi, ht, hm, hr, ?_, ft, fm, fr, lt, lm⟩
  · rcases List.mem_append.mp he with he | he
    · exact c.si e he
    · rw [List.mem_singleton.mp he]; exact si
  · rw [List.map_append]
    exact dp_app (c.hx.to fs) (.cons hv .nil)
def DInv (K : PySem.W.Frag) (F H : Hp) (q a tA mA rA : Addr) (many : Int) (sh : List Int) (m i : Nat) (σ : L2.St) (H' : Hp) : Prop := ∃ F' ds there met xs o6 o7 o8 o9 o10 o11 o12, DCore K F H q tA mA rA sh m i F' H' ds there met xs ∧
  σ = [some (V.ref q), some (V.int many), some (V.ref a), some (V.ref tA), some (V.ref mA), some (V.ref rA), o6, o7, o8, o9, o10, o11, o12]
end Lw
namespace Lw
open PySem PySem.Spec PyProof.Rows L2 DL Bo Fr
def rowD (t : Int) (row : AL Int) (b : Int) : List PyData := ((sortI (keysA row)).filter fun s => decide (getA row s = some b)).map fun s => PyData.tuple [.int t, .int s]
def havingD (sh : AL (AL Int)) (b : Int) : List PyData := (sortI (keysA sh)).flatMap fun t => rowD t ((getA sh t).getD []) b
/-- the tables of the law, read -/
def spHaving (K : PySem.W.Frag) : Sp := fun vs H Q _ => ∃ (F : Hp) (a : Addr) (T : AL (Addr × AL Int)) (b : Int), vs = [.ref a, .int b] ∧ Same F H ∧ TabsAt H a T ∧ (keysA T).Nodup ∧ (∀ t ∈ T, (keysA t.2.2).Nodup) ∧ T.length < 64 ∧ (∀ t ∈ T, t.2.2.length < 64) ∧
  ∀ v F' H', Gr [] F H F' H' → Dp K F' v (.list (havingD (sheetsOf T) b)) → Q v H'
end Lw
namespace S
open PySem PySem.Spec PyProof.Rows L2 DL
theorem catL {K : PySem.W.Frag} {H : Hp} {Q : VK} {l b : Addr} {xs zs : List V} (h1 : H l = some (.lst xs)) (h2 : H b = some (.lst zs)) (hl : xs.length + zs.length ≤ sizeLine) (q : ∀ p, H p = none → Q (.ref p) (upd H p (.lst (xs ++ zs)))) : rAddU K (.ref l) (.ref b) H Q := .inr (.inr ⟨l, b, xs, zs, rfl, rfl, h1, h2, hl, q⟩)
end S
namespace Lw
open PySem PySem.Spec PyProof.Rows L2 DL Bo Fr
theorem getA_isSome_of_mem {α : Type} {l : AL α} {k : Int} (h : k ∈ keysA l) : ∃ a, getA l k = some a := by
  cases q : getA l k with
  | none => exact absurd h (getA_none.mp q)
  | some a => exact ⟨a, rfl⟩
theorem flatMap_snoc {α β : Type} (f : α → List β) (l : List α) (a : α) : (l ++ [a]).flatMap f = l.flatMap f ++ f a := by simp [List.flatMap_append]
theorem filter_snoc {α : Type} (p : α → Bool) (l : List α) (a : α) : (l ++ [a]).filter p = if p a then l.filter p ++ [a] else l.filter p := by
  rw [List.filter_append]
  by_cases h : p a = true
  · rw [if_pos h]; simp [h]
  · rw [if_neg h]; simp [h]
theorem rowD_len (t : Int) (row : AL Int) (b : Int) : (rowD t row b).length ≤ row.length := by
  unfold rowD
  rw [List.length_map]
  refine Nat.le_trans (List.length_filter_le _ _) ?_
  rw [(sortI_perm _).length_eq]
  simp [keysA]
end Lw

/-! the law's own going through the deeds -/
namespace Lw
open PySem PySem.Spec PyProof.Rows L2 DL Bo Fr
theorem nodup_snoc2 {l : List Addr} {b : Addr} (h : l.Nodup) (n : b ∉ l) : (l ++ [b]).Nodup := by
  rw [List.nodup_append]
  refine ⟨h, by simp, ?_⟩
  intro x hx y hy z
  simp at hy
  subst hy; subst z
  exact n hx
structure TP (F H : Hp) (a : Addr) (T : AL (Addr × AL Int)) : Prop where
  tabs : TabsAt H a T
  nd : (a :: addrsOf T).Nodup
  off : ∀ x ∈ a :: addrsOf T, F x = none
section
variable {F H : Hp} {a : Addr} {T : AL (Addr × AL Int)}
theorem TP.step (h : TP F H a T) {F' H' : Hp} (k : ∀ x ∈ a :: addrsOf T, ∀ o, H x = some o → H' x = some o) (o : ∀ x ∈ a :: addrsOf T, F' x = none) : TP F' H' a T :=
  ⟨⟨k a (by simp) _ h.tabs.tab, fun t ht => k _ (by simp [addr_mem ht]) _ (h.tabs.rows t ht)⟩, h.nd, o⟩
theorem TP.live (h : TP F H a T) : ∀ x ∈ a :: addrsOf T, H x ≠ none := by
  intro x hx e
  rcases List.mem_cons.mp hx with rfl | hx
  · rw [h.tabs.tab] at e; cases e
  · obtain ⟨t, ht, rfl⟩ := List.mem_map.mp hx
    rw [h.tabs.rows t ht] at e; cases e
theorem TP.gr (h : TP F H a T) {F' H' : Hp} {W : List Addr} (g : Gr W F H F' H') (n : ∀ x ∈ a :: addrsOf T, x ∉ W) : TP F' H' a T :=
  h.step (fun x hx o e => g.at (n x hx) e) fun x hx => g.own x (h.off x hx) (h.live x hx)
theorem TP.gr0 (h : TP F H a T) {F' H' : Hp} (g : Gr [] F H F' H') : TP F' H' a T := h.gr g fun _ _ z => nomatch z
theorem TP.poke (h : TP F H a T) {q : Addr} {o : HO} (n : q ∉ a :: addrsOf T) : TP F (upd H q o) a T :=
  h.step (fun x hx u e => by rw [upd_ne fun z => n (by rw [← z]; exact hx)]; exact e) h.off
theorem TP.wRow (h : TP F H a T) (nk : (keysA T).Nodup) {t : Int} {d : Addr} {row : AL Int} (ht : getA T t = some (d, row)) (row' : AL Int) : TP F (upd H d (.dK (kM V.int row'))) a (setRow T t row') := by
  have hm := getA_mem ht
  have hd : d ∈ addrsOf T := addr_mem hm
  obtain ⟨n1, n2⟩ := List.nodup_cons.mp h.nd
  refine ⟨⟨?_, fun x hx => ?_⟩, by rw [setRow_addrs]; exact h.nd, by rw [setRow_addrs]; exact h.off⟩
  · rw [upd_ne fun z => n1 (by rw [z]; exact hd), setRow_kM]; exact h.tabs.tab
  · obtain ⟨y, hy, rfl⟩ := List.mem_map.mp hx
    by_cases e : y.1 = t
    · have e2 : getA T t = some y.2 := getA_of_mem nk (by rw [← e]; exact hy)
      rw [ht] at e2
      have e3 : y.2.1 = d := by rw [← Option.some.inj e2]
      rw [if_pos e]
      show upd H d _ y.2.1 = _
      rw [e3, upd_same]
    · rw [if_neg e]
      rw [upd_ne fun z => e (by rw [addr_inj n2 hy hm z])]
      exact h.tabs.rows y hy
theorem TP.wNew (h : TP F H a T) {q : Addr} {c : Int} {row : AL Int} (hq : H q = some (.dK (kM V.int row))) (nq : q ∉ a :: addrsOf T) (fq : F q = none) :
    TP F (upd H a (.dK (kM (fun x : Addr × AL Int => V.ref x.1) (T ++ [(c, (q, row))])))) a (T ++ [(c, (q, row))]) := by
  obtain ⟨n1, n2⟩ := List.nodup_cons.mp h.nd
  have ea : addrsOf (T ++ [(c, (q, row))]) = addrsOf T ++ [q] := by simp [addrsOf]
  simp only [List.mem_cons, not_or] at nq
  obtain ⟨q1, q2⟩ := nq
  refine ⟨⟨upd_same, fun x hx => ?_⟩, ?_, ?_⟩
  · rcases List.mem_append.mp hx with hx | hx
    · rw [upd_ne fun z => n1 (by rw [← z]; exact addr_mem hx)]; exact h.tabs.rows x hx
    · simp only [List.mem_singleton] at hx
      subst hx
      show upd H a _ q = _
      rw [upd_ne q1]; exact hq
  · rw [ea]
    refine List.nodup_cons.mpr ⟨by simp [n1, Ne.symm q1], nodup_snoc2 n2 q2⟩
  · intro x hx
    rw [ea] at hx
    simp only [List.mem_cons, List.mem_append, List.not_mem_nil, or_false] at hx
    rcases hx with h1 | h1 | h1
    · exact h.off x (by simp [h1])
    · exact h.off x (by simp [h1])
    · rw [h1]; exact fq
theorem TP.wDrop (h : TP F H a T) (t : Int) : TP F (upd H a (.dK (kM (fun x : Addr × AL Int => V.ref x.1) (dropA T t)))) a (dropA T t) := by
  obtain ⟨n1, n2⟩ := List.nodup_cons.mp h.nd
  have sub : ∀ x ∈ addrsOf (dropA T t), x ∈ addrsOf T := fun x hx => by
    obtain ⟨y, hy, rfl⟩ := List.mem_map.mp hx
    exact addr_mem (List.mem_filter.mp hy).1
  have snd : (addrsOf (dropA T t)).Nodup := List.Nodup.sublist (List.Sublist.map _ List.filter_sublist) n2
  refine ⟨⟨upd_same, fun x hx => ?_⟩, List.nodup_cons.mpr ⟨fun z => n1 (sub _ z), snd⟩, fun x hx => ?_⟩
  · have hx' := (List.mem_filter.mp hx).1
    rw [upd_ne fun z => n1 (by rw [← z]; exact addr_mem hx')]; exact h.tabs.rows x hx'
  · rcases List.mem_cons.mp hx with h1 | h1
    · exact h.off x (by simp [h1])
    · exact h.off x (by simp [sub _ h1])
theorem drop_sheets (t : Int) : sheetsOf (dropA T t) = dropA (sheetsOf T) t := by
  unfold sheetsOf dropA
  rw [List.filter_map]; rfl
end
theorem perm_sum {l l' : List Nat} (h : l.Perm l') : l.sum = l'.sum := by
  induction h with
  | nil => rfl
  | cons x _ ih => simp [ih]
  | swap x y l => simp; omega
  | trans _ _ ih1 ih2 => rw [ih1, ih2]
theorem rowD_length {t : Int} {row : AL Int} {b : Int} (nd : (keysA row).Nodup) : (rowD t row b).length = occR row b := by
  unfold rowD occR
  rw [List.length_map, ← List.countP_eq_length_filter, (sortI_perm (keysA row)).countP_eq]
  unfold keysA
  rw [List.countP_map, List.count_eq_countP, List.countP_map]
  apply List.countP_congr
  intro p hp
  have : getA row p.1 = some p.2 := getA_of_mem nd hp
  simp [this]
theorem having_len {sh : AL (AL Int)} {b : Int} (nd : (keysA sh).Nodup) (nr : ∀ p ∈ sh, (keysA p.2).Nodup) : (havingD sh b).length = occ sh b := by
  unfold havingD occ
  rw [List.length_flatMap, perm_sum ((sortI_perm (keysA sh)).map _)]
  unfold keysA
  rw [List.map_map]
  congr 1
  apply List.map_congr_left
  intro p hp
  show (rowD p.1 ((getA sh p.1).getD []) b).length = occR p.2 b
  rw [getA_of_mem nd (a := p.2) hp, Option.getD_some, rowD_length (nr p hp)]
def spLawGone (K : PySem.W.Frag) : Sp := fun vs H Q _ => ∃ (F : Hp) (v : V) (ds : List Deed) (sh : List Int), vs = [v] ∧ Same F H ∧ Dp K F v (.tuple (ds.map deedD)) ∧ ds.length ≤ 400 ∧ okAll st0 ds = true ∧ sh.length ≤ 50 ∧ (∀ d ∈ ds, shIn sh d) ∧
  ∀ r ea ta T F' H', Gr [] F H F' H' → H' r = some (.tup [.ref ea, .ref ta, .int (runAll ([], st0) ds).2.next]) → H r = none → TabsAt H' ta T → sheetsOf T = (runAll ([], st0) ds).2.sheets → (∀ x ∈ ta :: addrsOf T, H x = none) →
    Dp K F' (.ref ea) (.list ((runAll ([], st0) ds).1.map evD)) → Q (.ref r) H'
/-- what stands between two deeds -/
structure LCore (K : PySem.W.Frag) (F H : Hp) (ea ta : Addr) (z : List Ev × BSt) (F' H' : Hp) (T : AL (Addr × AL Int)) (xs : List V) : Prop where
  g : Gr [] F H F' H'
  tp : TP F' H' ta T
  se : sheetsOf T = z.2.sheets
  fr : ∀ x ∈ ta :: addrsOf T, H x = none
  ne : ea ∉ ta :: addrsOf T
  he : H ea = none
  fe : F' ea = none
  hx : H' ea = some (.lst xs)
  dx : DpAll K F' xs (z.1.map evD)
def LInv (K : PySem.W.Frag) (F H : Hp) (v : V) (ea ta : Addr) (ds : List Deed) (i : Nat) (σ : L2.St) (H' : Hp) : Prop := ∃ F' T xs o4 o5 o6, LCore K F H ea ta (runAll ([], st0) (ds.take i)) F' H' T xs ∧
  σ = [some v, some (V.ref ta), some (V.ref ea), some (V.int (runAll ([], st0) (ds.take i)).2.next), o4, o5, o6]
end Lw
namespace Lw
open PySem PySem.Spec PyProof.Rows L2 DL Bo Fr
theorem tab_of {T : AL (Addr × AL Int)} {sh : AL (AL Int)} (se : sheetsOf T = sh) {t : Int} (h : (getA sh t).isSome = true) : ∃ d row, getA T t = some (d, row) ∧ getA sh t = some row := by
  subst se
  rw [getA_rows] at h ⊢
  cases q : getA T t with
  | none => rw [q] at h; cases h
  | some x => exact ⟨x.1, x.2, rfl, rfl⟩
theorem pair_lay : ∀ {l : List PyData}, (∀ x ∈ l, ∃ a b : Int, x = .tuple [.int a, .int b]) → PyData.canLayAll0 l = true ∧ PyData.depthAll l ≤ 1
  | [], _ => ⟨by simp [PyData.canLayAll0], by simp [PyData.depthAll]⟩
  | x :: l, h => by
    obtain ⟨h1, h2⟩ := pair_lay (l := l) fun y hy => h y (List.mem_cons_of_mem _ hy)
    obtain ⟨a, b, rfl⟩ := h x List.mem_cons_self
    refine ⟨?_, ?_⟩
    · unfold PyData.canLayAll0
      rw [h1]
      simp [PyData.canLay0, PyData.canLayAll0]
    · unfold PyData.depthAll
      have : (PyData.tuple [.int a, .int b]).depth ≤ 1 := by simp [PyData.depth, PyData.depthAll]
      omega
theorem pairs_shaped {l : List PyData} (h : ∀ x ∈ l, ∃ a b : Int, x = .tuple [.int a, .int b]) : SeqAt.shaped (.list l) = true := by
  obtain ⟨h1, h2⟩ := pair_lay h
  unfold SeqAt.shaped
  have h3 : (PyData.list l).depth ≤ 2 := by unfold PyData.depth; omega
  have h4 : (PyData.list l).canLay0 = true := by unfold PyData.canLay0; exact h1
  rw [h4, decide_eq_true (by omega)] <;> rfl
theorem having_pairs (sh : AL (AL Int)) (b : Int) : ∀ x ∈ havingD sh b, ∃ a b : Int, x = .tuple [.int a, .int b] := by
  intro x hx
  obtain ⟨t, _, hx⟩ := List.mem_flatMap.mp hx
  obtain ⟨s, _, rfl⟩ := List.mem_map.mp hx
  exact ⟨t, s, rfl⟩
theorem having_nil {sh : AL (AL Int)} {b : Int} (nd : (keysA sh).Nodup) (nr : ∀ p ∈ sh, (keysA p.2).Nodup) : (havingD sh b).isEmpty = decide (occ sh b = 0) := by
  rw [← having_len nd nr]
  cases havingD sh b <;> simp
theorem cnt_occ {n : Nat} {st : BSt} (h : BOk n st) (b : Int) : cnt st b = (occ st.sheets b : Int) := by
  unfold Bo.cnt
  rw [h.sh b]
  by_cases e : occ st.sheets b = 0
  · rw [if_pos e, e]; rfl
  · rw [if_neg e]; rfl
theorem sheets_keys {T : AL (Addr × AL Int)} (h : (keysA T).Nodup) : (keysA (sheetsOf T)).Nodup := by rw [keys_sheetsOf]; exact h
theorem sheets_rows {T : AL (Addr × AL Int)} (h : ∀ t ∈ T, (keysA t.2.2).Nodup) : ∀ p ∈ sheetsOf T, (keysA p.2).Nodup := fun p hp => by
  obtain ⟨t, ht, rfl⟩ := List.mem_map.mp hp
  exact h t ht
end Lw
namespace Lw
open PySem PySem.Spec PyProof.Rows L2 DL Bo Fr
theorem there_in {st : BSt} {t : Int} (h : thereD st (.int t) = true) : t ∈ ([1, 2, 3, 4, 5, 6] : List Int) := by
  have h1 : isFrom (.int t) 1 6 = true := (Bool.and_eq_true_iff.mp h).1
  have h2 : (decide (1 ≤ t) && decide (t ≤ 6)) = true := h1
  rw [Bool.and_eq_true_iff, decide_eq_true_iff, decide_eq_true_iff] at h2
  simp
  omega
theorem keys_in {st : BSt} (h : ∀ k ∈ keysA st.sheets, k ∈ ([1, 2, 3, 4, 5, 6] : List Int)) {d : Deed} (ok : okD st d = true) : ∀ k ∈ keysA (doneE st d).2.sheets, k ∈ ([1, 2, 3, 4, 5, 6] : List Int) := by
  cases d with
  | load t s => exact h
  | store t s =>
    have ht := there_in (Bool.and_eq_true_iff.mp ok).1
    show ∀ k ∈ keysA (storeE st t s).2.sheets, _
    unfold storeE
    cases q : bodyOf st t s with
    | none => exact keys_putA_sub h ht
    | some b =>
      dsimp only
      by_cases e : 1 < Bo.cnt st b
      · rw [if_pos e]; exact keys_putA_sub h ht
      · rw [if_neg e]; exact h
  | fork t c =>
    obtain ⟨_, h2⟩ := Bool.and_eq_true_iff.mp ok
    have h3 : comeD st (.int c) = true := by simpa [deedD] using h2
    have h4 : (decide (1 ≤ c) && decide (c ≤ 6)) = true := (Bool.and_eq_true_iff.mp h3).1
    rw [Bool.and_eq_true_iff, decide_eq_true_iff, decide_eq_true_iff] at h4
    exact keys_putA_sub h (by simp; omega)
  | fin t =>
    intro k hk
    obtain ⟨p, hp, rfl⟩ := List.mem_map.mp hk
    exact h _ (List.mem_map_of_mem (f := fun p : Int × AL Int => p.1) (List.mem_filter.mp hp).1)
theorem run_keys : ∀ {ds : List Deed} {st : BSt} {es : List Ev}, (∀ k ∈ keysA st.sheets, k ∈ ([1, 2, 3, 4, 5, 6] : List Int)) → okAll st ds = true → ∀ k ∈ keysA (runAll (es, st) ds).2.sheets, k ∈ ([1, 2, 3, 4, 5, 6] : List Int)
  | [], st, es, h, _ => h
  | d :: ds, st, es, h, ok => run_keys (ds := ds) (es := es ++ (doneE st d).1) (keys_in h (Bool.and_eq_true_iff.mp ok).1) (Bool.and_eq_true_iff.mp ok).2
theorem okAll_take : ∀ {ds : List Deed} {st : BSt} {i : Nat}, okAll st ds = true → okAll st (ds.take i) = true
  | [], _, i, h => by simp [okAll]
  | d :: ds, st, 0, _ => rfl
  | d :: ds, st, i + 1, h => by
    show (okD st d && okAll (doneE st d).2 (ds.take i)) = true
    rw [(Bool.and_eq_true_iff.mp h).1, okAll_take (Bool.and_eq_true_iff.mp h).2] <;> rfl
end Lw

/-! the law's own misses: lists of [body, mark] -/
namespace Lw
open PySem PySem.Spec PyProof.Rows L2 DL Bo Fr
/-- a comprehension over a list of data whose items and values are data -/
theorem lc_data {K : PySem.W.Frag} {F H : Hp} {va : Addr} {xs : List V} {ds : List PyData} {keep : PyData → Bool} {f : PyData → PyData} {g : TG} {tt : TT} {te : TE} {vs : List Nat} {σ : L2.St} {Q : VK}
    (sm : Same F H) (hva : SqL K H va xs) (hds : DpAll K F xs ds) (hl : ds.length ≤ 1000000)
    (hs : ∀ (x : V) (d : PyData) (F' H' : Hp) (A : Hp → Prop) (B : V → Hp → Prop), d ∈ ds → Dp K F' x d → Gr [] F H F' H' →
      (keep d = false → ∀ F'' H'', Gr [] F' H' F'' H'' → A H'') → (keep d = true → ∀ y F'' H'', Gr [] F' H' F'' H'' → Dp K F'' y (f d) → B y H'') →
      g x (wipe σ vs) H' fun σ2 H2 => wipe σ2 vs = wipe σ vs ∧ tt σ2 H2 fun b H3 => if b = true then te σ2 H3 B else A H3)
    (k : ∀ D ys F' H', Gr [] F H F' H' → H D = none → F' D = none → H' D = some (.lst ys) → DpAll K F' ys ((ds.filter keep).map f) → Q (.ref D) H') :
    ∃ a, V.ref va = .ref a ∧ (∃ xs, SqL K H a xs) ∧ ∀ D, H D = none → ∃ W : Nat → Nat → Hp → Prop, (∃ m, W 0 m (upd H D (.lst []))) ∧ ∀ i m H, W i m H →
      ((Itl K a).stop i H ∧ Q (.ref D) H) ∨ ((Itl K a).go i H ∧ ∃ Nx : Hp → Prop, (∀ H', Nx H' → ∃ m', m' < m ∧ W (i + 1) m' H') ∧ ∀ x H', (Itl K a).yld i H x H' → g x (wipe σ vs) H' fun σ2 H2 => wipe σ2 vs = wipe σ vs ∧ tt σ2 H2 fun b H3 =>
        if b = true then te σ2 H3 fun y H4 => ∃ acc, H4 D = some (.lst acc) ∧ acc.length < sizeLine ∧ Nx (upd H4 D (.lst (acc ++ [y]))) else Nx H3) := by
  refine ⟨va, rfl, ⟨xs, hva⟩, fun D hD => ?_⟩
  have fD := sub_free sm hD
  have hll := dp_len hds
  refine lc_it (walk_list (K := K) (a := va) (xs := xs)) (fun i H' => ∃ F' ys, Gr [] F H F' H' ∧ F' D = none ∧ H' D = some (.lst ys) ∧ DpAll K F' ys (((ds.take i).filter keep).map f) ∧ ys.length ≤ i) ⟨F, [], Gr.newOwn sm hD, fD, upd_same, .nil, Nat.le_refl _⟩ ?_ ?_ ?_
  · rintro i H' _ ⟨F', ys, g', _⟩
    exact sql_gr g' (by simp) hva
  · rintro i x H' H'' hi ⟨F', ys, g', fD', hDD, hys, hyl⟩ ⟨rfl, hx⟩
    obtain ⟨d, hd, hxd⟩ := dp_getV hds hx
    have hfil : ((ds.take (i + 1)).filter keep).map f = if keep d = true then ((ds.take i).filter keep).map f ++ [f d] else ((ds.take i).filter keep).map f := by
      rw [take_succ_get hd, filter_snoc]
      by_cases e : keep d = true
      · rw [if_pos e, if_pos e, List.map_append]; rfl
      · rw [if_neg e, if_neg e]
    refine hs x d F' H'' _ _ (List.mem_of_getElem? hd) (hxd.to g'.fs) g' (fun e F9 H9 g9 => ?_) (fun e y F9 H9 g9 hy => ?_)
    · rw [hfil, if_neg (by rw [e]; simp)]
      exact ⟨F9, ys, g'.trans g9, g9.own D fD' (by rw [hDD]; exact fun z => nomatch z), g9.at0 hDD, hys.to g9.fs, by omega⟩
    · rw [hfil, if_pos e]
      have hD9 := g9.at0 hDD
      have fD9 : F9 D = none := g9.own D fD' (by rw [hDD]; exact fun z => nomatch z)
      exact ⟨ys, hD9, size1000000 (by omega), F9, ys ++ [y], (g'.trans g9).poke hD fD9, fD9, upd_same, dp_app (hys.to g9.fs) (.cons hy .nil), by simp; omega⟩
  · rintro H' ⟨F', ys, g', fD', hDD, hys, hyl⟩
    rw [hll, List.take_length] at hys
    exact k D ys F' H' g' hD fD' hDD hys
theorem lc_dataT {K : PySem.W.Frag} {F H : Hp} {va : Addr} {xs : List V} {ds : List PyData} {keep : PyData → Bool} {f : PyData → PyData} {tl : TE} {g : TG} {tt : TT} {te : TE} {vs : List Nat} {σ : L2.St} {Q : VK}
    (hj : ∀ R : VK, R (.ref va) H → tl σ H R) (sm : Same F H) (hva : SqL K H va xs) (hds : DpAll K F xs ds) (hl : ds.length ≤ 1000000)
    (hs : ∀ (x : V) (d : PyData) (F' H' : Hp) (A : Hp → Prop) (B : V → Hp → Prop), d ∈ ds → Dp K F' x d → Gr [] F H F' H' →
      (keep d = false → ∀ F'' H'', Gr [] F' H' F'' H'' → A H'') → (keep d = true → ∀ y F'' H'', Gr [] F' H' F'' H'' → Dp K F'' y (f d) → B y H'') →
      g x (wipe σ vs) H' fun σ2 H2 => wipe σ2 vs = wipe σ vs ∧ tt σ2 H2 fun b H3 => if b = true then te σ2 H3 B else A H3)
    (k : ∀ D ys F' H', Gr [] F H F' H' → H D = none → F' D = none → H' D = some (.lst ys) → DpAll K F' ys ((ds.filter keep).map f) → Q (.ref D) H') :
    tLc (iSeq K tl) g tt te vs σ H Q := S.lcS (S.iSeqL (hj _ (lc_data sm hva hds hl hs k)))
abbrev LR := List (Int × Bool)
def ownD (p : Int × Bool) : PyData := .list [.int p.1, .bool p.2]
def rowsD (row : LR) : List PyData := row.map ownD
def inside (row : LR) : List Int := row.map (·.1)
theorem own_of {row : LR} {d : PyData} (h : d ∈ rowsD row) : ∃ p ∈ row, d = ownD p := by
  obtain ⟨p, hp, rfl⟩ := List.mem_map.mp h
  exact ⟨p, hp, rfl⟩
def ownB : PyData → Int
  | .list (.int b :: _) => b
  | _ => 0
def ownM : PyData → Bool
  | .list (_ :: .bool m :: _) => m
  | _ => false
theorem rowsD_map {α : Type} (row : LR) (f : PyData → α) : (rowsD row).map f = row.map fun p => f (ownD p) := by unfold rowsD; rw [List.map_map]; rfl
theorem rowsD_filter (row : LR) (keep : PyData → Bool) : (rowsD row).filter keep = rowsD (row.filter fun p => keep (ownD p)) := by
  unfold rowsD; rw [List.filter_map]; rfl
/-- what is put out, by each rule -/
def lk (looked : AL Int) (b : Int) : Int := (getA looked b).getD 0
def firstUn (row : LR) : Option Int := ((row.filter fun p => !p.2).map (·.1)).head?
def OutR (row : LR) (looked : AL Int) (frames : Int) (R : Rule) (gone : Nat) (x : Int) : Prop := match R with
  | .first => (inside row).head? = some x
  | .longest => x ∈ inside row ∧ ∀ b ∈ inside row, lk looked x ≤ lk looked b
  | .clock => (match firstUn row with | some y => x = y | none => (inside row).head? = some x)
  | .told cs => x = ((sortI (inside row))[(((cs[gone]?).getD 0) % frames).toNat]?).getD 0
def spOut (K : PySem.W.Frag) : Sp := fun vs H Q _ => ∃ (F : Hp) (v u : V) (lka : Addr) (row : LR) (looked : AL Int) (n : Int) (R : Rule) (gone : Nat), vs = [v, .ref lka, .int n, u, .int (gone : Int)] ∧ Same F H ∧ Dp K F v (.list (rowsD row)) ∧ H lka = some (.dK (kM V.int looked)) ∧
  1 ≤ n ∧ n ≤ 16 ∧ (row.length : Int) = n ∧ (∀ b ∈ inside row, (getA looked b).isSome = true) ∧ Dp K F u (ruleD R) ∧ ∀ x F' H', OutR row looked n R gone x → Gr [] F H F' H' → Q (.int x) H'
def atOf (row : LR) (x : Int) : Nat := (inside row).findIdx (· == x)
def turnedR (row : LR) (x : Int) : LR := if (row.filter (·.2)).length = row.length then row.map fun p => (p.1, false) else row.drop (atOf row x) ++ (row.take (atOf row x)).map fun p => (p.1, false)
def spTurned (K : PySem.W.Frag) : Sp := fun vs H Q _ => ∃ (F : Hp) (v : V) (row : LR) (x : Int), vs = [v, .int x] ∧ Same F H ∧ Dp K F v (.list (rowsD row)) ∧ row.length ≤ 100 ∧ x ∈ inside row ∧ ∀ w F' H', Gr [] F H F' H' → Dp K F' w (.list (rowsD (turnedR row x))) → Q w H'
end Lw
namespace Lw
open PySem PySem.Spec PyProof.Rows L2 DL Bo Fr
/-- [own[0] for own in row] -/
theorem lc_bodies {K : PySem.W.Frag} {F H : Hp} {v : V} {row : LR} {i j : Nat} {vs : List Nat} {σ : L2.St} {Q : VK} (sm : Same F H) (hv : Dp K F v (.list (rowsD row))) (hl : row.length ≤ 1000)
    (hj : σ[j]? = some (some v)) (hi : ∀ x : V, ((wipe σ vs).set i (some x))[i]? = some (some x)) (hw : ∀ x : V, wipe ((wipe σ vs).set i (some x)) vs = wipe σ vs)
    (k : ∀ D F' H', Gr [] F H F' H' → H D = none → F' D = none → H' D = some (.lst ((inside row).map V.int)) → Q (.ref D) H') :
    tLc (iSeq K (tVar j)) (gName i) tYes (tOp (rIx K) (tVar i) (tC (.int 0))) vs σ H Q := by
  obtain ⟨va, xs, rfl, hva, hds⟩ := dp_list hv
  refine S.lcS (S.iSeqL (S.var hj ?_))
  refine lc_data (K := K) (keep := fun _ => true) (f := fun d => .int (ownB d)) sm (same_lst sm hva) hds (by unfold rowsD; rw [List.length_map]; omega) ?_ ?_
  · intro x d F' H' A B hd hx g _ kT
    obtain ⟨p, _, rfl⟩ := own_of hd
    refine S.name ⟨hw x, S.yes (S.iteT rfl (S.op (S.var (hi x) (S.c ?_))))⟩
    exact S.ixL (K := K) (ds := [.int p.1, .bool p.2]) (d := .int p.1) hx g.sub S.atI_0 fun y hy => kT rfl y F' H' (Gr.refl g.sub) hy
  · intro D ys F' H' g hD fD hDD hys
    refine k D F' H' g hD fD ?_
    have e : ((rowsD row).filter fun _ => true).map (fun d => PyData.int (ownB d)) = (inside row).map PyData.int := by
      rw [List.filter_eq_self.mpr (fun _ _ => rfl), rowsD_map]
      unfold inside
      rw [List.map_map]; rfl
    rw [e] at hys
    rw [hDD, dp_ints_inv hys]
/-- [own for own in row if ..] -/
theorem lc_keep {K : PySem.W.Frag} {F H : Hp} {v : V} {row : LR} {c : Int × Bool → Bool} {i j : Nat} {tt : TT} {vs : List Nat} {σ : L2.St} {Q : VK} (sm : Same F H) (hv : Dp K F v (.list (rowsD row))) (hl : row.length ≤ 1000)
    (hj : σ[j]? = some (some v)) (hi : ∀ x : V, ((wipe σ vs).set i (some x))[i]? = some (some x)) (hw : ∀ x : V, wipe ((wipe σ vs).set i (some x)) vs = wipe σ vs)
    (ht : ∀ (x : V) (p : Int × Bool) (F' H' : Hp) (QT : Bool → Hp → Prop), Dp K F' x (ownD p) → Same F' H' → QT (c p) H' → tt ((wipe σ vs).set i (some x)) H' QT)
    (k : ∀ D F' H', Gr [] F H F' H' → H D = none → Dp K F' (.ref D) (.list (rowsD (row.filter c))) → Q (.ref D) H') :
    tLc (iSeq K (tVar j)) (gName i) tt (tVar i) vs σ H Q := by
  obtain ⟨va, xs, rfl, hva, hds⟩ := dp_list hv
  refine S.lcS (S.iSeqL (S.var hj ?_))
  refine lc_data (K := K) (keep := fun d => c (ownB d, ownM d)) (f := id) sm (same_lst sm hva) hds (by unfold rowsD; rw [List.length_map]; omega) ?_ ?_
  · intro x d F' H' A B hd hx g kF kT
    obtain ⟨p, _, rfl⟩ := own_of hd
    refine S.name ⟨hw x, ht x p F' H' _ hx g.sub ?_⟩
    have e : c (ownB (ownD p), ownM (ownD p)) = c p := rfl
    rw [e] at kF kT
    refine S.ite (fun e => ?_) (fun e => ?_)
    · exact S.var (hi x) (kT e x F' H' (Gr.refl g.sub) hx)
    · exact kF e F' H' (Gr.refl g.sub)
  · intro D ys F' H' g hD fD hDD hys
    have e : ((rowsD row).filter fun d => c (ownB d, ownM d)).map id = rowsD (row.filter c) := by
      rw [List.map_id, rowsD_filter]; rfl
    rw [e] at hys
    exact k D _ H' (g.frz hD fD hDD) hD (.lst (.inl (.inl upd_same)) (hys.to fun b o e => by rw [upd_ne (ne_of_none e fD)]; exact e))
/-- [[own[0], ..] for own in ..] -/
theorem lc_new {K : PySem.W.Frag} {F H : Hp} {v : V} {row : LR} {c : Int × Bool → Bool} {i : Nat} {tl : TE} {te : TE} {vs : List Nat} {σ : L2.St} {Q : VK} (sm : Same F H) (hv : Dp K F v (.list (rowsD row))) (hl : row.length ≤ 1000)
    (hj : ∀ R : VK, R v H → tl σ H R) (hw : ∀ x : V, wipe ((wipe σ vs).set i (some x)) vs = wipe σ vs)
    (ht : ∀ (x : V) (p : Int × Bool) (F' H' : Hp) (R : VK), Dp K F' x (ownD p) → Same F' H' → (∀ q F'' H'', Gr [] F' H' F'' H'' → Dp K F'' (.ref q) (.list [.int p.1, .bool (c p)]) → R (.ref q) H'') → te ((wipe σ vs).set i (some x)) H' R)
    (k : ∀ D ys F' H', Gr [] F H F' H' → H D = none → F' D = none → H' D = some (.lst ys) → DpAll K F' ys (rowsD (row.map fun p => (p.1, c p))) → Q (.ref D) H') :
    tLc (iSeq K tl) (gName i) tYes te vs σ H Q := by
  obtain ⟨va, xs, rfl, hva, hds⟩ := dp_list hv
  refine S.lcS (S.iSeqL (hj _ ?_))
  refine lc_data (K := K) (keep := fun _ => true) (f := fun d => .list [.int (ownB d), .bool (c (ownB d, ownM d))]) sm (same_lst sm hva) hds (by unfold rowsD; rw [List.length_map]; omega) ?_ ?_
  · intro x d F' H' A B hd hx g kF kT
    obtain ⟨p, _, rfl⟩ := own_of hd
    refine S.name ⟨hw x, S.yes (S.iteT rfl (ht x p F' H' _ hx g.sub fun q F'' H'' g' hq => kT rfl _ F'' H'' g' hq))⟩
  · intro D ys F' H' g hD fD hDD hys
    have e : ((rowsD row).filter fun _ => true).map (fun d => PyData.list [.int (ownB d), .bool (c (ownB d, ownM d))]) = rowsD (row.map fun p => (p.1, c p)) := by
      rw [List.filter_eq_self.mpr (fun _ _ => rfl), rowsD_map]
      unfold rowsD
      rw [List.map_map]; rfl
    rw [e] at hys
    exact k D ys F' H' g hD fD hDD hys
def Rule.isFirst : Rule → Bool
  | .first => true | _ => false
theorem eqv_first (R : Rule) : PyData.eqv (ruleD R) (.str "first") = Rule.isFirst R := by
  cases R with
  | told cs => simp [ruleD, PyData.eqv, Rule.isFirst]
  | _ => simp only [ruleD, PyData.eqv, Rule.isFirst] <;> decide +kernel
theorem shaped_first : SeqAt.shaped (.str "first") = true := shaped_str (by decide +kernel)
end Lw
namespace Lw
open PySem PySem.Spec PyProof.Rows L2 DL Bo Fr
def pk (H : Hp) : V → Int × Int
  | .ref t => match H t with
    | some (.tup [.int a, .int b]) => (a, b)
    | _ => (0, 0)
  | _ => (0, 0)
theorem pk_of {H : Hp} {t : Addr} {a b : Int} (h : H t = some (.tup [.int a, .int b])) : pk H (.ref t) = (a, b) := by unfold pk; dsimp only; rw [h]
theorem inside_len (row : LR) : (inside row).length = row.length := by unfold inside; rw [List.length_map]
theorem head_some {α : Type} {l : List α} (h : l ≠ []) : ∃ a r, l = a :: r ∧ l.head? = some a := by
  cases l with
  | nil => exact absurd rfl h
  | cons a r => exact ⟨a, r, rfl, rfl⟩
end Lw
namespace Lw
open PySem PySem.Spec PyProof.Rows L2 DL Bo Fr
theorem rows_lay : ∀ row : LR, PyData.canLayAll0 (rowsD row) = true ∧ PyData.depthAll (rowsD row) ≤ 1
  | [] => ⟨by simp [rowsD, PyData.canLayAll0], by simp [rowsD, PyData.depthAll]⟩
  | p :: row => by
    obtain ⟨h1, h2⟩ := rows_lay row
    have e : rowsD (p :: row) = ownD p :: rowsD row := rfl
    rw [e]
    refine ⟨?_, ?_⟩
    · unfold PyData.canLayAll0
      rw [h1]
      simp [ownD, PyData.canLay0, PyData.canLayAll0]
    · unfold PyData.depthAll
      have : (ownD p).depth ≤ 1 := by simp [ownD, PyData.depth, PyData.depthAll]
      omega
theorem rows_shaped (row : LR) : SeqAt.shaped (.list (rowsD row)) = true := by
  obtain ⟨h1, h2⟩ := rows_lay row
  unfold SeqAt.shaped
  have h3 : (PyData.list (rowsD row)).depth ≤ 2 := by unfold PyData.depth; omega
  have h4 : (PyData.list (rowsD row)).canLay0 = true := by unfold PyData.canLay0; exact h1
  rw [h4, decide_eq_true (by omega)] <;> rfl
end Lw
namespace Lw
open PySem PySem.Spec PyProof.Rows L2 DL Bo Fr
/-- [[own[0], ..] for own in ..], the list made on the way -/
theorem lc_new2 {K : PySem.W.Frag} {F H : Hp} {row : LR} {c : Int × Bool → Bool} {i : Nat} {tl : TE} {te : TE} {vs : List Nat} {σ : L2.St} {Q : VK} (hl : row.length ≤ 1000)
    (hj : ∀ R : VK, (∀ w F2 H2, Gr [] F H F2 H2 → Dp K F2 w (.list (rowsD row)) → R w H2) → tl σ H R) (hw : ∀ x : V, wipe ((wipe σ vs).set i (some x)) vs = wipe σ vs)
    (ht : ∀ (x : V) (p : Int × Bool) (F' H' : Hp) (R : VK), Dp K F' x (ownD p) → Same F' H' → (∀ q F'' H'', Gr [] F' H' F'' H'' → Dp K F'' (.ref q) (.list [.int p.1, .bool (c p)]) → R (.ref q) H'') → te ((wipe σ vs).set i (some x)) H' R)
    (k : ∀ D ys F' H', Gr [] F H F' H' → H D = none → F' D = none → H' D = some (.lst ys) → DpAll K F' ys (rowsD (row.map fun p => (p.1, c p))) → Q (.ref D) H') :
    tLc (iSeq K tl) (gName i) tYes te vs σ H Q := by
  refine S.lcS (S.iSeqL (hj _ fun w F2 H2 g2 hw2 => ?_))
  obtain ⟨va, xs, rfl, hva, hds⟩ := dp_list hw2
  refine lc_data (K := K) (F := F2) (keep := fun _ => true) (f := fun d => .list [.int (ownB d), .bool (c (ownB d, ownM d))]) g2.sub (same_lst g2.sub hva) hds (by unfold rowsD; rw [List.length_map]; omega) ?_ ?_
  · intro x d F' H' A B hd hx g kF kT
    obtain ⟨p, _, rfl⟩ := own_of hd
    refine S.name ⟨hw x, S.yes (S.iteT rfl (ht x p F' H' _ hx g.sub fun q F'' H'' g' hq => kT rfl _ F'' H'' g' hq))⟩
  · intro D ys F' H' g hD fD hDD hys
    have e : ((rowsD row).filter fun _ => true).map (fun d => PyData.list [.int (ownB d), .bool (c (ownB d, ownM d))]) = rowsD (row.map fun p => (p.1, c p)) := by
      rw [List.filter_eq_self.mpr (fun _ _ => rfl), rowsD_map]
      unfold rowsD
      rw [List.map_map]; rfl
    rw [e] at hys
    exact k D ys F' H' (g2.trans g) (g2.free hD) fD hDD hys
/-- l[a:], l[:b] of a list of data -/
theorem slLF {K : PySem.W.Frag} {F H : Hp} {v : V} {ds : List PyData} {e : Nat} {Q : VK} (h : Dp K F v (.list ds)) (s : Same F H) (q : ∀ p ys F' H', Gr [] F H F' H' → H p = none → F' p = none → H' p = some (.lst ys) → DpAll K F' ys (ds.drop e) → Q (.ref p) H') : rSlU K v (some (e : Int)) none H Q := by
  obtain ⟨a, xs, rfl, h1, h2⟩ := dp_list h
  refine .inl ⟨a, xs, rfl, same_lst s h1, fun p hp => ?_⟩
  have e1 : cutV xs (some (e : Int)) none = xs.drop e := by
    unfold cutV
    rw [HT.sIx_nat, HT.sIx_none]
    by_cases h5 : e ≤ xs.length
    · rw [Nat.min_eq_left h5, List.take_of_length_le (by rw [List.length_drop]; omega)]
    · rw [Nat.min_eq_right (by omega), List.drop_of_length_le (Nat.le_refl _), List.drop_of_length_le (by omega)] <;> simp
  rw [e1]
  exact q p _ F _ (Gr.newOwn s hp) hp (sub_free s hp) upd_same (dp_drop e h2)
theorem slLT {K : PySem.W.Frag} {F H : Hp} {v : V} {ds : List PyData} {e : Nat} {Q : VK} (h : Dp K F v (.list ds)) (s : Same F H) (q : ∀ p ys F' H', Gr [] F H F' H' → H p = none → F' p = none → H' p = some (.lst ys) → DpAll K F' ys (ds.take e) → Q (.ref p) H') : rSlU K v none (some (e : Int)) H Q := by
  obtain ⟨a, xs, rfl, h1, h2⟩ := dp_list h
  refine .inl ⟨a, xs, rfl, same_lst s h1, fun p hp => ?_⟩
  have e1 : cutV xs none (some (e : Int)) = xs.take e := by
    unfold cutV
    rw [HT.sIx_nat, HT.sIx_none, List.drop_zero, Nat.sub_zero]
    by_cases h5 : e ≤ xs.length
    · rw [Nat.min_eq_left h5]
    · rw [Nat.min_eq_right (by omega), List.take_of_length_le (Nat.le_refl _), List.take_of_length_le (by omega)]
  rw [e1]
  exact q p _ F _ (Gr.newOwn s hp) hp (sub_free s hp) upd_same (dp_take e h2)
theorem dp_same_upd {K : PySem.W.Frag} {F : Hp} {q : Addr} {o : HO} {xs : List V} {ds : List PyData} (fq : F q = none) (h : DpAll K F xs ds) : DpAll K (upd F q o) xs ds := h.to fun b u e => by rw [upd_ne (ne_of_none e fq)]; exact e
theorem index_at : ∀ {l : List Int} {x : Int}, x ∈ l → l[l.findIdx (· == x)]? = some x ∧ ∀ (m : Nat) (z : Int), m < l.findIdx (· == x) → l[m]? = some z → z ≠ x
  | [], _, h => nomatch h
  | a :: l, x, h => by
    by_cases e : a = x
    · subst e
      rw [List.findIdx_cons]
      simp
    · have h' : x ∈ l := (List.mem_cons.mp h).resolve_left fun z => e z.symm
      obtain ⟨h1, h2⟩ := index_at h'
      have e2 : (a == x) = false := beq_eq_false_iff_ne.mpr e
      rw [List.findIdx_cons, e2]
      refine ⟨by simpa using h1, fun m z hm hz => ?_⟩
      cases m with
      | zero => simp at hz; subst hz; exact e
      | succ m => exact h2 m z (by simpa using hm) (by simpa using hz)
end Lw

/-! plain: the law's rows and the program's frames walk side by side -/
namespace Lw
open PySem PySem.Spec PyProof.Rows L2 DL Bo Fr
structure LS where
  row : LR
  looked : AL Int
  missed : Int
  gone : Nat
def others (row : LR) (b : Int) : LR := row.filter fun p => !decide (p.1 = b)
def seen (row : LR) (b : Int) : LR := row.map fun p => (p.1, p.2 || decide (p.1 = b))
structure Rel (n : Int) (R : Rule) (i : Nat) (s : LS) (fs : FSt) : Prop where
  n1 : 1 ≤ n
  fm : fs.missed = s.missed
  fl : fs.left = s.gone
  fp : fs.places = n
  fr : fs.rule = R
  nd : (inside s.row).Nodup
  len : (s.row.length : Int) ≤ n
  lks : ∀ b ∈ inside s.row, ∃ t, getA s.looked b = some t ∧ t < i
  ll : s.looked.length ≤ i
  rows : R.isLongest = false → fs.row = inside s.row
  lru : R.isLongest = true → fs.row.Perm (inside s.row) ∧ fs.row.Pairwise (fun a b => lk s.looked a < lk s.looked b)
  mkd : R.isClock = true → ∀ p ∈ s.row, p.2 = (getA fs.marked p.1).isSome
  mks : R.isClock = true → ∀ k, (getA fs.marked k).isSome = true → k ∈ inside s.row
theorem inside_others (row : LR) (b : Int) : inside (others row b) = (inside row).filter fun x => !decide (x = b) := by
  unfold inside others
  rw [List.filter_map]; rfl
theorem erase_filter {l : List Int} (nd : l.Nodup) (b : Int) : l.erase b = l.filter fun x => !decide (x = b) := by
  rw [nd.erase_eq_filter]
  apply List.filter_congr
  intro x _
  by_cases e : x = b
  · subst e; simp
  · simp [e]
theorem inside_seen (row : LR) (b : Int) : inside (seen row b) = inside row := by
  unfold inside seen; rw [List.map_map]; rfl
theorem inside_app (a b : LR) : inside (a ++ b) = inside a ++ inside b := by unfold inside; rw [List.map_append]
theorem inside_mem {row : LR} {p : Int × Bool} (h : p ∈ row) : p.1 ∈ inside row := List.mem_map_of_mem (f := fun p : Int × Bool => p.1) h
theorem Rel.perm {n : Int} {R : Rule} {i : Nat} {s : LS} {fs : FSt} (h : Rel n R i s fs) : fs.row.Perm (inside s.row) := by
  by_cases e : R.isLongest = true
  · exact (h.lru e).1
  · rw [h.rows (by simpa using e)]
theorem Rel.rlen {n : Int} {R : Rule} {i : Nat} {s : LS} {fs : FSt} (h : Rel n R i s fs) : fs.row.length = s.row.length := by rw [h.perm.length_eq, inside_len]
theorem Rel.isS {n : Int} {R : Rule} {i : Nat} {s : LS} {fs : FSt} (h : Rel n R i s fs) : ∀ b ∈ inside s.row, (getA s.looked b).isSome = true := fun b hb => by
  obtain ⟨t, ht, _⟩ := h.lks b hb
  rw [ht]; rfl
theorem Rel.zero {n : Int} (h1 : 1 ≤ n) (R : Rule) : Rel n R 0 ⟨[], [], 0, 0⟩ (fst0 n R) :=
  ⟨h1, rfl, rfl, rfl, rfl, List.nodup_nil, by show (0 : Int) ≤ n; omega, (fun _ h => nomatch h), Nat.le_refl _, fun _ => rfl, fun _ => ⟨.refl _, .nil⟩, (fun _ _ h => nomatch h), fun _ k h => by cases h⟩
/-- a body is gone -/
theorem Rel.gone {n : Int} {R : Rule} {i : Nat} {s : LS} {fs : FSt} (h : Rel n R i s fs) (b : Int) : Rel n R (i + 1) { s with row := others s.row b } (leaveF fs b) := by
  have hi := inside_others s.row b
  have hsub : ∀ x ∈ inside (others s.row b), x ∈ inside s.row := fun x hx => by rw [hi] at hx; exact (List.mem_filter.mp hx).1
  refine ⟨h.n1, h.fm, h.fl, h.fp, h.fr, ?_, ?_, ?_, Nat.le_succ_of_le h.ll, ?_, ?_, ?_, ?_⟩
  · rw [hi]; exact h.nd.filter _
  · have := List.length_filter_le (fun p : Int × Bool => !decide (p.1 = b)) s.row
    have := h.len
    show ((others s.row b).length : Int) ≤ n
    unfold others
    omega
  · intro x hx
    obtain ⟨t, ht, hti⟩ := h.lks x (hsub x hx)
    exact ⟨t, ht, by omega⟩
  · intro e
    show fs.row.erase b = inside (others s.row b)
    rw [hi, h.rows e, erase_filter h.nd]
  · intro e
    obtain ⟨p1, p2⟩ := h.lru e
    refine ⟨?_, p2.sublist List.erase_sublist⟩
    show (fs.row.erase b).Perm (inside (others s.row b))
    rw [hi, ← erase_filter h.nd]
    exact p1.erase b
  · intro e p hp
    obtain ⟨hp1, hp2⟩ := List.mem_filter.mp hp
    have hne : ¬ p.1 = b := by simpa using hp2
    show p.2 = (getA (dropA fs.marked b) p.1).isSome
    rw [getA_dropA, if_neg hne]
    exact h.mkd e p hp1
  · intro e k hk
    have hk' : (getA (dropA fs.marked b) k).isSome = true := hk
    rw [getA_dropA] at hk'
    by_cases e2 : k = b
    · rw [if_pos e2] at hk'; cases hk'
    · rw [if_neg e2] at hk'
      show k ∈ inside (others s.row b)
      rw [hi]
      exact List.mem_filter.mpr ⟨h.mks e k hk', by simp [e2]⟩
theorem lk_put (looked : AL Int) (b t a : Int) : lk (putA looked b t) a = if a = b then t else lk looked a := by
  unfold lk
  rw [getA_putA]
  by_cases e : a = b <;> simp [e]
theorem lk_lt {n : Int} {R : Rule} {i : Nat} {s : LS} {fs : FSt} (h : Rel n R i s fs) {a : Int} (ha : a ∈ inside s.row) : lk s.looked a < i := by
  obtain ⟨t, ht, hti⟩ := h.lks a ha
  unfold lk
  rw [ht]; exact hti
/-- a body that is there is looked at -/
theorem Rel.look {n : Int} {R : Rule} {i : Nat} {s : LS} {fs : FSt} (h : Rel n R i s fs) {b : Int} (hb : b ∈ inside s.row) : Rel n R (i + 1) { s with row := seen s.row b, looked := putA s.looked b i } (lookF fs b) := by
  have hi := inside_seen s.row b
  have hbf : b ∈ fs.row := h.perm.symm.subset hb
  have hlks : ∀ x ∈ inside (seen s.row b), ∃ t, getA (putA s.looked b (i : Int)) x = some t ∧ t < ((i + 1 : Nat) : Int) := fun x hx => by
    rw [hi] at hx
    rw [getA_putA]
    by_cases e : x = b
    · rw [if_pos e]; exact ⟨i, rfl, by omega⟩
    · rw [if_neg e]
      obtain ⟨t, ht, hti⟩ := h.lks x hx
      exact ⟨t, ht, by omega⟩
  have hll : (putA s.looked b (i : Int)).length ≤ i + 1 := by
    have := putA_len s.looked b (i : Int)
    have := h.ll
    omega
  have hlen : ((seen s.row b).length : Int) ≤ n := by unfold seen; rw [List.length_map]; exact h.len
  have hfr := h.fr
  cases R with
  | longest =>
    have e1 : lookF fs b = { fs with row := fs.row.erase b ++ [b] } := by simp [lookF, hfr, Rule.isClock, Rule.isLongest]
    rw [e1]
    obtain ⟨p1, p2⟩ := h.lru rfl
    have hnd : fs.row.Nodup := p1.symm.nodup_iff.mp h.nd
    refine ⟨h.n1, h.fm, h.fl, h.fp, h.fr, by rw [hi]; exact h.nd, hlen, hlks, hll, (fun e => nomatch e), fun _ => ⟨?_, ?_⟩, (fun e => nomatch e), (fun e => nomatch e)⟩
    · show (fs.row.erase b ++ [b]).Perm (inside (seen s.row b))
      rw [hi]
      exact (List.perm_append_comm.trans (List.perm_cons_erase hbf).symm).trans p1
    · show (fs.row.erase b ++ [b]).Pairwise (fun x y => lk (putA s.looked b i) x < lk (putA s.looked b i) y)
      rw [List.pairwise_append]
      refine ⟨?_, List.pairwise_singleton _ _, ?_⟩
      · refine (p2.sublist List.erase_sublist).imp_of_mem ?_
        intro x y hx hy hxy
        have hx' := hnd.mem_erase_iff.mp hx
        have hy' := hnd.mem_erase_iff.mp hy
        rw [lk_put, lk_put, if_neg hx'.1, if_neg hy'.1]
        exact hxy
      · intro x hx y hy
        rw [List.mem_singleton.mp hy]
        have hx' := hnd.mem_erase_iff.mp hx
        rw [lk_put, lk_put, if_neg hx'.1, if_pos rfl]
        exact lk_lt h (p1.subset hx'.2)
  | clock =>
    have e1 : lookF fs b = { fs with marked := putA fs.marked b () } := by simp [lookF, hfr, Rule.isClock, Rule.isLongest]
    rw [e1]
    refine ⟨h.n1, h.fm, h.fl, h.fp, h.fr, by rw [hi]; exact h.nd, hlen, hlks, hll, fun e => by rw [hi]; exact h.rows e, (fun e => nomatch e), fun e p hp => ?_, fun e k hk => ?_⟩
    · obtain ⟨q, hq, rfl⟩ := List.mem_map.mp hp
      show (q.2 || decide (q.1 = b)) = (getA (putA fs.marked b ()) q.1).isSome
      rw [getA_putA, h.mkd e q hq]
      by_cases e2 : q.1 = b <;> simp [e2]
    · have hk' : (getA (putA fs.marked b ()) k).isSome = true := hk
      rw [isSome_putA] at hk'
      rw [hi]
      rcases hk' with rfl | hk'
      · exact hb
      · exact h.mks e k hk'
  | first =>
    have e1 : lookF fs b = fs := by simp [lookF, hfr, Rule.isClock, Rule.isLongest]
    rw [e1]
    exact ⟨h.n1, h.fm, h.fl, h.fp, h.fr, by rw [hi]; exact h.nd, hlen, hlks, hll, fun e => by rw [hi]; exact h.rows e, (fun e => nomatch e), (fun e => nomatch e), (fun e => nomatch e)⟩
  | told cs =>
    have e1 : lookF fs b = fs := by simp [lookF, hfr, Rule.isClock, Rule.isLongest]
    rw [e1]
    exact ⟨h.n1, h.fm, h.fl, h.fp, h.fr, by rw [hi]; exact h.nd, hlen, hlks, hll, fun e => by rw [hi]; exact h.rows e, (fun e => nomatch e), (fun e => nomatch e), (fun e => nomatch e)⟩
end Lw
namespace Lw
open PySem PySem.Spec PyProof.Rows L2 DL Bo Fr
theorem Rel.add {n : Int} {R : Rule} {i : Nat} {s : LS} {fs : FSt} (h : Rel n R i s fs) {b : Int} (hb : b ∉ inside s.row) (hl : (s.row.length : Int) < n) :
    Rel n R (i + 1) ⟨s.row ++ [(b, false)], putA s.looked b i, s.missed + 1, s.gone⟩ { fs with row := fs.row ++ [b], missed := fs.missed + 1 } := by
  have hi : inside (s.row ++ [(b, false)]) = inside s.row ++ [b] := by rw [inside_app]; rfl
  refine ⟨h.n1, by show fs.missed + 1 = s.missed + 1; rw [h.fm], h.fl, h.fp, h.fr, by rw [hi]; exact nodup_snoc h.nd hb, ?_, fun x hx => ?_, ?_, fun e => ?_, fun e => ⟨?_, ?_⟩, fun e p hp => ?_, fun e k hk => ?_⟩
  · show ((s.row ++ [(b, false)]).length : Int) ≤ n
    rw [List.length_append]
    show ((s.row.length + 1 : Nat) : Int) ≤ n
    omega
  · rw [hi] at hx
    show ∃ t, getA (putA s.looked b (i : Int)) x = some t ∧ t < ((i + 1 : Nat) : Int)
    rw [getA_putA]
    by_cases e : x = b
    · rw [if_pos e]; exact ⟨i, rfl, by omega⟩
    · rw [if_neg e]
      have hx' : x ∈ inside s.row := (List.mem_append.mp hx).resolve_right fun z => e (List.mem_singleton.mp z)
      obtain ⟨t, ht, hti⟩ := h.lks x hx'
      exact ⟨t, ht, by omega⟩
  · have := putA_len s.looked b (i : Int)
    have := h.ll
    show (putA s.looked b (i : Int)).length ≤ i + 1
    omega
  · show fs.row ++ [b] = inside (s.row ++ [(b, false)])
    rw [hi, h.rows e]
  · show (fs.row ++ [b]).Perm (inside (s.row ++ [(b, false)]))
    rw [hi]
    exact List.Perm.append_right _ (h.lru e).1
  · show (fs.row ++ [b]).Pairwise (fun x y => lk (putA s.looked b i) x < lk (putA s.looked b i) y)
    obtain ⟨p1, p2⟩ := h.lru e
    rw [List.pairwise_append]
    have hne : ∀ x ∈ fs.row, ¬ x = b := fun x hx z => hb (by rw [← z]; exact p1.subset hx)
    refine ⟨p2.imp_of_mem ?_, List.pairwise_singleton _ _, ?_⟩
    · intro x y hx hy hxy
      rw [lk_put, lk_put, if_neg (hne x hx), if_neg (hne y hy)]
      exact hxy
    · intro x hx y hy
      rw [List.mem_singleton.mp hy, lk_put, lk_put, if_neg (hne x hx), if_pos rfl]
      exact lk_lt h (p1.subset hx)
  · rcases List.mem_append.mp hp with hp | hp
    · exact h.mkd e p hp
    · rw [List.mem_singleton.mp hp]
      show false = (getA fs.marked b).isSome
      cases z : (getA fs.marked b).isSome with
      | false => rfl
      | true => exact absurd (h.mks e b z) hb
  · rw [hi]
    exact List.mem_append_left _ (h.mks e k hk)
def unm (row : LR) : LR := row.map fun p => (p.1, false)
theorem inside_unm (row : LR) : inside (unm row) = inside row := by unfold inside unm; rw [List.map_map]; rfl
/-- the clock turned over marked heads -/
theorem turn_marked : ∀ (A B C : LR) (mx : AL Unit) (m : Nat), (inside (A ++ B ++ C)).Nodup → (∀ p ∈ A ++ B, p.2 = (getA mx p.1).isSome) → (∀ p ∈ A, p.2 = true) → (∀ p ∈ C, (getA mx p.1).isSome = false) → (∀ k, (getA mx k).isSome = true → k ∈ inside (A ++ B)) → mx.length ≤ m →
    ∃ mx' m', turnC m (inside (A ++ B ++ C)) mx = turnC m' (inside (B ++ C ++ unm A)) mx' ∧ (∀ p ∈ B, p.2 = (getA mx' p.1).isSome) ∧ (∀ p ∈ C ++ unm A, (getA mx' p.1).isSome = false) ∧ (∀ k, (getA mx' k).isSome = true → k ∈ inside B) ∧ mx'.length ≤ m'
  | [], B, C, mx, m, nd, h1, _, h3, h4, hm => ⟨mx, m, by simp [unm], fun p hp => h1 p (by simpa using hp), fun p hp => h3 p (by simpa [unm] using hp), fun k hk => by simpa using h4 k hk, hm⟩
  | a :: A, B, C, mx, m, nd, h1, h2, h3, h4, hm => by
    have ha : (getA mx a.1).isSome = true := by rw [← h1 a (by simp)]; exact h2 a (by simp)
    have hlt := getA_some_len ha
    obtain ⟨m0, rfl⟩ : ∃ m0, m = m0 + 1 := ⟨m - 1, by omega⟩
    have hin : inside (a :: A ++ B ++ C) = a.1 :: inside (A ++ B ++ C) := rfl
    rw [hin] at nd
    obtain ⟨n1, n2⟩ := List.nodup_cons.mp nd
    have hstep : turnC (m0 + 1) (inside (a :: A ++ B ++ C)) mx = turnC m0 (inside (A ++ B ++ (C ++ [(a.1, false)]))) (dropA mx a.1) := by
      rw [hin]
      conv => lhs; unfold turnC
      rw [if_pos ha]
      congr 1
      unfold inside
      simp
    have hne : ∀ p ∈ A ++ B ++ C, ¬ p.1 = a.1 := fun p hp z => n1 (by rw [← z]; exact inside_mem hp)
    obtain ⟨mx', m', e1, e2, e3, e4, e5⟩ := turn_marked A B (C ++ [(a.1, false)]) (dropA mx a.1) m0 (by
        have : inside (A ++ B ++ (C ++ [(a.1, false)])) = inside (A ++ B ++ C) ++ [a.1] := by unfold inside; simp
        rw [this]
        exact nodup_snoc n2 n1)
      (fun p hp => by
        rw [getA_dropA, if_neg (hne p (by simp at hp ⊢; rcases hp with h | h <;> simp [h]))]
        exact h1 p (by simp at hp ⊢; rcases hp with h | h <;> simp [h]))
      (fun p hp => h2 p (List.mem_cons_of_mem _ hp))
      (fun p hp => by
        rw [getA_dropA]
        by_cases z : p.1 = a.1
        · rw [if_pos z]; rfl
        · rw [if_neg z]
          rcases List.mem_append.mp hp with hp | hp
          · exact h3 p hp
          · rw [List.mem_singleton.mp hp] at z; exact absurd rfl z)
      (fun k hk => by
        rw [getA_dropA] at hk
        by_cases z : k = a.1
        · rw [if_pos z] at hk; cases hk
        · rw [if_neg z] at hk
          have := h4 k hk
          have hin2 : inside (a :: A ++ B) = a.1 :: inside (A ++ B) := rfl
          rw [hin2] at this
          exact (List.mem_cons.mp this).resolve_left z)
      (by omega)
    refine ⟨mx', m', ?_, e2, fun p hp => e3 p ?_, e4, e5⟩
    · rw [hstep, e1]
      congr 1
      unfold inside unm
      simp
    · simp [unm] at hp ⊢
      rcases hp with h | h | h
      · exact .inl h
      · exact .inr (.inl h)
      · exact .inr (.inr h)
theorem turn_stop {m : Nat} {b : Int} {row : List Int} {mk : AL Unit} (h : (getA mk b).isSome = false) : turnC m (b :: row) mk = (b :: row, mk) := by
  cases m with
  | zero => rfl
  | succ m =>
    unfold turnC
    rw [if_neg (by rw [h]; simp)]
theorem first_split {row : LR} {y : Int} (hf : firstUn row = some y) : ∃ A B m, row = A ++ (y, m) :: B ∧ (∀ p ∈ A, p.2 = true) ∧ m = false := by
  induction row with
  | nil => cases hf
  | cons p row ih =>
    obtain ⟨b, m⟩ := p
    cases m with
    | false =>
      have : some b = some y := hf
      cases this
      exact ⟨[], row, false, rfl, (fun _ h => nomatch h), rfl⟩
    | true =>
      have hf' : firstUn row = some y := hf
      obtain ⟨A, B, m, e1, e2, e3⟩ := ih hf'
      refine ⟨(b, true) :: A, B, m, by rw [e1]; rfl, fun p hp => ?_, e3⟩
      rcases List.mem_cons.mp hp with rfl | hp
      · rfl
      · exact e2 p hp
/-- the clock: its hand stands where the law's row begins, the marks agree -/
theorem clock_turn {row : LR} {mk : AL Unit} {x : Int} (hne : row ≠ []) (nd : (inside row).Nodup) (h1 : ∀ p ∈ row, p.2 = (getA mk p.1).isSome) (h4 : ∀ k, (getA mk k).isSome = true → k ∈ inside row)
    (hx : match firstUn row with | some y => x = y | none => (inside row).head? = some x) :
    ∃ rest mk', turnC mk.length (inside row) mk = (inside (turnedR row x), mk') ∧ inside (turnedR row x) = x :: rest ∧ (∀ p ∈ turnedR row x, p.2 = (getA mk' p.1).isSome) ∧ (getA mk' x).isSome = false ∧ (∀ k, (getA mk' k).isSome = true → k ∈ inside row) := by
  cases hf : firstUn row with
  | none =>
    rw [hf] at hx
    have hall : ∀ p ∈ row, p.2 = true := fun p hp => by
      unfold firstUn at hf
      have hnil : row.filter (fun p => !p.2) = [] := by
        cases q : row.filter (fun p => !p.2) with
        | nil => rfl
        | cons a r => rw [q] at hf; cases hf
      have := List.filter_eq_nil_iff.mp hnil p hp
      simpa using this
    have htr : turnedR row x = unm row := by
      unfold turnedR
      rw [if_pos]
      · rfl
      · rw [List.filter_eq_self.mpr hall]
    obtain ⟨mk', m', e1, _, e3, e4, _⟩ := turn_marked row [] [] mk mk.length (by simpa using nd) (fun p hp => h1 p (by simpa using hp)) hall (fun _ h => nomatch h) (fun k hk => by simpa using h4 k hk) (Nat.le_refl _)
    have hno : ∀ k, (getA mk' k).isSome = false := fun k => by
      cases z : (getA mk' k).isSome with
      | false => rfl
      | true => have := e4 k z; cases this
    obtain ⟨a, r, rfl⟩ : ∃ a r, row = a :: r := by
      cases row with
      | nil => exact absurd rfl hne
      | cons a r => exact ⟨a, r, rfl⟩
    have hxa : a.1 = x := by
      have : some a.1 = some x := hx
      exact Option.some.inj this
    refine ⟨inside r, mk', ?_, ?_, fun p hp => ?_, hno x, fun k hk => by rw [hno k] at hk; cases hk⟩
    · simp only [List.append_nil, List.nil_append] at e1
      rw [e1, htr]
      have e9 : inside (unm (a :: r)) = a.1 :: inside r := by rw [inside_unm]; rfl
      rw [e9]
      exact turn_stop (hno _)
    · rw [htr, inside_unm, ← hxa]; rfl
    · rw [htr] at hp
      obtain ⟨q, hq, rfl⟩ := List.mem_map.mp hp
      rw [hno]
  | some y =>
    rw [hf] at hx
    have hxy : x = y := hx
    subst hxy
    obtain ⟨A, B, m, rfl, hA, hm⟩ : ∃ A B m, row = A ++ (x, m) :: B ∧ (∀ p ∈ A, p.2 = true) ∧ m = false := first_split hf
    subst hm
    have hnx : x ∉ inside A := fun z => by
      rw [inside_app] at nd
      have := (List.nodup_append.mp nd).2.2 x z x (by show x ∈ x :: inside B; simp)
      exact this rfl
    have hat : atOf (A ++ (x, false) :: B) x = A.length := by
      unfold atOf
      rw [inside_app]
      show (inside A ++ x :: inside B).findIdx (· == x) = _
      rw [List.findIdx_append]
      have hn : (inside A).findIdx (· == x) = (inside A).length := List.findIdx_eq_length.mpr fun y hy => beq_eq_false_iff_ne.mpr fun z => hnx (by rw [← z]; exact hy)
      rw [hn, if_neg (Nat.lt_irrefl _), List.findIdx_cons]
      simp [inside_len]
    have hnf : ¬ ((A ++ (x, false) :: B).filter (·.2)).length = (A ++ (x, false) :: B).length := fun z => by
      have := List.length_filter_eq_length_iff.mp z (x, false) (by simp)
      cases this
    have htr : turnedR (A ++ (x, false) :: B) x = ((x, false) :: B) ++ unm A := by
      unfold turnedR
      rw [if_neg hnf, hat]
      simp [unm]
    obtain ⟨mk', m', e1, e2, e3, e4, _⟩ := turn_marked A ((x, false) :: B) [] mk mk.length (by simpa using nd) (fun p hp => h1 p hp) hA (fun _ h => nomatch h) h4 (Nat.le_refl _)
    have hxm : (getA mk' x).isSome = false := (e2 (x, false) (by simp)).symm
    refine ⟨inside (B ++ unm A), mk', ?_, ?_, fun p hp => ?_, hxm, fun k hk => ?_⟩
    · simp only [List.append_nil] at e1
      rw [e1, htr]
      show turnC m' (x :: inside (B ++ unm A)) mk' = (x :: inside (B ++ unm A), mk')
      exact turn_stop hxm
    · rw [htr]; rfl
    · rw [htr] at hp
      rcases List.mem_append.mp hp with hp | hp
      · exact e2 p hp
      · rw [e3 p (by simpa using hp)]
        obtain ⟨q, _, rfl⟩ := List.mem_map.mp hp
        rfl
    · have := e4 k hk
      rw [inside_app]
      exact List.mem_append_right _ this
end Lw
namespace Lw
open PySem PySem.Spec PyProof.Rows L2 DL Bo Fr
theorem sortI_perm_eq {l m : List Int} (h : l.Perm m) : sortI l = sortI m := sortI_uniq ((sortI_perm l).trans h) (sortI_sorted l)
theorem outR_mem {n : Int} {R : Rule} {i : Nat} {s : LS} {fs : FSt} (h : Rel n R i s fs) {looked : AL Int} (hfull : (s.row.length : Int) = n) {x : Int} (hx : OutR s.row looked n R s.gone x) : x ∈ inside s.row := by
  have n1 := h.n1
  have head : (inside s.row).head? = some x → x ∈ inside s.row := fun z => List.mem_of_mem_head? (by rw [z]; rfl)
  cases R with
  | first => exact head hx
  | longest => exact hx.1
  | clock =>
    have hx' : (match firstUn s.row with | some y => x = y | none => (inside s.row).head? = some x) := hx
    cases q : firstUn s.row with
    | none => rw [q] at hx'; exact head hx'
    | some y =>
      rw [q] at hx'
      have hxy : x = y := hx'
      subst hxy
      obtain ⟨A, B, m, e, _, _⟩ := first_split q
      rw [e, inside_app]
      exact List.mem_append_right _ (by show x ∈ x :: inside B; simp)
  | told cs =>
    have hx' : x = ((sortI (inside s.row))[(((cs[s.gone]?).getD 0) % n).toNat]?).getD 0 := hx
    have hm1 := Int.emod_nonneg ((cs[s.gone]?).getD 0) (show n ≠ 0 by omega)
    have hm2 := Int.emod_lt_of_pos ((cs[s.gone]?).getD 0) (show 0 < n by omega)
    have hl2 : (sortI (inside s.row)).length = s.row.length := by rw [(sortI_perm _).length_eq, inside_len]
    have hj : (((cs[s.gone]?).getD 0) % n).toNat < (sortI (inside s.row)).length := by omega
    rw [hx', List.getElem?_eq_getElem hj]
    exact (sortI_perm _).subset (List.getElem_mem hj)
theorem erase_head {x : Int} {r : List Int} (nd : (x :: r).Nodup) : ((x :: r).filter fun y => !decide (y = x)) = r := by
  rw [← erase_filter nd]; simp
theorem len_of_inside {row row' : LR} (h : (inside row').length + 1 = (inside row).length) : row'.length + 1 = row.length := by rw [inside_len, inside_len] at h; exact h
/-- one is put out of a full row -/
theorem Rel.out {n : Int} {R : Rule} {i : Nat} {s : LS} {fs : FSt} (h : Rel n R i s fs) {looked : AL Int} (hlk : ∀ a ∈ inside s.row, lk looked a = lk s.looked a) (hfull : (s.row.length : Int) = n) {x : Int} (hx : OutR s.row looked n R s.gone x) :
    Rel n R i { s with row := others (if R.isClock then turnedR s.row x else s.row) x, gone := s.gone + 1 } (putOutF fs) ∧ (others (if R.isClock then turnedR s.row x else s.row) x).length + 1 = s.row.length ∧ ∀ b, b ∉ inside s.row → b ∉ inside (others (if R.isClock then turnedR s.row x else s.row) x) := by
  have n1 := h.n1
  have hxm := outR_mem h hfull hx
  have hfl : (fs.row.length : Int) = fs.places := by rw [h.rlen, h.fp]; exact hfull
  obtain ⟨_, _, _, q4, q5, q6, q7⟩ := putOut_facts (st := fs) (by rw [h.fp]; exact n1) hfl
  have base : ∀ (row' : LR), (inside row').Perm (inside s.row) → inside (others row' x) = (inside row').filter (fun y => !decide (y = x)) ∧ (others row' x).length + 1 = s.row.length ∧ (∀ b, b ∉ inside s.row → b ∉ inside (others row' x)) ∧ (inside (others row' x)).Nodup ∧ (∀ y ∈ inside (others row' x), y ∈ inside s.row) := fun row' hp => by
    have nd' := hp.symm.nodup_iff.mp h.nd
    have e := inside_others row' x
    have hsub : ∀ y ∈ inside (others row' x), y ∈ inside s.row := fun y hy => by rw [e] at hy; exact hp.subset (List.mem_filter.mp hy).1
    refine ⟨e, ?_, fun b hb z => hb (hsub b z), by rw [e]; exact nd'.filter _, hsub⟩
    apply len_of_inside
    rw [e, ← erase_filter nd', List.length_erase_of_mem (hp.symm.subset hxm), hp.length_eq]
    have := List.length_pos_of_mem hxm
    omega
  have lks' : ∀ (row' : LR), (∀ y ∈ inside row', y ∈ inside s.row) → ∀ b ∈ inside row', ∃ t, getA s.looked b = some t ∧ t < (i : Int) := fun row' hs b hb => h.lks b (hs b hb)
  have hfr := h.fr
  cases R with
  | first =>
    obtain ⟨b1, b2, b3, b4, b5⟩ := base s.row (.refl _)
    refine ⟨⟨n1, by rw [q6]; exact h.fm, by rw [q7, h.fl], by rw [q4]; exact h.fp, by rw [q5]; exact h.fr, b4, ?_, lks' _ b5, h.ll, fun _ => ?_, (fun e => nomatch e), (fun e => nomatch e), (fun e => nomatch e)⟩, b2, b3⟩
    · show ((others s.row x).length : Int) ≤ n
      omega
    · show (putOutF fs).row = inside (others s.row x)
      have e1 : (putOutF fs).row = fs.row.drop 1 := by simp [putOutF, hfr, Rule.isClock, Rule.isStr]
      have hh : (inside s.row).head? = some x := hx
      rw [e1, h.rows rfl, b1]
      cases q : inside s.row with
      | nil => rw [q] at hh; cases hh
      | cons a r =>
        rw [q] at hh
        obtain rfl : a = x := Option.some.inj hh
        have nd := h.nd
        rw [q] at nd
        rw [erase_head nd]; rfl
  | longest =>
    obtain ⟨b1, b2, b3, b4, b5⟩ := base s.row (.refl _)
    obtain ⟨p1, p2⟩ := h.lru rfl
    have e1 : (putOutF fs).row = fs.row.drop 1 := by simp [putOutF, hfr, Rule.isClock, Rule.isStr]
    have hnd : fs.row.Nodup := p1.symm.nodup_iff.mp h.nd
    obtain ⟨y, r, hyr⟩ : ∃ y r, fs.row = y :: r := by
      cases q : fs.row with
      | nil => rw [q] at p1; have := p1.symm.subset hxm; cases this
      | cons y r => exact ⟨y, r, rfl⟩
    have hyx : y = x := by
      have hy : y ∈ inside s.row := p1.subset (by rw [hyr]; simp)
      have h1 := hx.2 y hy
      rw [hlk x hxm, hlk y hy] at h1
      have hxf := p1.symm.subset hxm
      rw [hyr] at hxf p2
      rcases List.mem_cons.mp hxf with e | hxr
      · exact e.symm
      · have := (List.pairwise_cons.mp p2).1 x hxr
        omega
    subst hyx
    refine ⟨⟨n1, by rw [q6]; exact h.fm, by rw [q7, h.fl], by rw [q4]; exact h.fp, by rw [q5]; exact h.fr, b4, ?_, lks' _ b5, h.ll, (fun e => nomatch e), fun _ => ⟨?_, ?_⟩, (fun e => nomatch e), (fun e => nomatch e)⟩, b2, b3⟩
    · show ((others s.row y).length : Int) ≤ n
      omega
    · show ((putOutF fs).row).Perm (inside (others s.row y))
      rw [e1, b1, ← erase_filter h.nd, hyr]
      have := p1.erase y
      rw [hyr] at this
      simpa using this
    · show ((putOutF fs).row).Pairwise _
      rw [e1]
      exact p2.sublist (List.drop_sublist _ _)
  | told cs =>
    obtain ⟨b1, b2, b3, b4, b5⟩ := base s.row (.refl _)
    have e1 : (putOutF fs).row = fs.row.erase (chosenF fs) := by simp [putOutF, hfr, Rule.isClock, Rule.isStr]
    have e2 : chosenF fs = x := by
      have hx' : x = ((sortI (inside s.row))[(((cs[s.gone]?).getD 0) % n).toNat]?).getD 0 := hx
      unfold chosenF choiceF
      rw [hfr, h.rows rfl, h.fp, h.fl, hx']
    refine ⟨⟨n1, by rw [q6]; exact h.fm, by rw [q7, h.fl], by rw [q4]; exact h.fp, by rw [q5]; exact h.fr, b4, ?_, lks' _ b5, h.ll, fun _ => ?_, (fun e => nomatch e), (fun e => nomatch e), (fun e => nomatch e)⟩, b2, b3⟩
    · show ((others s.row x).length : Int) ≤ n
      omega
    · show (putOutF fs).row = inside (others s.row x)
      rw [e1, e2, h.rows rfl, b1, erase_filter h.nd]
  | clock =>
    have hne : s.row ≠ [] := fun z => by rw [z] at hxm; cases hxm
    obtain ⟨rest, mk', c1, c2, c3, c4, c5⟩ := clock_turn (mk := fs.marked) hne h.nd (h.mkd rfl) (h.mks rfl) hx
    have hperm : (inside (turnedR s.row x)).Perm (inside s.row) := by
      have := turnC_perm fs.marked.length (inside s.row) fs.marked
      rw [c1] at this
      exact this
    obtain ⟨b1, b2, b3, b4, b5⟩ := base (turnedR s.row x) hperm
    have e1 : (putOutF fs).row = (inside (turnedR s.row x)).drop 1 ∧ (putOutF fs).marked = mk' := by
      have e0 : turnC fs.marked.length fs.row fs.marked = (inside (turnedR s.row x), mk') := by rw [h.rows rfl]; exact c1
      constructor
      · simp [putOutF, hfr, Rule.isClock, Rule.isStr, e0]
      · simp [putOutF, hfr, Rule.isClock, Rule.isStr, e0]
    have nd' := hperm.symm.nodup_iff.mp h.nd
    refine ⟨⟨n1, by rw [q6]; exact h.fm, by rw [q7, h.fl], by rw [q4]; exact h.fp, by rw [q5]; exact h.fr, b4, ?_, lks' _ b5, h.ll, fun _ => ?_, (fun e => nomatch e), fun _ p hp => ?_, fun _ k hk => ?_⟩, b2, b3⟩
    · show ((others (turnedR s.row x) x).length : Int) ≤ n
      have b2' : (others (turnedR s.row x) x).length + 1 = s.row.length := b2
      omega
    · show (putOutF fs).row = inside (others (turnedR s.row x) x)
      rw [e1.1, b1, c2]
      rw [c2] at nd'
      rw [erase_head nd']; rfl
    · have hp' : p ∈ others (turnedR s.row x) x := hp
      rw [e1.2]
      exact c3 p (List.mem_filter.mp hp').1
    · have hk' : (getA (putOutF fs).marked k).isSome = true := hk
      rw [e1.2] at hk'
      show k ∈ inside (others (turnedR s.row x) x)
      rw [b1]
      refine List.mem_filter.mpr ⟨hperm.symm.subset (c5 k hk'), ?_⟩
      have : k ≠ x := fun z => by rw [z, c4] at hk'; cases hk'
      simp [this]
end Lw
namespace S
open PySem PySem.Spec PyProof.Rows L2 DL
theorem iEnumL {K : PySem.W.Frag} {ta : TA} {σ : L2.St} {H : Hp} {R : It → Hp → Prop} (q : ta σ H fun vs H1 => ∃ a xs, vs = [.ref a] ∧ SqL K H1 a xs ∧ R (Ite K a) H1) : L2.iEnum K ta σ H R := q
end S
namespace Lw
open PySem PySem.Spec PyProof.Rows L2 DL Bo Fr
theorem lc_keepR {K : PySem.W.Frag} {F H : Hp} {v : V} {row : LR} {c : Int × Bool → Bool} {i j : Nat} {tt : TT} {vs : List Nat} {σ : L2.St} {Q : VK} (sm : Same F H) (hv : Dp K F v (.list (rowsD row))) (hl : row.length ≤ 1000)
    (hj : σ[j]? = some (some v)) (hi : ∀ x : V, ((wipe σ vs).set i (some x))[i]? = some (some x)) (hw : ∀ x : V, wipe ((wipe σ vs).set i (some x)) vs = wipe σ vs)
    (ht : ∀ (x : V) (p : Int × Bool) (F' H' : Hp) (QT : Bool → Hp → Prop), Dp K F' x (ownD p) → Same F' H' → QT (c p) H' → tt ((wipe σ vs).set i (some x)) H' QT)
    (k : ∀ D ys F' H', Gr [] F H F' H' → H D = none → F' D = some (.lst ys) → DpAll K F' ys (rowsD (row.filter c)) → Q (.ref D) H') :
    tLc (iSeq K (tVar j)) (gName i) tt (tVar i) vs σ H Q := by
  obtain ⟨va, xs, rfl, hva, hds⟩ := dp_list hv
  refine S.lcS (S.iSeqL (S.var hj ?_))
  refine lc_data (K := K) (keep := fun d => c (ownB d, ownM d)) (f := id) sm (same_lst sm hva) hds (by unfold rowsD; rw [List.length_map]; omega) ?_ ?_
  · intro x d F' H' A B hd hx g kF kT
    obtain ⟨p, _, rfl⟩ := own_of hd
    refine S.name ⟨hw x, ht x p F' H' _ hx g.sub ?_⟩
    have e : c (ownB (ownD p), ownM (ownD p)) = c p := rfl
    rw [e] at kF kT
    refine S.ite (fun e => ?_) (fun e => ?_)
    · exact S.var (hi x) (kT e x F' H' (Gr.refl g.sub) hx)
    · exact kF e F' H' (Gr.refl g.sub)
  · intro D ys F' H' g hD fD hDD hys
    have e : ((rowsD row).filter fun d => c (ownB d, ownM d)).map id = rowsD (row.filter c) := by
      rw [List.map_id, rowsD_filter]; rfl
    rw [e] at hys
    exact k D ys _ H' (g.frz hD fD hDD) hD upd_same (dp_same_upd fD hys)
def spLawMisses (K : PySem.W.Frag) : Sp := fun vs H Q _ => ∃ (F : Hp) (v u : V) (es : List Ev) (n : Int) (R : Rule), vs = [v, .int n, u] ∧ Same F H ∧ Dp K F v (.list (es.map evD)) ∧ 1 ≤ n ∧ n ≤ 16 ∧ Dp K F u (ruleD R) ∧ es.length ≤ 200000 ∧
  ∀ w F' H', Gr [] F H F' H' → Dp K F' w (.tuple [.int (runF (fst0 n R) es).missed, .tuple ((sortI (runF (fst0 n R) es).row).map .int)]) → Q w H'
structure MCore (K : PySem.W.Frag) (F H : Hp) (lka : Addr) (n : Int) (R : Rule) (i : Nat) (s : LS) (fs : FSt) (F' H' : Hp) (ra : Addr) (rxs : List V) : Prop where
  g : Gr [] F H F' H'
  fr : F' ra = some (.lst rxs)
  dx : DpAll K F' rxs (rowsD s.row)
  fk : F' lka = none
  hk : H' lka = some (.dK (kM V.int s.looked))
  rel : Rel n R i s fs
theorem MCore.dp {K : PySem.W.Frag} {F H : Hp} {lka : Addr} {n : Int} {R : Rule} {i : Nat} {s : LS} {fs : FSt} {F' H' : Hp} {ra : Addr} {rxs : List V} (c : MCore K F H lka n R i s fs F' H' ra rxs) : Dp K F' (.ref ra) (.list (rowsD s.row)) := .lst (.inl (.inl c.fr)) c.dx
def MInv (K : PySem.W.Frag) (F H : Hp) (v u : V) (lka : Addr) (n : Int) (R : Rule) (es : List Ev) (i : Nat) (σ : L2.St) (H' : Hp) : Prop := ∃ F' s ra rxs o7 o8 o9 o10 o11 o12, MCore K F H lka n R i s (runF (fst0 n R) (es.take i)) F' H' ra rxs ∧
  σ = [some v, some (V.int n), some u, some (V.ref ra), some (V.ref lka), some (V.int s.missed), some (V.int (s.gone : Int)), o7, o8, o9, o10, o11, o12]
end Lw
namespace Lw
open PySem PySem.Spec PyProof.Rows L2 DL Bo Fr
/-- ahead of the new body's coming into the row -/
def MMid (K : PySem.W.Frag) (F H : Hp) (v u : V) (lka : Addr) (n : Int) (R : Rule) (s : LS) (fs : FSt) (b : Int) (w : Str) (yv : V) (i : Nat) (σ : L2.St) (H' : Hp) : Prop := ∃ F8 row2 ra2 rxs2 gone2 fs2 o11 o12, Gr [] F H F8 H' ∧ F8 ra2 = some (.lst rxs2) ∧ DpAll K F8 rxs2 (rowsD row2) ∧ F8 lka = none ∧
  H' lka = some (.dK (kM V.int (putA s.looked b i))) ∧ Rel n R i { s with row := row2, gone := gone2 } fs2 ∧ comeF fs (.look b) = { fs2 with row := fs2.row ++ [b], missed := fs2.missed + 1 } ∧ b ∉ inside row2 ∧ (row2.length : Int) < n ∧
  σ = [some v, some (V.int n), some u, some (V.ref ra2), some (V.ref lka), some (V.int (s.missed + 1)), some (V.int (gone2 : Int)), some (V.int (i : Nat)), some yv, some (V.str w), some (V.int b), o11, o12]
/-- ahead of the filter of the one put out -/
def MOut (K : PySem.W.Frag) (F H : Hp) (v u : V) (lka : Addr) (n : Int) (R : Rule) (s : LS) (b x : Int) (w : Str) (yv : V) (i : Nat) (σ : L2.St) (H' : Hp) : Prop := ∃ F9 rw o12, Gr [] F H F9 H' ∧ Dp K F9 rw (.list (rowsD (if R.isClock then turnedR s.row x else s.row))) ∧ F9 lka = none ∧
  H' lka = some (.dK (kM V.int (putA s.looked b i))) ∧
  σ = [some v, some (V.int n), some u, some rw, some (V.ref lka), some (V.int (s.missed + 1)), some (V.int (s.gone : Int)), some (V.int (i : Nat)), some yv, some (V.str w), some (V.int b), some (V.int x), o12]
theorem come_new {n : Int} {R : Rule} {i : Nat} {s : LS} {fs : FSt} (h : Rel n R i s fs) {b : Int} (hb : b ∉ inside s.row) :
    comeF fs (.look b) = { (if (s.row.length : Int) = n then putOutF fs else fs) with row := (if (s.row.length : Int) = n then putOutF fs else fs).row ++ [b], missed := (if (s.row.length : Int) = n then putOutF fs else fs).missed + 1 } := by
  show (if b ∈ fs.row then lookF fs b else _) = _
  rw [if_neg fun z => hb (h.perm.subset z)]
  have e : ((fs.row.length : Int) = fs.places) = ((s.row.length : Int) = n) := by rw [h.rlen, h.fp]
  simp only [e]
theorem come_seen {n : Int} {R : Rule} {i : Nat} {s : LS} {fs : FSt} (h : Rel n R i s fs) {b : Int} (hb : b ∈ inside s.row) : comeF fs (.look b) = lookF fs b := by
  show (if b ∈ fs.row then lookF fs b else _) = _
  rw [if_pos (h.perm.symm.subset hb)]
theorem turned_len (row : LR) (x : Int) : (turnedR row x).length = row.length := by
  unfold turnedR
  by_cases e : (row.filter (·.2)).length = row.length
  · rw [if_pos e, List.length_map]
  · rw [if_neg e, List.length_append, List.length_map, List.length_drop, List.length_take]; omega
end Lw
namespace Lw
open PySem PySem.Spec PyProof.Rows L2 DL Bo Fr
def spRules (K : PySem.W.Frag) : Sp := fun vs H Q _ => ∃ (F : Hp) (q : Addr) (m : Nat), vs = [.ref q] ∧ Same F H ∧ F q = none ∧ DkAt H q m ∧ m ≤ 10000 ∧
  ∀ cs v F' H', Gr [q] F H F' H' → DkAt H' q (m + 40) → cs.length ≤ 30 → (∀ c ∈ cs, 0 ≤ c ∧ c ≤ 15) → Dp K F' v (.list ([Rule.first, .longest, .clock, .told cs].map ruleD)) → Q v H'
end Lw
namespace DL
open PySem PySem.Spec PyProof.Rows L2
structure KCal (P : Program) (w : World) (K : PySem.W.Frag) (mg : Str → Option Value) (base : Heap) (CX : CXT) (k : Nat) (x : Str) (ps ks : List Str) (g : List Value → List Value → List Value) (gV : List V → List V → List V) (sp : Sp) : Prop where
  ex : ∃ (f : Addr) (fd : FuncData), FnOk P w K mg base CX k f fd ps sp ∧ mg x = some (.ref f) ∧ PySem.W.keepIn K (.ref f) = true ∧ KBinds K fd ps ks g gV
theorem pe_kcal0 {X : Cx} {k : Nat} {x : Str} {ps ks : List Str} {g : List Value → List Value → List Value} {gV : List V → List V → List V} {sp : Sp} {CX : CXT} {E : XK} {kws : List Keyword} {tk : TA} {p pos : Pos} (c : KCal X.prog X.w X.K X.mg X.base CX k x ps ks g gV sp) (hr : Room k X.A) (hx : Passes CX X E)
    (hkw : PK X kws tk) (hg : Gl X x := by rfl) (hall : (backToKw pos (keywordEach kws X.env)).all (·.1.isSome) = true := by rfl) (hks : (backToKw pos (keywordEach kws X.env)).filterMap (·.1) = ks := by rfl)
    (hdb : (x == ("__debug__" : Str)) = false := by decide)
    (hpl : ((backTo pos (starEach [] X.env)).any (·.1) || (backToKw pos (keywordEach kws X.env)).any (·.1.isNone)) = false := by rfl) :
    PE X (.Call (.Name x p) [] kws pos) (tCallK sp gV E tNil tk) := by
  obtain ⟨f, fd, F, m, kp, b⟩ := c.ex
  refine ⟨fun pins s σ H Q I h => ?_⟩
  refine wpAny_Call_Name_kw (ld_glob I hg m ?_ hdb)
  refine PySem.W.callWith_KW0 (h₀ := X.base) I.ok.mod.kin kp hall (thn (hkw.run pos pins s σ H _ I h) fun ws s2 ⟨zs, H2, I2, rz, q2⟩ => ⟨I2.kIn, ?_⟩) hpl
  rw [hks]
  exact run_fnk F hr b hx I2 .nil rz q2
/-- three keywords, from the last to the first -/
def rev3 {α : Type} : List α → List α → List α
  | [], [a, b, c] => [c, b, a]
  | _, _ => []
theorem rev3_rel {vs : List V} {us : List Value} {zs : List V} {ws : List Value} (h : Vals vs us) (h2 : Vals zs ws) : Vals (rev3 vs zs) (rev3 us ws) := by
  cases h with
  | cons _ _ => exact .nil
  | nil =>
    cases h2 with
    | nil => exact .nil
    | cons r1 t =>
      cases t with
      | nil => exact .nil
      | cons r2 t =>
        cases t with
        | nil => exact .nil
        | cons r3 t =>
          cases t with
          | nil => exact .cons r3 (.cons r2 (.cons r1 .nil))
          | cons _ _ => exact .nil
end DL
namespace Lw
open PySem PySem.Spec PyProof.Rows L2 DL Bo Fr
def spLawK03 (K : PySem.W.Frag) : Sp := fun vs H Q _ => ∃ (a : Addr) (ns : List Int), vs = [.ref a] ∧ SqL K H a (ns.map V.int) ∧ ns.length ≤ 63 ∧ ∀ H', Q (.bl true) H'
theorem sql_same {K : PySem.W.Frag} {F H F' H' : Hp} (g : Gr [] F H F' H') {a : Addr} {xs : List V} (h : SqL K H a xs) : SqL K H' a xs := sql_gr g (by simp) h
theorem same_0 {P : Program} {w : World} {K : PySem.W.Frag} {mg : Str → Option Value} {base : Heap} {x : Str} {ps : List Str} {f : Addr} {fd : FuncData} (hm : mg x = some (.ref f)) (hk : PySem.W.keepIn K (.ref f) = true) (hb : Binds K fd ps []) : Cal P w K mg base CX0 0 x ps (spSame K 0) :=
  ⟨f, fd, ⟨fun vs H Q E h => by obtain ⟨F, v, u, d, _, _, _, _, h0, _⟩ := h; omega, fun A outer s H args us vs Q E _ _ _ _ h => by obtain ⟨F, v, u, d, _, _, _, _, h0, _⟩ := h; omega⟩, hm, hk, hb⟩
end Lw
namespace S
open PySem PySem.Spec PyProof.Rows L2 DL
theorem callK {sp : Sp} {gV : List V → List V → List V} {E : XK} {tr tk : TA} {σ : L2.St} {H : Hp} {Q : VK} (q : tr σ H fun vs H1 => tk σ H1 fun zs H2 => sp (gV vs zs) H2 Q E) : tCallK sp gV E tr tk σ H Q := q
end S
namespace Lw
open PySem PySem.Spec PyProof.Rows L2 DL Bo Fr
/-- what both tell -/
def toldD (n : Int) (R : Rule) (es : List Ev) : PyData := .tuple [.int (runF (fst0 n R) es).missed, .tuple ((sortI (runF (fst0 n R) es).row).map .int)]
theorem told_len {n : Int} (h1 : 1 ≤ n) (h2 : n ≤ 16) (R : Rule) (es : List Ev) : (sortI (runF (fst0 n R) es).row).length ≤ 16 := by
  have h := runF_ok h1 h2 R es es.length (Nat.le_refl _)
  rw [List.take_length] at h
  have a := h.rl
  have b := h.p2
  rw [(sortI_perm _).length_eq]
  omega
theorem told_depth (n : Int) (R : Rule) (es : List Ev) : (toldD n R es).depth < 3 := by
  simp [toldD, PyData.depth, PyData.depthAll, PySem.W.ke_depthAll]
theorem told_wid {n : Int} (h1 : 1 ≤ n) (h2 : n ≤ 16) (R : Rule) (es : List Ev) : wid (toldD n R es) = true := by
  have := told_len h1 h2 R es
  simp [toldD, wid, widAll, wid_ints]
  omega
theorem rules_ok {cs : List Int} (h1 : cs.length ≤ 30) (h2 : ∀ c ∈ cs, 0 ≤ c ∧ c ≤ 15) {d : PyData} (hd : d ∈ [Rule.first, .longest, .clock, .told cs].map ruleD) : ∃ R, d = ruleD R ∧ ruleOk R := by
  simp only [List.map_cons, List.map_nil, List.mem_cons, List.not_mem_nil, or_false] at hd
  rcases hd with rfl | rfl | rfl | rfl
  · exact ⟨_, rfl, trivial⟩
  · exact ⟨_, rfl, trivial⟩
  · exact ⟨_, rfl, trivial⟩
  · exact ⟨_, rfl, by omega, h2⟩
theorem ev_len {ds : List Deed} (ok : okAll st0 ds = true) (hl : ds.length ≤ 100) : (runAll ([], st0) ds).1.length ≤ 200000 := by
  have h := (run_ok ok ds.length (Nat.le_refl _)).2
  rw [List.take_length] at h
  have : ds.length * (ds.length + 2) ≤ 100 * 102 := Nat.mul_le_mul hl (by omega)
  omega
theorem lim3 (L : Int) : 1 ≤ (if (if L < 3 then L else 3) > 1 then (if L < 3 then L else 3) else (1 : Int)) ∧ (if (if L < 3 then L else 3) > 1 then (if L < 3 then L else 3) else (1 : Int)) ≤ 3 := by
  by_cases h1 : L < 3
  · rw [if_pos h1]
    by_cases h2 : L > 1
    · rw [if_pos h2]; omega
    · rw [if_neg h2]; omega
  · rw [if_neg h1, if_pos (by decide)]; omega
end Lw

/-! rules that the layer lacks: sorted(d.items()) of a dict of ints by ints; a comprehension while any number of things are locked -/
namespace DL
open PySem PySem.Spec PyProof.Rows L2
/-- sorted of an items view, keys and values ints: a new list of new pairs, sorted -/
def rSortedIV : List V → Hp → VK → Prop := fun xs H Q => ∃ (v d : Addr) (sh : List (Int × Int)), xs = [.ref v] ∧ H v = some (.ext fun h => h.IsItemsView v d) ∧ H d = some (.dK (sh.map fun p => ((Sum.inl p.1 : Key), V.int p.2))) ∧
    ∀ (H' : Hp) (p : Addr) (ys : List V) (k : V → Int × Int), Same H H' → H p = none → H' p = some (.lst ys) → (∀ y ∈ ys, ∃ t, y = V.ref t ∧ H t = none ∧ t ≠ p ∧ H' t = some (.tup [.int (k y).1, .int (k y).2])) →
      SrtO.Srtd (ltP k) ys → (ys.map k).Perm sh → ys.Nodup → Q (.ref p) H'
def tIView (te : TE) : TE := fun σ H Q => te σ H fun x H1 => ∃ (d : Addr) (kvs : List (Key × V)), x = .ref d ∧ H1 d = some (.dK kvs) ∧ ∀ v, H1 v = none → Q (.ref v) (upd H1 v (.ext fun h => h.IsItemsView v d))
def tSortedItems (te : TE) : TE := tCB rSortedIV (tCons (tIView te) tNil)
theorem pair_of {X : Cx} {pins : List (Addr × Obj)} {σ : L2.St} {H : Hp} {s : Shared} {t : Addr} {i j : Int} (I : Inv X pins σ H s) (h : H t = some (.tup [.int i, .int j])) : Srt.IsPair s.heap (.ref t) i j := by
  obtain ⟨_, its2, r2, o, ho, hc, n, hd⟩ := I.hok _ _ h
  obtain ⟨u1, u2, rfl, ri, rj⟩ := vals2 r2
  obtain ⟨t1, rfl⟩ := ri
  obtain ⟨t2, rfl⟩ := rj
  exact ⟨t, o, t1, t2, n, rfl, ho, hc, hd⟩
theorem paired_ix' {kvs : List (Key × V)} {vs : List (Key × Value)} (h : KV kvs vs) : ∀ {j : Nat} {k : Key} {x : Value}, vs[j]? = some (k, x) → ∃ q, kvs[j]? = some q ∧ q.1 = k ∧ RelV q.2 x := by
  induction h with
  | nil => intro j k x e; cases e
  | cons r t ih =>
    intro j k x e
    cases j with
    | zero =>
      cases e
      exact ⟨_, rfl, r.1, r.2⟩
    | succ j => exact ih e
def unV : V → Value
  | .ref a => .ref a
  | _ => .none
theorem pe_sortedItems {X : Cx} {e : Expr} {te : TE} {p apos cpos pos : Pos} (hc : X.calm = true) (he : PE X e te) (hg : Gl X "sorted") (hm : X.mg "sorted" = none) (hbase : attributeBase e "items" X.env (eval e X.env) = eval e X.env := by rfl) (hline : (apos.endLine == cpos.line) = true := by rfl)
    (hs : starEach [.Call (.Attribute e "items" apos) [] [] cpos] X.env = (false, eval (.Call (.Attribute e "items" apos) [] [] cpos) X.env) :: starEach [] X.env := by rfl) (hpl : (backTo pos (starEach [] X.env)).any (·.1) = false := by rfl) :
    PE X (.Call (.Name "sorted" p) [.Call (.Attribute e "items" apos) [] [] cpos] [] pos) (tSortedItems te) := by
  have hview : PE X (.Call (.Attribute e "items" apos) [] [] cpos) (tIView te) := by
    refine ⟨fun pins s σ H Q I h => ?_⟩
    refine wpAny_Call_method (T := "dict") (id := "dict.items") hbase rfl hline F.plainAttrs_dict F.slot_dict_items F.type_dict_items (thn (he.run pins s σ H _ I h) fun u s1 ⟨x, H1, I1, rx, d, kvs, ex, hd, q⟩ => ?_)
    subst ex
    obtain rfl : u = Value.ref d := rx
    obtain ⟨hz, hs0, vs, kv, hdo⟩ := I1.hok d _ hd
    refine ⟨hdo.typeIs, hdo.mapOf.noDict, ?_⟩
    have hview : (s1.heap.push { cls := .type "dict_items", data := .fields #[.ref d] }).IsItemsView s1.heap.objs.size d := ⟨_, Heap.get?_push_size _ rfl, rfl, rfl⟩
    have I2 : Inv X pins σ (upd H1 s1.heap.objs.size (.ext fun h => h.IsItemsView s1.heap.objs.size d)) { s1 with heap := s1.heap.push { cls := .type "dict_items", data := .fields #[.ref d] } } :=
      I1.laid (t' := s1.toks) (fun b ob q => Heap.get?_push_of_some _ q) (Nat.le_refl _) ⟨hview, ⟨_, Heap.get?_push_size _ rfl⟩, fun h1 h2 a k => by
        obtain ⟨o, ho, r⟩ := a
        exact ⟨o, k o ho, r⟩⟩
    show wpAny _ _ (callWith cpos (.builtin "dict.items") [.ref d] [] []) _ X.xe s1
    exact method_meetsIn F.slot_dict_items F.entry_dict_items rfl (PySem.evalArgs_none ⟨rfl, hdo.typeIs, F.args_dict_items_1 _, _, meets_dict_items (mixKind X.prog X.w) d hs0, ⟨vs, hdo⟩, .ref s1.heap.objs.size, _, I2, rfl, q _ (I1.hok.fresh (Nat.le_refl _))⟩)
  have hcall : CallR X (.builtin "sorted") rSortedIV := by
    intro pins s σ H xs us Q I r q
    obtain ⟨a, d, sh, ex, hv, hd, q⟩ := q
    subst ex
    obtain ⟨u, eu, rx⟩ := vals1 r
    subst eu
    cases rx
    obtain ⟨hview, _, _⟩ := (show ObjOk X.prog X.w H s.heap a (.ext fun h => h.IsItemsView a d) from I.hok a _ hv)
    obtain ⟨hz, lo, vs, rel, dd⟩ := I.hok d _ hd
    obtain ⟨ep, hat⟩ := dd.dictAt
    have lk : (sh.map fun p => ((Sum.inl p.1 : Key), V.int p.2)).length = vs.length := Paired.length rel
    refine Calls.call_function_entry PyProof.Rows.kind_sorted PyProof.Rows.plain_sorted PyProof.Rows.entry_sorted (PyProof.Rows.args_sorted1 _) ?_
    unfold Builtin.«sorted»
    refine wpAny_bind (m := checkCount "sorted" 1 1 _) (wpAny_pure ?_)
    refine wpAny_bind (PySem.W.kdx_collect (A := X.A.in1) (knd := mixKind X.prog X.w) (kvs := vs) (ep := ep) (I.ok.hd hc) hview hat (by omega) fun h' tk as hk hl hG => ?_)
    have hll : (as.map Value.ref).length ≤ sizeLine := by rw [List.length_map]; omega
    refine wpAny_bind (wpAny_newList ?_ hll)
    have hoL : (h'.push (seqObj "list" (as.map Value.ref).toArray 0)).get? h'.objs.size = some (seqObj "list" (as.map Value.ref).toArray 0) := Heap.get?_push_size _ rfl
    have lA : as.length = sh.length := by rw [hl, ← lk, List.length_map]
    have nd : as.Nodup := List.Pairwise.imp (fun {a b} (h : a < b) => Nat.ne_of_lt h) hG.rise
    have new : ∀ t ∈ as, H t = none := fun t ht => I.hok.fresh (Nat.le_of_lt (hG.above t ht))
    -- the pairs, at the heap and as they are tracked
    have atA : ∀ (j : Nat) (t : Addr), as[j]? = some t → ∃ q key x, sh[j]? = some q ∧ h'.get? t = some { cls := .type "tuple", data := .seq #[key, x] } ∧ RelV (.int q.1) key ∧ RelV (.int q.2) x := fun j t hj => by
      obtain ⟨key, k, x, e1, e2, e3⟩ := hG.pairs j t hj
      obtain ⟨qv, g1, g2, g3⟩ := paired_ix' rel e1
      rw [List.getElem?_map] at g1
      cases z : sh[j]? with
      | none => rw [z] at g1; cases g1
      | some q =>
        rw [z] at g1
        cases g1
        refine ⟨q, key, x, rfl, e3, ?_, g3⟩
        have g2' : (Sum.inl q.1 : Key) = k := g2
        exact relV_key (k := Sum.inl q.1) (by rw [g2']; exact e2)
    let kz : Value → Int × Int := fun u => match u with
      | .ref t => (sh[as.findIdx (· == t)]?).getD (0, 0)
      | _ => (0, 0)
    have kz_at : ∀ (j : Nat) (t : Addr) (q : Int × Int), as[j]? = some t → sh[j]? = some q → kz (.ref t) = q := fun j t q hj hq => by
      show (sh[as.findIdx (· == t)]?).getD (0, 0) = q
      have hjl : j < as.length := (List.getElem?_eq_some_iff.mp hj).1
      have e : as.findIdx (· == t) = j := by
        have hm : t ∈ as := List.mem_of_getElem? hj
        have hlt : as.findIdx (· == t) < as.length := List.findIdx_lt_length_of_exists ⟨t, hm, by simp⟩
        have he : as[as.findIdx (· == t)] = t := by
          have := List.findIdx_getElem (w := hlt) (p := (· == t))
          simpa using this
        exact (List.getElem?_inj hlt nd).mp (by rw [hj, List.getElem?_eq_getElem hlt, he])
      rw [e, hq]
      rfl
    have prs : ∀ v ∈ as.map Value.ref, Srt.IsPair h' v (kz v).1 (kz v).2 := fun v hv => by
      obtain ⟨t, ht, rfl⟩ := List.mem_map.mp hv
      obtain ⟨j, hj⟩ := List.mem_iff_getElem?.mp ht
      obtain ⟨q, key, x, e1, e2, ⟨t1, e3⟩, ⟨t2, e4⟩⟩ := atA j t hj
      rw [kz_at j t q hj e1]
      subst e3 e4
      exact ⟨t, _, t1, t2, 0, rfl, e2, rfl, rfl⟩
    show wpAny _ _ _ _ _ { s with heap := h'.push (seqObj "list" (as.map Value.ref).toArray 0), toks := tk }
    refine wpAny_bind (wpAny_holding (wpAny_call_entry PyProof.Rows.slot_list_sort ⟨_, hoL, rfl⟩ PyProof.Rows.entry_list_sort
      (SrtO.list_sort_ord (s := { s with heap := h'.push (seqObj "list" (as.map Value.ref).toArray 0), toks := tk }) (SrtO.swo_lex kz) hoL hll
        (fun h2 => SrtO.pairs_sortableO (by omega) (fun v hv => (prs v hv).keeps fun b o e _ => Heap.get?_push_of_some _ e) fun o e c => by
          rw [hoL] at e
          cases e
          exact absurd (Value.type.inj c) (by decide)) fun out h1 h2 => ⟨_, rfl, ?_⟩) (PyProof.Rows.args_list_sort _)))
    obtain ⟨e', he'⟩ := PyProof.Rows.sortedHeap_at (vs := as.map Value.ref) (out := out.toArray) hoL
    have om : ∀ u ∈ out, ∃ t ∈ as, u = Value.ref t := fun u hu => by
      obtain ⟨t, ht, e⟩ := List.mem_map.mp (h2.perm.mem_iff.mp hu)
      exact ⟨t, ht, e.symm⟩
    have vo : Vals (out.map backV) out := vals_back fun u hu => by
      obtain ⟨t, _, e⟩ := om u hu
      exact ⟨t, e⟩
    have ol : out.length = sh.length := by rw [h2.len, List.length_map, lA]
    -- what is tracked: the tuples, then the list
    let T : List (Addr × HO) := as.map fun t => (t, HO.tup [.int (kz (.ref t)).1, .int (kz (.ref t)).2])
    let H1 : Hp := fun b => if b ∈ as then some (HO.tup [.int (kz (.ref b)).1, .int (kz (.ref b)).2]) else H b
    let H2 : Hp := upd H1 h'.objs.size (.lst (out.map backV))
    have hsz : ∀ t ∈ as, t < h'.objs.size := fun t ht => hG.there ht
    have keepAll : ∀ b o, s.heap.get? b = some o → (PyProof.Rows.sortedHeap (h'.push (seqObj "list" (as.map Value.ref).toArray 0)) h'.objs.size (as.map Value.ref) out.toArray).get? b = some o := fun b o e => by
      have hb : b < h'.objs.size := Heap.lt_size (hk b o e)
      rw [PyProof.Rows.sortedHeap_old (Nat.ne_of_lt hb) (by rw [Heap.size_push]; exact Nat.lt_succ_of_lt hb)]
      exact Heap.get?_push_of_some _ (hk b o e)
    have keepT : ∀ b o, h'.get? b = some o → (PyProof.Rows.sortedHeap (h'.push (seqObj "list" (as.map Value.ref).toArray 0)) h'.objs.size (as.map Value.ref) out.toArray).get? b = some o := fun b o e => by
      have hb : b < h'.objs.size := Heap.lt_size e
      rw [PyProof.Rows.sortedHeap_old (Nat.ne_of_lt hb) (by rw [Heap.size_push]; exact Nat.lt_succ_of_lt hb)]
      exact Heap.get?_push_of_some _ e
    have low : ∀ b o, s.heap.get? b = some o → b ∉ as ∧ b ≠ h'.objs.size := fun b o e => ⟨fun z => absurd (Heap.lt_size e) (Nat.not_lt.mpr (Nat.le_of_lt (hG.above b z))), Nat.ne_of_lt (Heap.lt_size (hk b o e))⟩
    have nL : H h'.objs.size = none := (I.hok.kept hk).fresh (Nat.le_refl _)
    have off : ∀ b, b ∉ as → b ≠ h'.objs.size → H2 b = H b := fun b z1 z2 => by
      show upd H1 _ _ b = _
      rw [upd_ne z2]
      exact if_neg z1
    have inA : ∀ b, b ∈ as → H2 b = some (.tup [.int (kz (.ref b)).1, .int (kz (.ref b)).2]) := fun b z => by
      show upd H1 _ _ b = _
      rw [upd_ne (Nat.ne_of_lt (hsz b z))]
      exact if_pos z
    have kp : ∀ b u, H b = some u → H2 b = some u := fun b u e => by
      rw [off b (fun z => by rw [new b z] at e; cases e) (fun z => by rw [z, nL] at e; cases e)]
      exact e
    have J : Inv X pins σ H2 { s with heap := PyProof.Rows.sortedHeap (h'.push (seqObj "list" (as.map Value.ref).toArray 0)) h'.objs.size (as.map Value.ref) out.toArray, toks := tk } := by
      refine I.call' (ch := []) rfl ⟨fun b o q _ _ _ => keepAll b o q, fun b o q _ _ _ => ⟨o.slots, keepAll b o q⟩, fun b o q n _ => ?_, fun b o q _ => ⟨o, keepAll b o q⟩, fun b xs q => kp b _ q, fun b o u q => kp b _ q, fun b ps q => ⟨#[], by rw [kp b _ q]; simp⟩⟩ (fun b u q => ?_) I.bare fun b z => by simp at z
      · obtain ⟨z1, z2⟩ := low b o q
        rw [off b z1 z2]
        exact n
      · by_cases hb : b ∈ as
        · rw [inA b hb] at q
          cases q
          obtain ⟨j, hj⟩ := List.mem_iff_getElem?.mp hb
          obtain ⟨q, key, x, e1, e2, e3, e4⟩ := atA j b hj
          rw [kz_at j b q hj e1]
          exact ⟨by show 2 ≤ sizeLine; decide, [key, x], .cons e3 (.cons e4 .nil), ⟨_, keepT _ _ e2, rfl, _, rfl⟩⟩
        · by_cases hb2 : b = h'.objs.size
          · rw [hb2] at q ⊢
            rw [show H2 h'.objs.size = _ from upd_same] at q
            cases q
            exact ⟨by rw [List.length_map, ol, ← lA, hl]; omega, out, e', vo, he'⟩
          · rw [off b hb hb2] at q
            exact (I.hok b u q).stay (fun d v _ y => keepAll d v y) (fun d y => kp d _ y) fun d xs y => kp d _ y
    have kb : ∀ u ∈ out, kz u = kz (unV (backV u)) := fun u hu => by
      obtain ⟨t, _, e⟩ := om u hu
      rw [e] <;> rfl
    refine wpAny_pure ⟨_, rfl, .ref h'.objs.size, H2, J, rfl, q H2 _ (out.map backV) (fun y => kz (unV y)) kp nL upd_same (fun y hy => ?_) ?_ ?_ ?_⟩
    · obtain ⟨u, hu, rfl⟩ := List.mem_map.mp hy
      obtain ⟨t, ht, rfl⟩ := om u hu
      exact ⟨t, rfl, new t ht, Nat.ne_of_lt (hsz t ht), inA t ht⟩
    · refine SrtO.srtd_map (f := backV) (lt := ltP fun y => kz (unV y)) ?_
      refine List.Pairwise.imp_of_mem (fun {u v} hu hv z => ?_) h1
      show SrtO.lexB (kz (unV (backV v))) (kz (unV (backV u))) = false
      rw [← kb u hu, ← kb v hv]
      exact z
    · rw [List.map_map]
      have e1 : out.map ((fun y => kz (unV y)) ∘ backV) = out.map kz := List.map_congr_left fun u hu => (kb u hu).symm
      rw [e1]
      refine (h2.perm.map kz).trans ?_
      rw [List.map_map]
      have e2 : as.map (kz ∘ Value.ref) = sh := by
        apply List.ext_getElem?
        intro j
        rw [List.getElem?_map]
        cases z : as[j]? with
        | none =>
          have : sh[j]? = none := List.getElem?_eq_none (by rw [← lA]; exact List.getElem?_eq_none_iff.mp z)
          rw [this]
          rfl
        | some t =>
          obtain ⟨q, _, _, e1, _⟩ := atA j t z
          rw [e1]
          show some (kz (.ref t)) = some q
          rw [kz_at j t q z e1]
      rw [e2]
    · have nd2 : out.Nodup := h2.perm.nodup_iff.mpr (List.pairwise_map.mpr (nd.imp fun h e => h (Value.ref.inj e)))
      refine List.pairwise_map.mpr (nd2.imp_of_mem fun {u v} hu hv z e => z ?_)
      obtain ⟨t, _, rfl⟩ := om u hu
      obtain ⟨t', _, rfl⟩ := om v hv
      rw [V.ref.inj e]
  exact pe_callB (p := p) hcall hg hm PyProof.Rows.boot_sorted (pa_cons hview pa_nil hs) (he := hs) (hpl := hpl)
/-- its end, the dict known -/
theorem sorted_items {d : Addr} {sh : List (Int × Int)} {H : Hp} {Q : VK} (hd : H d = some (.dK (sh.map fun p => ((Sum.inl p.1 : Key), V.int p.2))))
    (q : ∀ (H' : Hp) (p : Addr) (ys : List V) (k : V → Int × Int), Same H H' → H p = none → H' p = some (.lst ys) → (∀ y ∈ ys, ∃ t, y = V.ref t ∧ H t = none ∧ t ≠ p ∧ H' t = some (.tup [.int (k y).1, .int (k y).2])) →
      SrtO.Srtd (ltP k) ys → (ys.map k).Perm sh → ys.Nodup → Q (.ref p) H') :
    ∃ (d' : Addr) (kvs : List (Key × V)), V.ref d = .ref d' ∧ H d' = some (.dK kvs) ∧ ∀ v, H v = none → rSortedIV [.ref v] (upd H v (.ext fun h => h.IsItemsView v d')) Q := by
  refine ⟨d, _, rfl, hd, fun v hv => ⟨v, d, sh, rfl, upd_same, ?_, fun H' p ys k sm hp hl hy h1 h2 h3 => ?_⟩⟩
  · rw [upd_ne (ne_of_none hd hv)]; exact hd
  · have nn : ∀ b, upd H v (.ext fun h => h.IsItemsView v d) b = none → H b = none ∧ b ≠ v := fun b e => by
      have h : b ≠ v := fun z => by rw [z, upd_same] at e; cases e
      rw [upd_ne h] at e
      exact ⟨e, h⟩
    refine q H' p ys k (fun b o e => sm b o ?_) (nn p hp).1 hl (fun y hm => ?_) h1 h2 h3
    · rw [upd_ne (ne_of_none e hv)]
      exact e
    · obtain ⟨t, e1, e2, e3, e4⟩ := hy y hm
      exact ⟨t, e1, (nn t e2).1, e3, e4⟩
/-- sorted(d), d's keys ints, any number of them -/
def rSortedKeys : List V → Hp → VK → Prop := fun xs H Q => ∃ (d : Addr) (m : List (Key × V)) (ns : List Int), xs = [.ref d] ∧ H d = some (.dK m) ∧ m.map (·.1) = ns.map Sum.inl ∧
  ∀ (ys : List Int) (p : Addr), ys.Perm ns → ys.Pairwise (· ≤ ·) → H p = none → Q (.ref p) (upd H p (.lst (ys.map V.int)))
theorem call_sortedKeys {X : Cx} (calm : X.calm = true) : CallR X (.builtin "sorted") rSortedKeys := by
  intro pins st σ H xs us Q J r ⟨d, m, ns, ex, hd, hm, q⟩
  subst ex
  obtain ⟨u, eu, rx⟩ := vals1 r
  subst eu
  cases rx
  obtain ⟨big, lo, vs, rel, dd⟩ := J.hok d _ hd
  obtain ⟨ep, hat⟩ := dd.dictAt
  have hv : vs.map (·.1) = ns.map Sum.inl := rel.keys.symm.trans hm
  have hl : vs.length = ns.length := by simpa using congrArg List.length hv
  have hm2 : m.length = ns.length := by simpa using congrArg List.length hm
  refine Calls.call_function_entry PyProof.Rows.kind_sorted PyProof.Rows.plain_sorted PyProof.Rows.entry_sorted (PyProof.Rows.args_sorted1 _) ?_
  unfold Builtin.«sorted»
  refine wpAny_bind (m := checkCount "sorted" 1 1 _) (wpAny_pure ?_)
  refine wpAny_bind (PySem.W.kdu_collect (A := X.A.in1) (PySem.W.kdl_dict (knd := mixKind X.prog X.w) (kvs := vs) (ep := ep) lo) (J.ok.hd calm) hat (by omega) fun h2 tk acc kp hacc => ?_)
  have al : acc.toList.length = ns.length := by rw [Array.length_toList, hacc.1, hl]
  have areI : IntsAre acc.toList ns := ints_each al fun j v e => by
    obtain ⟨k, x, e1, e2⟩ := hacc.2 j v (by rw [← Array.getElem?_toList]; exact e)
    have e3 : (ns.map (Sum.inl : Int → Key))[j]? = some k := by rw [← hv, List.getElem?_map, e1]; rfl
    rw [List.getElem?_map] at e3
    cases e4 : ns[j]? with
    | none => rw [e4] at e3; cases e3
    | some y =>
      rw [e4] at e3
      obtain rfl : Sum.inl y = k := Option.some.inj e3
      rcases keyIs_shape (show keyIs (Sum.inl y) v = true from e2) with ⟨i, t, ek, ev⟩ | ⟨z, t, ek, ev⟩
      · cases ek
        exact ⟨y, t, rfl, ev⟩
      · cases ek
  have J1 : Inv X pins σ H { st with heap := h2, toks := tk } := J.kept kp
  have hll : acc.toList.length ≤ sizeLine := by rw [al]; omega
  refine wpAny_bind (wpAny_newList ?_ hll)
  have new : (h2.push (seqObj "list" acc.toList.toArray 0)).get? h2.objs.size = some (seqObj "list" acc.toList.toArray 0) := Heap.get?_push_size _ rfl
  show wpAny _ _ _ _ _ { st with heap := h2.push (seqObj "list" acc.toList.toArray 0), toks := tk }
  refine wpAny_bind (wpAny_holding (wpAny_call_entry PyProof.Rows.slot_list_sort ⟨_, new, rfl⟩ PyProof.Rows.entry_list_sort
    (SrtO.list_sort_ord (s := { st with heap := h2.push (seqObj "list" acc.toList.toArray 0), toks := tk }) SrtO.swo_int new hll (fun two => SrtO.ints_sortable areI two) fun out o1 o2 => ⟨_, rfl, ?_⟩) (PyProof.Rows.args_list_sort _)))
  obtain ⟨k1, k2, k3⟩ := SrtO.ints_out areI o1 o2
  obtain ⟨e', he'⟩ := PyProof.Rows.sortedHeap_at (vs := acc.toList) (out := out.toArray) new
  have hlen : ((out.map SrtO.iv).map V.int).length ≤ sizeLine := by rw [List.length_map, k2.length_eq]; omega
  refine wpAny_pure ⟨_, rfl, .ref h2.objs.size, upd H h2.objs.size (.lst ((out.map SrtO.iv).map V.int)), J1.laid (t' := tk) (fun b u e => ?_) (Nat.le_refl _)
    (show ObjOk X.prog X.w _ _ _ (.lst ((out.map SrtO.iv).map V.int)) from ⟨hlen, out, e', vals_of_ints k1, he'⟩), rfl, q _ _ k2 k3 (J1.hok.fresh (Nat.le_refl _))⟩
  have hb : b < h2.objs.size := Heap.lt_size e
  rw [PyProof.Rows.sortedHeap_old (Nat.ne_of_lt hb) (by rw [Heap.size_push]; exact Nat.lt_succ_of_lt hb)]
  exact Heap.get?_push_of_some _ e
/-! ### any number of locks -/
def lockL : List Addr → TE → TE
  | [], t => t
  | d :: r, t => fun σ H Q => ∃ u, H d = some u ∧ Mut (some u) ∧ ∀ od, lockL r t σ (upd H d (.frz od u)) fun v H' => H' d = some (.frz od u) ∧ Q v (upd H' d u)
def tLockL (t : TE) : TE := fun σ H Q => ∃ ds, lockL ds t σ H Q
theorem pe_lockL1 {X : Cx} {e : Expr} {t : TE} (h : PE X e t) : ∀ ds, PE X e (lockL ds t)
  | [] => h
  | d :: r => ⟨fun pins s σ H Q I ⟨u, hu, mu, q⟩ => (pe_lock (pe_lockL1 h r)).run pins s σ H Q I ⟨d, u, hu, mu, q⟩⟩
theorem pe_lockL {X : Cx} {e : Expr} {t : TE} (h : PE X e t) : PE X e (tLockL t) := ⟨fun pins s σ H Q I ⟨ds, q⟩ => (pe_lockL1 h ds).run pins s σ H Q I q⟩
def lockS : List Addr → TS → TS
  | [], t => t
  | d :: r, t => fun D σ H => ∃ u, H d = some u ∧ Mut (some u) ∧ ∀ od, lockS r t ⟨fun σ' H' => H' d = some (.frz od u) ∧ D.nx σ' (upd H' d u), fun v H' => H' d = some (.frz od u) ∧ D.rt v (upd H' d u), fun σ' H' => H' d = some (.frz od u) ∧ D.bk σ' (upd H' d u), fun σ' H' => H' d = some (.frz od u) ∧ D.ct σ' (upd H' d u)⟩ σ (upd H d (.frz od u))
def tLockS (t : TS) : TS := fun D σ H => ∃ ds, lockS ds t D σ H
theorem ps_lockS1 {X : Cx} {e : Stmt} {t : TS} (h : PS X e t) : ∀ ds, PS X e (lockS ds t)
  | [] => h
  | d :: r => ⟨fun pins s σ H D I ⟨u, hu, mu, q⟩ => (ps_lock (ps_lockS1 h r)).run pins s σ H D I ⟨d, u, hu, mu, q⟩⟩
theorem ps_lockS {X : Cx} {e : Stmt} {t : TS} (h : PS X e t) : PS X e (tLockS t) := ⟨fun pins s σ H D I ⟨ds, q⟩ => (ps_lockS1 h ds).run pins s σ H D I q⟩
/-- the things of L locked -/
structure Locked (L : List (Addr × HO)) (H H1 : Hp) : Prop where
  at_ : ∀ p ∈ L, ∃ od, H1 p.1 = some (.frz od p.2)
  off : ∀ b, b ∉ L.map (·.1) → H1 b = H b
/-- .. and free again -/
def unl (L : List (Addr × HO)) (H : Hp) : Hp := fun b => match L.find? (fun p => decide (p.1 = b)) with
  | some p => some p.2
  | none => H b
def endsL (L : List (Addr × HO)) (H1 : Hp) (D : Ends) : Ends :=
  ⟨fun σ' H' => (∀ p ∈ L, H' p.1 = H1 p.1) ∧ D.nx σ' (unl L H'), fun v H' => (∀ p ∈ L, H' p.1 = H1 p.1) ∧ D.rt v (unl L H'), fun σ' H' => (∀ p ∈ L, H' p.1 = H1 p.1) ∧ D.bk σ' (unl L H'), fun σ' H' => (∀ p ∈ L, H' p.1 = H1 p.1) ∧ D.ct σ' (unl L H')⟩
theorem unl_off {L : List (Addr × HO)} {H : Hp} {b : Addr} (h : b ∉ L.map (·.1)) : unl L H b = H b := by
  unfold unl
  have e : L.find? (fun p => decide (p.1 = b)) = none := List.find?_eq_none.mpr fun p hp z => h (by
    have z' : p.1 = b := of_decide_eq_true z
    rw [← z']
    exact List.mem_map_of_mem hp)
  rw [e]
theorem unl_in {L : List (Addr × HO)} {H : Hp} {p : Addr × HO} (nd : (L.map (·.1)).Nodup) (h : p ∈ L) : unl L H p.1 = some p.2 := by
  unfold unl
  induction L with
  | nil => cases h
  | cons q L ih =>
    rw [List.find?_cons]
    by_cases e : q.1 = p.1
    · rw [decide_eq_true e]
      rcases List.mem_cons.mp h with z | z
      · rw [z]
      · exact absurd (show q.1 ∈ L.map (·.1) by rw [e]; exact List.mem_map_of_mem z) (List.nodup_cons.mp nd).1
    · rw [decide_eq_false e]
      rcases List.mem_cons.mp h with z | z
      · exact absurd (by rw [z]) e
      · exact ih (List.nodup_cons.mp nd).2 z
theorem lockS_of {t : TS} {σ : L2.St} : ∀ (L : List (Addr × HO)) (D : Ends) (H : Hp), (L.map (·.1)).Nodup → (∀ p ∈ L, H p.1 = some p.2 ∧ Mut (some p.2)) → (∀ H1, Locked L H H1 → t (endsL L H1 D) σ H1) → lockS (L.map (·.1)) t D σ H
  | [], D, H, _, _, h => by
    have z := h H ⟨fun p hp => (by cases hp), fun b _ => rfl⟩
    have e : endsL [] H D = D := by
      unfold endsL
      cases D
      congr 1 <;> funext a b <;> exact propext ⟨fun x => x.2, fun x => ⟨fun _ hp => (by cases hp), x⟩⟩
    rw [e] at z
    exact z
  | (d, u) :: L, D, H, nd, hm, h => by
    have nd' := List.nodup_cons.mp nd
    obtain ⟨hd, mu⟩ := hm (d, u) List.mem_cons_self
    refine ⟨u, hd, mu, fun od => lockS_of L _ _ nd'.2 (fun p hp => ?_) fun H1 lk => ?_⟩
    · have ne : p.1 ≠ d := fun z => nd'.1 (z ▸ List.mem_map_of_mem (f := (·.1)) hp)
      rw [upd_ne ne]
      exact hm p (List.mem_cons_of_mem _ hp)
    · have hd1 : H1 d = some (.frz od u) := by rw [lk.off d nd'.1, upd_same]
      have z := h H1 ⟨fun p hp => ?_, fun b hb => ?_⟩
      · have key : ∀ (H' : Hp) (R : Hp → Prop), ((∀ p ∈ (d, u) :: L, H' p.1 = H1 p.1) ∧ R (unl ((d, u) :: L) H')) = ((∀ p ∈ L, H' p.1 = H1 p.1) ∧ (unl L H' d = some (.frz od u) ∧ R (upd (unl L H') d u))) := fun H' R => by
          have eu : upd (unl L H') d u = unl ((d, u) :: L) H' := by
            funext b
            by_cases hb : b = d
            · rw [hb, upd_same]
              exact (unl_in (p := (d, u)) nd List.mem_cons_self).symm
            · rw [upd_ne hb]
              unfold unl
              rw [List.find?_cons, decide_eq_false (fun z => hb z.symm)]
          rw [eu, unl_off nd'.1]
          refine propext ⟨fun x => ⟨fun p hp => x.1 p (List.mem_cons_of_mem _ hp), by rw [x.1 (d, u) List.mem_cons_self, hd1], x.2⟩, fun x => ⟨fun p hp => ?_, x.2.2⟩⟩
          rcases List.mem_cons.mp hp with e | e
          · rw [e, x.2.1, hd1]
          · exact x.1 p e
        have e : endsL ((d, u) :: L) H1 D = endsL L H1 ⟨fun σ' H' => H' d = some (.frz od u) ∧ D.nx σ' (upd H' d u), fun v H' => H' d = some (.frz od u) ∧ D.rt v (upd H' d u), fun σ' H' => H' d = some (.frz od u) ∧ D.bk σ' (upd H' d u), fun σ' H' => H' d = some (.frz od u) ∧ D.ct σ' (upd H' d u)⟩ := by
          unfold endsL
          congr 1 <;> funext a b <;> exact key b _
        rw [e] at z
        exact z
      · rcases List.mem_cons.mp hp with e | e
        · rw [e]; exact ⟨od, hd1⟩
        · exact lk.at_ p e
      · have hb' : b ∉ L.map (·.1) := fun q => hb (List.mem_cons_of_mem _ q)
        have hbd : b ≠ d := fun q => hb (q ▸ List.mem_cons_self)
        rw [lk.off b hb', upd_ne hbd]
/-- a comprehension's loop, whatever its body is -/
theorem lc_any {J : It} {n : Nat} {G : Hp → Prop} {Y : Nat → Hp → V → Hp → Prop} (w : Walk J n G Y) {body : V → Hp → (Hp → Prop) → Prop} {H0 : Hp} {Qd : Hp → Prop} (Pv : Nat → Hp → Prop) (h0 : Pv 0 H0) (hG : ∀ i H, i ≤ n → Pv i H → G H)
    (hs : ∀ i x H H', i < n → Pv i H → Y i H x H' → body x H' (Pv (i + 1))) (hd : ∀ H, Pv n H → Qd H) :
    ∃ W : Nat → Nat → Hp → Prop, (∃ m, W 0 m H0) ∧ ∀ i m H, W i m H → (J.stop i H ∧ Qd H) ∨ (J.go i H ∧ ∃ Nx : Hp → Prop, (∀ H', Nx H' → ∃ m', m' < m ∧ W (i + 1) m' H') ∧ ∀ x H', J.yld i H x H' → body x H' Nx) := by
  refine ⟨fun i m H => m = n - i ∧ i ≤ n ∧ Pv i H, ⟨n, by simp, Nat.zero_le _, h0⟩, ?_⟩
  rintro i m H ⟨rfl, hi, p⟩
  have q := hG i H hi p
  by_cases hlt : i < n
  · exact .inr ⟨w.goes i H hlt q, Pv (i + 1), fun H' p' => ⟨n - (i + 1), by omega, rfl, hlt, p'⟩, fun x H' y => hs i x H H' hlt p (w.yields i H x H' hlt q y)⟩
  · have e : i = n := by omega
    subst e
    exact .inl ⟨w.stops H q, hd H p⟩
end DL
namespace S
open PySem PySem.Spec PyProof.Rows L2 DL
theorem sitems {σ : L2.St} {H : Hp} {Q : VK} {te : TE} (q : te σ H fun x H1 => ∃ (d : Addr) (kvs : List (Key × V)), x = .ref d ∧ H1 d = some (.dK kvs) ∧ ∀ v, H1 v = none → rSortedIV [.ref v] (upd H1 v (.ext fun h => h.IsItemsView v d)) Q) : tSortedItems te σ H Q := q
end S

/-! InvalidDeeds: an own error over an own error over ValueError, whose __init__ calls super().__init__ with a text and keeps one field -/
namespace Dx
open PySem PySem.W PySem.Calls PyProof.Rows PySem.HandSPX
def iA (p1 p2 : Pos) : Arguments :=
  { posonlyargs := [], vararg := none, kwonlyargs := [], kw_defaults := [], kwarg := none, defaults := []
    args := [⟨"self", none, p1⟩, ⟨"index", none, p2⟩] }
def iSt1 (q0 q1 q2 q3 q4 q5 : Pos) : Stmt := .Expr (.Call (.Attribute (.Call (.Name "super" q0) [] [] q1) "__init__" q2) [.Constant (.str "not deeds on sheets") 0 q3] [] q4) q5
def iSt2 (q6 q7 q8 q9 : Pos) : Stmt := .Assign [.Attribute (.Name "self" q6) "index" q7] (.Name "index" q8) q9
def iB (q0 q1 q2 q3 q4 q5 q6 q7 q8 q9 : Pos) : List Stmt := [iSt1 q0 q1 q2 q3 q4 q5, iSt2 q6 q7 q8 q9]
def iS : Scope :=
  { kind := .function, isGenerator := false, isCoroutine := false, more := []
    names := [(PySem.Str.ofString "self", .local), (PySem.Str.ofString "index", .local), (PySem.Str.ofString "__class__", .free), (PySem.Str.ofString "super", .globalImplicit)] }
/-- super().__init__(..) is read as the call of a method (so where the lines are told) -/
def Plain (q0 q1 q2 q3 q4 : Pos) : Prop := ∀ env : Env, ∃ pl : Sem Bool, eval (.Call (.Attribute (.Call (.Name "super" q0) [] [] q1) "__init__" q2) [.Constant (.str "not deeds on sheets") 0 q3] [] q4) env = (do
    let ov ← attributeBase (.Call (.Name "super" q0) [] [] q1) "__init__" env (eval (.Call (.Name "super" q0) [] [] q1) env)
    standAt q2.atName
    let (f, first) ← holding [ov] (getMethod ov "__init__" pl)
    callWith q4 f first (backTo q4 (starEach [.Constant (.str "not deeds on sheets") 0 q3] env)) [])
/-- what the written part says of InvalidDeeds, at C, and of its __init__, at fI -/
structure Ded (P : Program) (K : Frag) (mg : Str → Option Value) (C fI : Addr) : Prop where
  gC : mg "InvalidDeeds" = some (.ref C)
  sup : mg "super" = none
  cls : ∃ nm q N bs bm sn sub ab col dd k0 k1 k2 k3 k5, K.lookup C = some (excClassObj nm q C N bs bm true sn sub ab col dd k0 k1 k2 k3 k5 "ValueError.__new__") ∧ refsVE bm = true
  al : ks_superIn K C C "__init__" = some (some (.builtin "ValueError.__init__"))
  sa : findIn K (.ref C) "__setattr__" = some (some (.builtin "object.__setattr__"))
  ga : findIn K (.ref C) "__getattribute__" = some (some (.builtin "BaseException.__getattribute__"))
  gg : findIn K (.ref C) "__getattr__" = some none
  noN : findIn K (.ref C) "index" = some none
  iC : findIn K (.ref C) "__init__" = some (some (.ref fI))
  tC : typeIn K (.ref fI) = some (.type "function")
  kC : keepIn K (.ref C) = true
  exC : subIn K (.ref C) (.type "BaseException") = some true
  veC : subIn K (.ref C) (.type "ValueError") = some true
  slf : mroIn K C (.ref C) = some true
  tyC : typeIn K (.ref C) = some (.type "type")
  hdC : hasDictIn K C = true
  te : exmOne K (.ref C) (.ref C) = some true
  tp : nsIn K cStatics "thirdparty.any" = some none
  top : (P.main.scope.names.lookup ("super" : Str)).isSome = false
  fn : ∃ (oc ccl cl : Value) (od cdd cld : Option Addr) (osl ccs csl : Array (Option Value)) (doc pm : Value) (an : Option Addr) (cda cc : Addr) (ct : Value) (vs : Array Value) (file : Str) (tf : Tok) (p1 p2 q0 q1 q2 q3 q4 q5 q6 q7 q8 q9 : Pos),
    K.lookup fI = some ⟨oc, od, .func (ksFn "__init__" "InvalidDeeds.__init__" (iA p1 p2) (iB q0 q1 q2 q3 q4 q5 q6 q7 q8 q9) iS .none .none doc pm an (.ref cda) ct cc), osl⟩ ∧ codeIn K (.ref cda) "InvalidDeeds.__init__" = true ∧
    K.lookup cda = some ⟨ccl, cdd, .fields vs, ccs⟩ ∧ vs[2]? = some (.str file tf) ∧ ((P.main.file : Str) == file) = true ∧ K.lookup cc = some ⟨cl, cld, .cell (some (.ref C)), csl⟩ ∧ Plain q0 q1 q2 q3 q4
theorem line1 (v : Value) : [v].length ≤ sizeLine := by
  rw [sizeLine_eq]
  exact (by decide : 1 ≤ 16777216)
/-- what __init__ leaves of a fresh error at x -/
structure Left (h h' : Heap) (x C dx : Addr) (v : Value) : Prop where
  keep : ∀ b o, b ≠ x → h.get? b = some o → h'.get? b = some o
  obj : ∃ t1, h'.get? x = some { cls := .ref C, dict := some dx, data := .fields #[.ref t1, .none, .none, .none, .bool false, .none] }
  dbig : h.objs.size ≤ dx
  dne : dx ≠ x
  ns : h'.Ns1 dx (fun y => if y = "index" then some v else none)
/-- a made error -/
structure Born (h h' : Heap) (e C d : Addr) (v : Value) : Prop where
  keep : ∀ b o, h.get? b = some o → h'.get? b = some o
  new : h.objs.size ≤ e
  obj : ∃ oe vs, h'.get? e = some oe ∧ oe.cls = .ref C ∧ oe.dict = some d ∧ oe.data = .fields vs ∧ vs[1]? = some .none
  dbig : h.objs.size ≤ d
  dne : d ≠ e
  ns : h'.Ns1 d (fun y => if y = "index" then some v else none)
section
variable {prog : Program} {w : World} {A : Around} {E : Value → Shared → Prop} {R : Result → Shared → Prop} {s : Shared} {K : Frag} {mg : Str → Option Value} {C fI : Addr} {base : Heap}
/-- the wrapper ValueError.__init__ of e, called -/
theorem mw_call {h : Heap} {g : Array GenState} {d : Drawn} {t : Nat} {os : OsState} {nm q : Str} {N : Addr} {bs bm : List Value} {hdct : Bool} {sn : List Str} {sub : List Value} {ab : Bool} {col : Option Bool} {dd : Option Addr} {k0 k1 k2 k3 k5 : Option Value}
    {u e t0 : Addr} {rest : List Value} {Q : Value → Shared → Prop}
    (hC : h.get? C = some (excClassObj nm q C N bs bm hdct sn sub ab col dd k0 k1 k2 k3 k5 "ValueError.__new__")) (he : h.get? e = some (excO C t0)) (hu : h.get? u = some (kxs_mw "ValueError.__init__" e)) (hz : rest.length ≤ sizeLine)
    (hq : ∀ h' t1, (∀ b o, b ≠ e → h.get? b = some o → h'.get? b = some o) → h'.get? e = some (excO C t1) → Q .none ⟨h', g, d, t, os⟩) :
    wpAny (model prog w) A (call (.ref u) rest) Q E ⟨h, g, d, t, os⟩ := by
  refine wpAny_call (codeAny_of_tree ?_)
  show wpAny _ A.in1 (callAny (.ref u) ⟨rest, []⟩) _ _ _
  simp only [callAny]
  refine wpAny_bind (wpAny_load hu ?_)
  have m1 : (Value.type "method-wrapper" == Value.type "method" || Value.type "method-wrapper" == Value.type "builtin_function_or_method" || Value.type "method-wrapper" == Value.type "method-wrapper") = true := by decide
  simp only [kxs_mw, m1, if_true]
  refine KFB.if_so (by decide) ?_
  refine wpAny_bind (check_bound_init PySem.F.excBase_ValueError.toExcCallFacts hC he rfl ?_)
  refine wpAny_bind (wpAny_pure (wpAny_pure ⟨plainId_quiet PySem.F.excBase_ValueError.init.plain _, codeAny_builtin PySem.F.excBase_ValueError.initEntry ?_⟩))
  exact exc_init_tree (cls := .ref C) (t0 := t0) (dv := none) (c2 := .none) (c3 := .none) (b4 := .bool false) he hz fun h' k e' _ => hq h' _ k e'
theorem ldS {env : Env} {m : Str → Option Value} {x : Str} {pos : Pos} {v : Value} {Q : Value → Shared → Prop} {M : Model} (hn : s.heap.Ns env.locals m) (hv : m x = some v) (h : Q v s)
    (hk : env.scope.kind = .function := by rfl) (hl : env.kindOf x = some .local := by rfl) (hd : (x == ("__debug__" : Str)) = false := by decide) : wpAny M A (eval (.Name x pos) env) Q E s := wpAny_Name (wpAny_loadName_local hk hl hn hv h) hd
theorem init_runs (T : Ded prog K mg C fI) (Md : L2.Mod K mg base) (kb : ∀ b o, base.get? b = some o → s.heap.get? b = some o) {x t0 : Addr} {v : Value} (hlim : s.heap.NoLimit) (hx : s.heap.get? x = some (excO C t0)) (hnx : K.lookup x = none) (hroom : A.depth < recursionLimit)
    (hq : ∀ h' tk dx, Left s.heap h' x C dx v → R (.ok (.ret .none)) { s with heap := h', toks := tk }) :
    codeAny (model prog w) A (.call (.ref fI) ⟨[.ref x, v], []⟩) R s := by
  obtain ⟨oc, ccl, cl, od, cdd, cld, osl, ccs, csl, doc, pm, an, cda, cc, ct, vs, file, tf, p1, p2, q0, q1, q2, q3, q4, q5, q6, q7, q8, q9, ho, hcd, hcode, hvs, hfile, hcell, hpl⟩ := T.fn
  obtain ⟨nm, q, N, bs, bm, sn, sub, ab, col, dd, k0, k1, k2, k3, k5, hC, hbm⟩ := T.cls
  have hcl : clsIn K C = some { name := nm, bases := bs, mro := .ref C :: bm, ns := N, qualname := q, hasDict := true, slotNames := sn, subclasses := sub, abstract := ab, collection := col, hasDel := false } := by unfold clsIn; rw [hC] <;> rfl
  have al := T.al
  unfold ks_superIn at al
  rw [hcl] at al
  obtain ⟨mb, hb1, hb2⟩ := Md.blt
  obtain ⟨hp, g, d, tk, os⟩ := s
  have X : K.In hp := Md.kin.keeps kb
  have hxC : x ≠ C := fun z => by
    have a := X _ _ hC
    rw [← z, hx] at a
    cases a
  refine ks_codeAny_call_defAt (fd := ksFn "__init__" "InvalidDeeds.__init__" (iA p1 p2) (iB q0 q1 q2 q3 q4 q5 q6 q7 q8 q9) iS .none .none doc pm an (.ref cda) ct cc) (body := iB q0 q1 q2 q3 q4 q5 q6 q7 q8 q9) (binds := [("self", .ref x), ("index", v)])
    hroom (X _ _ ho) rfl hlim (codeRec_of X hcd) rfl (BindsTo.of_eq (by first | rfl | with_unfolding_all rfl)) (by show ∀ x ∈ iS.names, x.2 ≠ .cell; decide) (by intro y hy; simp only [List.mem_cons, List.not_mem_nil, or_false] at hy; rcases hy with rfl | rfl <;> rfl) (fun h₁ hns k₁ => ?_) rfl rfl rfl
  have x₁ := k₁ _ _ hx
  have X₁ : K.In h₁ := X.keeps k₁
  have kb₁ : ∀ b o, base.get? b = some o → h₁.get? b = some o := fun b o e => k₁ b o (kb b o e)
  have hL : hp.objs.size < h₁.objs.size := by
    obtain ⟨oL, _, _, e, _⟩ := hns
    exact Heap.lt_size e
  obtain ⟨pl, he⟩ := hpl (callEnv (ksFn "__init__" "InvalidDeeds.__init__" (iA p1 p2) (iB q0 q1 q2 q3 q4 q5 q6 q7 q8 q9) iS .none .none doc pm an (.ref cda) ct cc) hp.objs.size fI)
  refine ks_wpAt_execs_cons (ks_wpAt_Expr_any (ks_wpAt_MethodCall ?_ he))
  refine ks_wpAt_super_base rfl rfl rfl rfl (X₁ _ _ ho) rfl rfl rfl (X₁ _ _ hcode) rfl hvs hfile T.top ?_
  refine ks_loadName_global rfl rfl (loadGlobal_builtin (Md.glob.keeps kb₁) T.sup (hb1.keeps kb₁) ((hb2 _ (by decide)).trans (by first | rfl | decide +kernel | kernel_rfl : bootBuiltins "super" = some (.type "super"))) ⟨rfl, ?_⟩)
  refine wpAny_loadName_free rfl rfl rfl ⟨_, X₁ _ _ hcell, rfl⟩ ?_
  refine wpAny_loadName_local rfl rfl hns rfl ?_
  refine ks_wpAny_isType_cls (X₁ _ _ hC) rfl ⟨rfl, ?_⟩
  refine ks_wpAny_call_super (X₁ _ _ hC) rfl x₁ rfl (fun c e => nomatch e) (looks_mroIn X₁ T.slf) (fun h₂ so₂ k₂ => ?_)
  have x₂ := k₂ _ _ x₁
  have X₂ : K.In h₂ := X₁.keeps k₂
  have I₂ : PySem.W.InstAt h₂ x (excO C t0) C none := ⟨x₂, rfl, rfl, trivial⟩
  refine kxs_getMethod kxs_ValueError so₂ (looks_opaque X₂ T.tp) (l₀ := .ref C :: bm) (fun A Q E s k q => wpAny_bind ((looks_clsIn X₂ hcl) A _ E s k (wpAny_pure q))) rfl X₂ al (I₂.type.andThen (looks_subIn X₂ T.veC)) hxC (by decide) ?_
  have k₃ : ∀ b o, h₂.get? b = some o → (h₂.push (kxs_mw "ValueError.__init__" x)).get? b = some o := fun b o e => Heap.get?_push_of_some _ e
  have u₃ : (h₂.push (kxs_mw "ValueError.__init__" x)).get? h₂.objs.size = some (kxs_mw "ValueError.__init__" x) := Heap.get?_push_at rfl rfl
  have kA : ∀ b o, hp.get? b = some o → (h₂.push (kxs_mw "ValueError.__init__" x)).get? b = some o := fun b o e => k₃ b o (k₂ b o (k₁ b o e))
  have k13 : ∀ b o, h₁.get? b = some o → (h₂.push (kxs_mw "ValueError.__init__" x)).get? b = some o := fun b o e => k₃ b o (k₂ b o e)
  generalize h₂.push (kxs_mw "ValueError.__init__" x) = h₃ at *
  have X₃ : K.In h₃ := X.keeps kA
  refine kxs_callWith (i := "ValueError.__init__") (x := x) (by rfl) (evalArgs_plain (spliced_cons (Constant_str (k := 0) (pos := q3) (spliced_nil ⟨u₃, ?_⟩))))
  refine mw_call (X₃ _ _ hC) (kA _ _ hx) u₃ (line1 _) fun h₄ t1 k₄ x₄ => ?_
  have X₄ : K.In h₄ := fun a o e => k₄ a o (fun z => by rw [z, hnx] at e; cases e) (X₃ _ _ e)
  have lx : hp.objs.size ≠ x := Nat.ne_of_gt (Heap.lt_size hx)
  have hns₄ : h₄.Ns hp.objs.size (fun y => (([("self", .ref x), ("index", v)] : List (Str × Value)).reverse.lookup y)) := by
    obtain ⟨oL, es, ep, e, r⟩ := hns
    exact ⟨oL, es, ep, k₄ _ _ lx (k13 _ _ e), r⟩
  have zL : hp.objs.size < h₄.objs.size := by
    obtain ⟨oL, _, _, e, _⟩ := hns₄
    exact Heap.lt_size e
  show _root_.PySem.wpAt _ _ _ (execs [iSt2 q6 q7 q8 q9] _) _ _ _
  refine wpAt_of_wpAny (wpAny_execs_cons (plainObj_wpAny_Assign_Attribute ?_))
  refine ldS (v := v) hns₄ rfl (ldS (v := .ref x) hns₄ rfl ?_)
  refine set_plain X₄ (ox := excO C t1) (od := none) ⟨x₄, rfl, rfl, trivial⟩ T.sa ?_
  refine exc_osa X₄ x₄ hcl (show refsVE (.ref C :: bm) = true from hbm) rfl T.noN (fun h₅ tk₅ dx k₅ dn dne x₅ n₅ => ?_)
  show wpAny _ _ (execs _ _) _ _ _
  exact wpAny_execs_nil (hq h₅ tk₅ dx ⟨fun b o hb e => k₅ b o hb (k₄ b o hb (kA b o e)), ⟨t1, x₅⟩, Nat.le_of_lt (Nat.lt_of_lt_of_le zL dn), dne, n₅⟩)
theorem made_runs (T : Ded prog K mg C fI) (Md : L2.Mod K mg base) (kb : ∀ b o, base.get? b = some o → s.heap.get? b = some o) {v : Value} (hlim : s.heap.NoLimit) (hroom : A.depth + 1 < recursionLimit)
    (hq : ∀ h' tk e d, Born s.heap h' e C d v → R (.ok (.ret (.ref e))) { s with heap := h', toks := tk }) :
    codeAny (model prog w) A (.call (.ref C) ⟨[v], []⟩) R s := by
  obtain ⟨nm, q, N, bs, bm, sn, sub, ab, col, dd, k0, k1, k2, k3, k5, hC, hbm⟩ := T.cls
  obtain ⟨hp, g, dr, tk, os⟩ := s
  have X : K.In hp := Md.kin.keeps kb
  have k : ∀ b o, hp.get? b = some o → ((hp.push (kdv_tup [v])).push (excO C hp.objs.size)).get? b = some o := fun b o e => Heap.get?_push_of_some _ (Heap.get?_push_of_some _ e)
  have mine : ((hp.push (kdv_tup [v])).push (excO C hp.objs.size)).get? (hp.objs.size + 1) = some (excO C hp.objs.size) := by heap_get
  have hnx : K.lookup (hp.objs.size + 1) = none := by
    cases e : K.lookup (hp.objs.size + 1) with
    | none => rfl
    | some o => exact absurd (Nat.lt_of_succ_lt (Heap.lt_size (show hp.get? (hp.objs.size + 1) = some o from X _ _ e))) (Nat.lt_irrefl _)
  refine call_own PySem.F.excBase_ValueError (fun Y => refsVE_contains Y bm hbm) (X _ _ hC) (looks_findIn X T.iC) (fun self => bind_fn X self T.tC) (line1 v) ?_
  refine init_runs (s := ⟨(hp.push (kdv_tup [v])).push (excO C hp.objs.size), g, dr, tk, os⟩) T Md (fun b o e => k b o (kb b o e)) (hlim.keeps k) mine hnx (show A.depth + 1 < recursionLimit from hroom) fun h' tk' dx ⟨k', hx, dn, dne, hns⟩ => ?_
  obtain ⟨t1, hx⟩ := hx
  have z : hp.objs.size + 1 + 1 ≤ dx := by
    have q := dn
    rw [Heap.size_push, Heap.size_push] at q
    exact q
  exact ⟨rfl, hq h' tk' (hp.objs.size + 1) dx ⟨fun b o e => k' b o (Nat.ne_of_lt (Nat.lt_succ_of_lt (Heap.lt_size e))) (k b o e), Nat.le_succ _, ⟨_, _, hx, rfl, rfl, rfl, rfl⟩, Nat.le_trans (Nat.le_trans (Nat.le_succ _) (Nat.le_succ _)) z, dne, hns⟩⟩
end
end Dx
namespace Dx
open PySem PySem.Spec PyProof.Rows L2
theorem rel_index {v : V} {v' : Value} (r : RelV v v') (f : Str) : RelO (List.lookup f [(("index" : Str), v)]) (if f = "index" then some v' else none) := by
  by_cases hf : f = "index"
  · subst hf
    rw [if_pos rfl, show List.lookup ("index" : Str) [(("index" : Str), v)] = some v by simp [List.lookup]]
    exact r
  · have e : (f == ("index" : Str)) = false := by simpa using hf
    rw [if_neg hf, show List.lookup f [(("index" : Str), v)] = none by simp [List.lookup, e]]
    trivial
section
variable {X : Cx} {C fI : Addr}
/-- InvalidDeeds(e) -/
def tMkDed (C : Addr) (ta : TA) : L2.St → Hp → XK → Prop := fun σ H Q => ta σ H fun vs H1 => ∃ v, vs = [v] ∧ ∀ d, H1 d = none → Q (.ref C) (some d) (upd H1 d (.xd [(("index" : Str), v)]))
theorem pmk_ded {a : Expr} {ta : TA} {p pos : Pos} {k : Nat} (T : Ded X.prog X.K X.mg C fI) (hr : Room k X.A) (ha : PA X [a] ta) (hg : Gl X "InvalidDeeds" := by rfl)
    (he : starEach (a :: []) X.env = (false, eval a X.env) :: starEach [] X.env := by rfl) (hpl : (backTo pos (starEach [] X.env)).any (·.1) = false := by rfl) :
    PMk X (.Call (.Name "InvalidDeeds" p) [a] [] pos) (tMkDed C ta) := by
  intro pins s σ H Q I h
  refine wpAny_Call_Name_kw (ld_glob I hg T.gC ?_)
  refine PySem.W.callWith_K (h₀ := X.base) I.ok.mod.kin T.kC (thn (ha.run pos pins s σ H _ I h) fun us s1 hh => ?_) he hpl
  obtain ⟨vs, H1, I1, r1, v, ev, q1⟩ := hh
  subst ev
  refine ⟨I1.kIn, ?_⟩
  cases r1 with
  | cons rv rn =>
    rename_i v' us'
    cases rn
    show wpAny _ _ (call (.ref C) [v']) _ _ _
    have hlim := I1.nolimit
    have kb := I1.bk
    have Md := I1.mod
    obtain ⟨hp, g, dr, tk, os⟩ := s1
    refine wpAny_call (made_runs T Md kb hlim (by have := hr.dp; omega) fun h' tk' e d M => ?_)
    show MkP X pins σ Q (.ref e) ⟨h', g, dr, tk', os⟩
    obtain ⟨oe, fv, hoe, hc, hd, hdat, h1⟩ := M.obj
    obtain ⟨G', g1, g2⟩ := restrict h' fun b => decide (b ≠ e)
    have gk : ∀ b, b ≠ e → G'.get? b = h'.get? b := fun b hb => g1 b (decide_eq_true hb)
    have ge : G'.get? e = none := g2 e (by simp)
    have old : ∀ b o, hp.get? b = some o → G'.get? b = some o := fun b o q => (gk b (Nat.ne_of_lt (Nat.lt_of_lt_of_le (Heap.lt_size q) M.new))).trans (M.keep b o q)
    have hns := M.ns
    have ob : ObjOk X.prog X.w (upd H1 d (.xd [(("index" : Str), v)])) G' d (.xd [(("index" : Str), v)]) := ⟨_, hns.at (fun o q => (gk d M.dne).trans q), fun f => rel_index rv f⟩
    have J : Inv X pins σ (upd H1 d (.xd [(("index" : Str), v)])) ⟨G', g, dr, tk', os⟩ := I1.laid (t' := tk') old M.dbig ob
    refine ⟨e, oe, fv, ⟨G', g, dr, tk', os⟩, _, .ref C, some d, rfl, J, fun b o q => ?_, ge, hoe, ⟨hc, hd⟩, hdat, h1, ?_, rfl, I1.bare, raises_own T.exC T.tyC, q1 d (I1.hok.fresh M.dbig)⟩
    · by_cases hb : b = e
      · have q' : G'.get? b = some o := q
        rw [hb, ge] at q'; cases q'
      · exact (gk b hb).symm.trans q
    · rw [upd_ne (Ne.symm M.dne)]
      exact I1.hok.fresh M.new
/-- raise InvalidDeeds(e) -/
def tRaiseD (C : Addr) (W : WX) (ta : TA) : TS := fun _ σ H => tMkDed C ta σ H fun cls d H' => W cls d σ H'
theorem ps_raiseD {a : Expr} {ta : TA} {W : WX} {p pos pos2 : Pos} {k : Nat} (hc : X.calm = true) (T : Ded X.prog X.K X.mg C fI) (hr : Room k X.A) (tk : Takes X W) (ha : PA X [a] ta) (hg : Gl X "InvalidDeeds" := by rfl)
    (he : starEach (a :: []) X.env = (false, eval a X.env) :: starEach [] X.env := by rfl) (hpl : (backTo pos (starEach [] X.env)).any (·.1) = false := by rfl) :
    PS X (.Raise (some (.Call (.Name "InvalidDeeds" p) [a] [] pos)) none pos2) (tRaiseD C W ta) := ps_raise hc tk (pmk_ded T hr ha hg he hpl)
/-- e.index, e the error that the suite holds (at a; its class cls, its dict d) -/
def tIdx (C : Addr) (a : Addr) (cls : Value) (d : Option Addr) (te : TE) : TE := fun σ H Q => te σ H fun x H1 => x = .ref a ∧ cls = .ref C ∧ ∃ (dd : Addr) (v : V), d = some dd ∧ H1 dd = some (.xd [(("index" : Str), v)]) ∧ Q v H1
theorem pe_idx {a : Addr} {oe : Obj} {cls : Value} {d : Option Addr} {pn : List (Addr × Obj)} {e : Expr} {te : TE} {pos : Pos} (T : Ded X.prog X.K X.mg C fI) (hz : Zc cls d oe) (hf : ∃ vs, oe.data = .fields vs) (he : PE (X.suite a ((a, oe) :: pn)) e te)
    (hb : attributeBase e "index" X.env (eval e X.env) = eval e X.env := by rfl) :
    PE (X.suite a ((a, oe) :: pn)) (.Attribute e "index" pos) (tIdx C a cls d te) := by
  refine ⟨fun pins s σ H Q I h => ?_⟩
  refine attr_of hb (thn (he.run pins s σ H _ I h) fun u s1 hh => ?_)
  obtain ⟨x, H1, I1, rx, ex, ec, dd, v, ed, ea, q⟩ := hh
  subst ex
  obtain rfl : u = Value.ref a := rx
  subst ec
  subst ed
  obtain ⟨ha, _⟩ := I1.pin (a, oe) (List.mem_append_left _ List.mem_cons_self)
  obtain ⟨vs, hd⟩ := hf
  obtain ⟨mA, hns, hr⟩ : ObjOk X.prog X.w H1 s1.heap dd (.xd [(("index" : Str), v)]) := I1.hok dd _ ea
  obtain ⟨od, ho, hl⟩ := lookIn_ns hns
  obtain ⟨u, hu, ru⟩ := RelO.some_of (v := v) (o := mA "index") (by rw [← show List.lookup ("index" : Str) [(("index" : Str), v)] = some v by simp [List.lookup]]; exact hr "index")
  have J : PySem.W.InstAt s1.heap a oe C (some od) := ⟨ha, hz.1, by unfold PySem.W.notCls; rw [hd] <;> rfl, by rw [hz.2]; exact ho⟩
  exact PySem.HandSPX.exc_get I1.kIn J T.ga T.gg T.exC (PySem.W.findObj_own T.hdC T.noN rfl (by rw [hl, hu])) (handed_of ru) ⟨v, H1, I1.tok _, ru, q⟩
end
end Dx

/-! deeds that are refused; what the functions on sheets tell -/
namespace Dx
open PySem PySem.Spec PyProof.Rows L2 DL Bo Fr Lw
section
variable {P : Program} {w : World} {K : PySem.W.Frag} {mg : Str → Option Value} {base : Heap} {CX : CXT} {k : Nat} {f : Addr} {fd : FuncData} {ps : List Str} {x : Str} {sp sp' : Sp}
theorem fn_or (F : FnOk P w K mg base CX k f fd ps sp) (G : FnOk P w K mg base CX k f fd ps sp') : FnOk P w K mg base CX k f fd ps (fun vs H Q E => sp vs H Q E ∨ sp' vs H Q E) :=
  ⟨fun vs H Q E h => h.elim (F.len vs H Q E) (G.len vs H Q E), fun A outer s H args us vs Q E hr he hb hv h => h.elim (F.run A outer s H args us vs Q E hr he hb hv) (G.run A outer s H args us vs Q E hr he hb hv)⟩
theorem fn_toX (F : FnOk P w K mg base CX0 k f fd ps sp) : FnOk P w K mg base CX k f fd ps sp :=
  ⟨F.len, fun A outer s H args us vs Q E hr he hb hv h => PySem.codeAny_mono (F.run A outer s H args us vs Q E hr he hb hv h) fun r s' q => by
    cases r with
    | error e => exact False.elim q
    | ok fl =>
      cases fl <;> exact q⟩
end
/-- data that are no deeds; the index that is told -/
inductive Bad : PyData → Option Nat → Prop
  | no {D : PyData} : isTuple D 0 400 = false → Bad D none
  | put {ds : List Deed} {d : PyData} {rest : List PyData} : ds.length + 1 + rest.length ≤ 400 → okAll st0 ds = true → deedOk (runAll ([], st0) ds).2 d = false → Bad (.tuple (ds.map deedD ++ d :: rest)) (some ds.length)
def idxV : Option Nat → V
  | none => .non
  | some n => .int (n : Int)
def idxD : Option Nat → PyData
  | none => .none
  | some n => .int (n : Int)
theorem idx_dp {K : PySem.W.Frag} {F : Hp} (o : Option Nat) : Dp K F (idxV o) (idxD o) := by
  cases o with
  | none => exact .non
  | some n => exact .int _
/-- what is raised -/
def Raised (CI : Addr) (F H : Hp) (o : Option Nat) (E : XK) : Prop := ∀ d F' H', Gr [] F H F' H' → H' d = some (.xd [(("index" : Str), idxV o)]) → E (.ref CI) (some d) H'
def spGoneB (K : PySem.W.Frag) (CI : Addr) : Sp := fun vs H _ E => ∃ (F : Hp) (v : V) (D : PyData) (o : Option Nat), vs = [v] ∧ Same F H ∧ Dp K F v D ∧ Bad D o ∧ Raised CI F H o E
def spGoneX (K : PySem.W.Frag) (C CI : Addr) : Sp := fun vs H Q E => spGone K C vs H Q E ∨ spGoneB K CI vs H Q E
def Well (D : PyData) (ds : List Deed) : Prop := D = .tuple (ds.map deedD) ∧ ds.length ≤ 400 ∧ okAll st0 ds = true
def spIsDeeds (K : PySem.W.Frag) : Sp := fun vs H Q _ => ∃ (F : Hp) (v : V) (D : PyData) (b : Bool), vs = [v] ∧ Same F H ∧ Dp K F v D ∧ ((b = true ∧ ∃ ds, Well D ds) ∨ (b = false ∧ ∃ o, Bad D o)) ∧ ∀ F' H', Gr [] F H F' H' → Q (.bl b) H'
def spRefs (K : PySem.W.Frag) : Sp := fun vs H Q _ => ∃ (F : Hp) (v : V) (ds : List Deed), vs = [v] ∧ Same F H ∧ Dp K F v (.tuple (ds.map deedD)) ∧ ds.length ≤ 400 ∧ okAll st0 ds = true ∧
  ∀ w F' H', Gr [] F H F' H' → Dp K F' w (.tuple ((runAll ([], st0) ds).1.map evD)) → Q w H'
def prZ (p : Int × Int) : PyData := .tuple [.int p.1, .int p.2]
/-- the bodies that are there, ascending, each with the number of sheets that have it -/
def cntsL (st : BSt) : List (Int × Int) := (sortI (keysA st.shares)).map fun b => (b, cnt st b)
def spCounts (K : PySem.W.Frag) : Sp := fun vs H Q _ => ∃ (F : Hp) (v : V) (ds : List Deed), vs = [v] ∧ Same F H ∧ Dp K F v (.tuple (ds.map deedD)) ∧ ds.length ≤ 400 ∧ okAll st0 ds = true ∧
  ∀ w F' H', Gr [] F H F' H' → Dp K F' w (.tuple ((cntsL (runAll ([], st0) ds).2).map prZ)) → Q w H'
def spOwners (K : PySem.W.Frag) : Sp := fun vs H Q _ => ∃ (F : Hp) (v : V) (ds : List Deed) (b : Int), vs = [v, .int b] ∧ Same F H ∧ Dp K F v (.tuple (ds.map deedD)) ∧ ds.length ≤ 400 ∧ okAll st0 ds = true ∧ 0 ≤ b ∧
  ∀ w F' H', Gr [] F H F' H' → Dp K F' w (.tuple (havingD (runAll ([], st0) ds).2.sheets b)) → Q w H'
def spIsInt : Sp := fun vs H Q _ => ∃ b : Int, vs = [.int b, .int 0, .non] ∧ 0 ≤ b ∧ Q (.bl true) H
end Dx
namespace S
open PySem PySem.Spec PyProof.Rows L2 DL Dx
theorem raiseD {C : Addr} {W : WX} {ta : TA} {D : Ends} {σ : L2.St} {H : Hp} (q : ta σ H fun vs H1 => ∃ v, vs = [v] ∧ ∀ d, H1 d = none → W (.ref C) (some d) σ (upd H1 d (.xd [(("index" : Str), v)]))) : tRaiseD C W ta D σ H := q
end S

/-! plain: counts and owners are what the law works out -/
namespace Dx
open PySem PySem.Spec PyProof.Rows L2 DL Bo Fr Lw
theorem perm_uniq {α : Type} {r : α → α → Prop} (anti : ∀ a b, r a b → r b a → a = b) : ∀ {l l' : List α}, l.Perm l' → l.Pairwise r → l'.Pairwise r → l = l'
  | [], l', p, _, _ => (List.Perm.eq_nil p.symm).symm
  | a :: l, [], p, _, _ => absurd p.length_eq (by simp)
  | a :: l, b :: l', p, h, h' => by
    have e : a = b := by
      rcases List.mem_cons.mp (p.mem_iff.mp (List.mem_cons_self (a := a) (l := l))) with e | ha
      · exact e
      · rcases List.mem_cons.mp (p.mem_iff.mpr (List.mem_cons_self (a := b) (l := l'))) with e | hb
        · exact e.symm
        · exact anti a b ((List.pairwise_cons.mp h).1 b hb) ((List.pairwise_cons.mp h').1 a ha)
    subst e
    rw [perm_uniq anti p.cons_inv (List.pairwise_cons.mp h).2 (List.pairwise_cons.mp h').2]
/-- not behind -/
def leP (p q : Int × Int) : Prop := SrtO.lexB q p = false
theorem leP_anti (p q : Int × Int) (h : leP p q) (h' : leP q p) : p = q := by
  have a := SrtO.lexB_no.mp h
  have b := SrtO.lexB_no.mp h'
  have e1 : p.1 = q.1 := by omega
  have e2 : p.2 = q.2 := by omega
  exact Prod.ext e1 e2
theorem leP_fst {p q : Int × Int} (h : p.1 < q.1) : leP p q := SrtO.lexB_no.mpr (by omega)
theorem leP_snd {p q : Int × Int} (e : p.1 = q.1) (h : p.2 ≤ q.2) : leP p q := SrtO.lexB_no.mpr (by omega)
theorem srtd_leP {k : V → Int × Int} {ys : List V} (h : SrtO.Srtd (ltP k) ys) : (ys.map k).Pairwise leP := List.pairwise_map.mpr (h.imp fun z => z)
/-- strictly ascending -/
theorem sortI_lt {l : List Int} (nd : l.Nodup) : (sortI l).Pairwise (· < ·) := by
  have h1 := sortI_sorted l
  have h2 : (sortI l).Pairwise (· ≠ ·) := (sortI_perm l).nodup_iff.mpr nd
  exact (h1.and h2).imp fun ⟨a, b⟩ => by omega
theorem cnts_perm {n : Nat} {st : BSt} (h : BOk n st) : (cntsL st).Perm st.shares := by
  unfold cntsL
  refine ((sortI_perm _).map _).trans ?_
  unfold keysA
  rw [List.map_map]
  have e : st.shares.map ((fun b => (b, cnt st b)) ∘ fun p : Int × Int => p.1) = st.shares := by
    conv => rhs; rw [← List.map_id st.shares]
    refine List.map_congr_left fun p hp => ?_
    show (p.1, cnt st p.1) = p
    unfold Bo.cnt
    rw [getA_of_mem h.ndh (a := p.2) hp] <;> rfl
  rw [e]
theorem cnts_sorted {n : Nat} {st : BSt} (h : BOk n st) : (cntsL st).Pairwise leP := by
  unfold cntsL
  exact List.pairwise_map.mpr ((sortI_lt h.ndh).imp fun z => leP_fst z)
theorem cnts_uniq {n : Nat} {st : BSt} (h : BOk n st) {l : List (Int × Int)} (p : l.Perm st.shares) (s : l.Pairwise leP) : l = cntsL st := perm_uniq leP_anti (p.trans (cnts_perm h).symm) s (cnts_sorted h)
/-! ### owners -/
def rowP (t : Int) (row : AL Int) (b : Int) : List (Int × Int) := ((sortI (keysA row)).filter fun s => decide (getA row s = some b)).map fun s => (t, s)
def havingP (sh : AL (AL Int)) (b : Int) : List (Int × Int) := (sortI (keysA sh)).flatMap fun t => rowP t ((getA sh t).getD []) b
theorem having_P (sh : AL (AL Int)) (b : Int) : havingD sh b = (havingP sh b).map prZ := by
  unfold havingD havingP
  rw [List.map_flatMap]
  congr 1
  funext t
  unfold rowD rowP
  rw [List.map_map]
  rfl
/-- as the comprehension goes -/
def foundR (t : Int) (row : AL Int) (b : Int) : List (Int × Int) := (row.filter fun q => decide (q.2 = b)).map fun q => (t, q.1)
def foundP (sh : AL (AL Int)) (b : Int) : List (Int × Int) := sh.flatMap fun p => foundR p.1 p.2 b
theorem flat_perm {α β : Type} {f g : α → List β} : ∀ {l : List α}, (∀ a ∈ l, (f a).Perm (g a)) → (l.flatMap f).Perm (l.flatMap g)
  | [], _ => .refl _
  | a :: l, h => by
    rw [List.flatMap_cons, List.flatMap_cons]
    exact (h a List.mem_cons_self).append (flat_perm fun x hx => h x (List.mem_cons_of_mem _ hx))
theorem row_perm {t : Int} {row : AL Int} {b : Int} (nd : (keysA row).Nodup) : (foundR t row b).Perm (rowP t row b) := by
  unfold foundR rowP
  have e1 : (row.filter fun q => decide (q.2 = b)).map (fun q => (t, q.1)) = (((keysA row).filter fun s => decide (getA row s = some b)).map fun s => (t, s)) := by
    unfold keysA
    rw [List.filter_map, List.map_map]
    have e2 : row.filter ((fun s => decide (getA row s = some b)) ∘ fun p : Int × Int => p.1) = row.filter fun q => decide (q.2 = b) := by
      refine List.filter_congr fun p hp => ?_
      show decide (getA row p.1 = some b) = decide (p.2 = b)
      rw [getA_of_mem nd (a := p.2) hp]
      simp
    have e3 : row.filter ((fun s => decide (getA row s = some b)) ∘ fun x : Int × Int => x.1) = row.filter fun q => decide (q.2 = b) := e2
    exact (congrArg (List.map fun q : Int × Int => (t, q.1)) e3).symm
  rw [e1]
  exact (((sortI_perm (keysA row)).symm).filter _).map _
theorem found_perm {sh : AL (AL Int)} {b : Int} (nd : (keysA sh).Nodup) (nr : ∀ p ∈ sh, (keysA p.2).Nodup) : (foundP sh b).Perm (havingP sh b) := by
  have e : (keysA sh).flatMap (fun t => rowP t ((getA sh t).getD []) b) = sh.flatMap fun p => rowP p.1 ((getA sh p.1).getD []) b := by
    unfold keysA
    rw [List.flatMap_map]
  have h2 : (havingP sh b).Perm ((keysA sh).flatMap fun t => rowP t ((getA sh t).getD []) b) := (sortI_perm _).flatMap_right _
  refine List.Perm.trans ?_ h2.symm
  rw [e]
  refine flat_perm fun p hp => ?_
  rw [getA_of_mem nd (a := p.2) hp]
  exact row_perm (nr p hp)
theorem having_sorted {sh : AL (AL Int)} {b : Int} (nd : (keysA sh).Nodup) (nr : ∀ p ∈ sh, (keysA p.2).Nodup) : (havingP sh b).Pairwise leP := by
  unfold havingP
  refine List.pairwise_flatMap.mpr ⟨fun t ht => ?_, (sortI_lt nd).imp fun {t u} z => fun x hx y hy => ?_⟩
  · unfold rowP
    exact List.pairwise_map.mpr (((sortI_sorted _).filter _).imp fun {a c} z => leP_snd (p := (t, a)) (q := (t, c)) rfl z)
  · unfold rowP at hx hy
    obtain ⟨a, _, rfl⟩ := List.mem_map.mp hx
    obtain ⟨c, _, rfl⟩ := List.mem_map.mp hy
    exact leP_fst z
theorem having_uniq {sh : AL (AL Int)} {b : Int} (nd : (keysA sh).Nodup) (nr : ∀ p ∈ sh, (keysA p.2).Nodup) {l : List (Int × Int)} (p : l.Perm (foundP sh b)) (s : l.Pairwise leP) : l = havingP sh b := perm_uniq leP_anti (p.trans (found_perm nd nr)) s (having_sorted nd nr)
/-! ### what the law gathers -/
def dueL (st : BSt) (m : Nat) : List (Int × Int) := ((List.range m).filter fun (i : Nat) => !decide (occ st.sheets i = 0)).map fun (i : Nat) => ((i : Int), (occ st.sheets i : Int))
theorem due_snoc (st : BSt) (m : Nat) : dueL st (m + 1) = if occ st.sheets m = 0 then dueL st m else dueL st m ++ [((m : Int), (occ st.sheets m : Int))] := by
  unfold dueL
  rw [List.range_succ, List.filter_append, List.map_append]
  by_cases e : occ st.sheets m = 0
  · rw [if_pos e]
    simp [e]
  · rw [if_neg e]
    simp [e]
theorem due_all {n : Nat} {st : BSt} (h : BOk n st) {m : Nat} (hm : st.next ≤ m) : dueL st m = cntsL st := by
  refine cnts_uniq h ?_ ?_
  · have nd1 : (dueL st m).Nodup := by
      unfold dueL
      refine List.pairwise_map.mpr ((List.nodup_range.filter _).imp fun z e => z ?_)
      exact Int.ofNat.inj (congrArg Prod.fst e)
    have nd2 : st.shares.Nodup := (List.pairwise_map.mp (show (st.shares.map (·.1)).Pairwise (· ≠ ·) from h.ndh)).imp fun z e => z (by rw [e])
    refine (List.perm_ext_iff_of_nodup nd1 nd2).mpr fun p => ⟨fun hp => ?_, fun hp => ?_⟩
    · obtain ⟨i, hi, rfl⟩ := List.mem_map.mp hp
      have hi2 := (List.mem_filter.mp hi).2
      refine getA_mem ?_
      rw [h.sh i, if_neg (by simpa using hi2)]
    · have hg : getA st.shares p.1 = some p.2 := getA_of_mem h.ndh hp
      rw [h.sh p.1] at hg
      by_cases e : occ st.sheets p.1 = 0
      · rw [if_pos e] at hg; cases hg
      · rw [if_neg e] at hg
        obtain ⟨h1, h2⟩ := h.lt p.1 e
        refine List.mem_map.mpr ⟨p.1.toNat, List.mem_filter.mpr ⟨List.mem_range.mpr (by omega), ?_⟩, ?_⟩
        · have e2 : ((p.1.toNat : Nat) : Int) = p.1 := by omega
          rw [e2]
          simpa using e
        · have e2 : ((p.1.toNat : Nat) : Int) = p.1 := by omega
          rw [e2, Option.some.inj hg]
  · unfold dueL
    refine List.pairwise_map.mpr ((List.pairwise_lt_range.filter _).imp fun {a b} z => leP_fst ?_)
    show (a : Int) < b
    omega
/-- pairs that are new, as data -/
theorem pairs_frz {K : PySem.W.Frag} {F H H' : Hp} {ys : List V} {k : V → Int × Int} (sm : Same F H) (hs : Same H H') (hy : ∀ y ∈ ys, ∃ t, y = V.ref t ∧ H t = none ∧ H' t = some (.tup [.int (k y).1, .int (k y).2])) :
    ∃ F', Gr [] F H F' H' ∧ (∀ b, F b = none → (∀ y ∈ ys, y ≠ .ref b) → F' b = none) ∧ DpAll K F' ys ((ys.map k).map prZ) := by
  refine ⟨fun b => if (ys.any fun y => decide (y = .ref b)) = true then H' b else F b, ⟨fun b o e => ?_, fun b o _ e => hs b o e, fun b o e => ?_, fun b e hb => ?_, fun b hb => ?_⟩, fun b e n => ?_, ?_⟩
  · show (if _ then _ else _) = _
    by_cases c : (ys.any fun y => decide (y = .ref b)) = true
    · rw [if_pos c]
      exact hs b o (sm b o e)
    · rw [if_neg c]; exact e
  · have e' : (if (ys.any fun y => decide (y = .ref b)) = true then H' b else F b) = some o := e
    by_cases c : (ys.any fun y => decide (y = .ref b)) = true
    · rw [if_pos c] at e'; exact e'
    · rw [if_neg c] at e'; exact hs b o (sm b o e')
  · show (if _ then _ else _) = _
    rw [if_neg fun c => ?_]
    · exact e
    · obtain ⟨y, hm, hd⟩ := List.any_eq_true.mp c
      obtain ⟨t, e1, e2, _⟩ := hy y hm
      have e3 : y = .ref b := of_decide_eq_true hd
      rw [e1] at e3
      cases e3
      exact hb e2
  · cases q : H b with
    | none => exact absurd q hb
    | some o => rw [hs b o q]; exact fun z => nomatch z
  · show (if _ then _ else _) = _
    rw [if_neg fun c => ?_]
    · exact e
    · obtain ⟨y, hm, hd⟩ := List.any_eq_true.mp c
      exact n y hm (of_decide_eq_true hd)
  · have key : ∀ l : List V, (∀ y ∈ l, y ∈ ys) → DpAll K (fun b => if (ys.any fun y => decide (y = .ref b)) = true then H' b else F b) l ((l.map k).map prZ) := by
      intro l
      induction l with
      | nil => exact fun _ => .nil
      | cons y l ih =>
        intro hl
        obtain ⟨t, e1, e2, e3⟩ := hy y (hl y List.mem_cons_self)
        refine .cons ?_ (ih fun z hz => hl z (List.mem_cons_of_mem _ hz))
        subst e1
        refine .tup (.inl (.inl ?_)) (.cons (.int _) (.cons (.int _) .nil))
        show (if _ then _ else _) = _
        rw [if_pos (List.any_eq_true.mpr ⟨_, hl _ List.mem_cons_self, decide_eq_true rfl⟩)]
        exact e3
    exact key ys fun _ h => h
theorem _root_.DL.Gr.unlock {L : List (Addr × HO)} {F H H2 F' H' : Hp} (lk : Locked L H H2) (nd : (L.map (·.1)).Nodup) (hm : ∀ p ∈ L, H p.1 = some p.2 ∧ F p.1 = none) (g : Gr [] F H2 F' H') : Gr [] F H F' (unl L H') := by
  have live : ∀ b, H b ≠ none → H2 b ≠ none := fun b hb => by
    by_cases c : b ∈ L.map (·.1)
    · obtain ⟨p, hp, rfl⟩ := List.mem_map.mp c
      obtain ⟨od, e⟩ := lk.at_ p hp
      rw [e]; exact fun z => nomatch z
    · rw [lk.off b c]; exact hb
  have kp : ∀ b o, H b = some o → unl L H' b = some o := fun b o e => by
    by_cases c : b ∈ L.map (·.1)
    · obtain ⟨p, hp, rfl⟩ := List.mem_map.mp c
      rw [unl_in nd hp, ← (hm p hp).1, e]
    · rw [unl_off c]
      exact g.at0 (by rw [lk.off b c]; exact e)
  refine ⟨g.fs, fun b o _ e => kp b o e, fun b o e => ?_, fun b e hb => g.own b e (live b hb), fun b hb => ?_⟩
  · by_cases c : b ∈ L.map (·.1)
    · obtain ⟨p, hp, rfl⟩ := List.mem_map.mp c
      have n := g.own p.1 (hm p hp).2 (live p.1 (by rw [(hm p hp).1]; exact fun z => nomatch z))
      rw [n] at e; cases e
    · rw [unl_off c]
      exact g.sub b o e
  · cases q : H b with
    | none => exact absurd q hb
    | some o => rw [kp b o q]; exact fun z => nomatch z
/-- pairs of ints, each at its address -/
def PairsIn (F : Hp) : List V → List (Int × Int) → Prop
  | [], [] => True
  | x :: xs, p :: ps => (∃ t, x = .ref t ∧ F t = some (.tup [.int p.1, .int p.2])) ∧ PairsIn F xs ps
  | _, _ => False
theorem PairsIn.to {F F' : Hp} (e : Same F F') : ∀ {xs : List V} {ps : List (Int × Int)}, PairsIn F xs ps → PairsIn F' xs ps
  | [], [], h => h
  | _ :: _, _ :: _, ⟨⟨t, h1, h2⟩, h⟩ => ⟨⟨t, h1, e _ _ h2⟩, PairsIn.to e h⟩
  | [], _ :: _, h => h.elim
  | _ :: _, [], h => h.elim
theorem PairsIn.app {F : Hp} : ∀ {xs ys : List V} {ps qs : List (Int × Int)}, PairsIn F xs ps → PairsIn F ys qs → PairsIn F (xs ++ ys) (ps ++ qs)
  | [], _, [], _, _, h => h
  | _ :: _, _, _ :: _, _, ⟨h1, h2⟩, h => ⟨h1, PairsIn.app h2 h⟩
  | [], _, _ :: _, _, h, _ => h.elim
  | _ :: _, _, [], _, h, _ => h.elim
theorem PairsIn.at_ {F : Hp} : ∀ {xs : List V} {ps : List (Int × Int)}, PairsIn F xs ps → ∀ x ∈ xs, ∃ t, x = .ref t ∧ F t = some (.tup [.int (pk F x).1, .int (pk F x).2])
  | [], [], _, x, hx => by cases hx
  | y :: xs, p :: ps, ⟨⟨t, h1, h2⟩, h⟩, x, hx => by
    rcases List.mem_cons.mp hx with e | e
    · rw [e, h1]
      refine ⟨t, rfl, ?_⟩
      rw [pk_of h2]
      exact h2
    · exact PairsIn.at_ h x e
  | [], _ :: _, h, _, _ => h.elim
  | _ :: _, [], h, _, _ => h.elim
theorem PairsIn.ks {F : Hp} : ∀ {xs : List V} {ps : List (Int × Int)}, PairsIn F xs ps → xs.map (pk F) = ps
  | [], [], _ => rfl
  | y :: xs, p :: ps, ⟨⟨t, h1, h2⟩, h⟩ => by
    rw [List.map_cons, PairsIn.ks h, h1, pk_of h2]
  | [], _ :: _, h => h.elim
  | _ :: _, [], h => h.elim
theorem dp_pairs {K : PySem.W.Frag} {F : Hp} {k : V → Int × Int} : ∀ {ys : List V}, (∀ y ∈ ys, ∃ t, y = V.ref t ∧ F t = some (.tup [.int (k y).1, .int (k y).2])) → DpAll K F ys ((ys.map k).map prZ)
  | [], _ => .nil
  | y :: ys, h => by
    obtain ⟨t, e1, e2⟩ := h y List.mem_cons_self
    refine .cons ?_ (dp_pairs fun z hz => h z (List.mem_cons_of_mem _ hz))
    have e3 : Dp K F (.ref t) (prZ (k y)) := .tup (.inl (.inl e2)) (.cons (.int _) (.cons (.int _) .nil))
    rw [e1] at e3 ⊢
    exact e3
theorem foundP_snoc (sh : AL (AL Int)) (p : Int × AL Int) (b : Int) : foundP (sh ++ [p]) b = foundP sh b ++ foundR p.1 p.2 b := by
  unfold foundP
  rw [List.flatMap_append, List.flatMap_cons, List.flatMap_nil, List.append_nil]
theorem foundR_snoc (t : Int) (row : AL Int) (q : Int × Int) (b : Int) : foundR t (row ++ [q]) b = if q.2 = b then foundR t row b ++ [(t, q.1)] else foundR t row b := by
  unfold foundR
  rw [List.filter_append, List.map_append]
  by_cases e : q.2 = b
  · rw [if_pos e]; simp [e]
  · rw [if_neg e]; simp [e]
theorem sheets_take (T : AL (Addr × AL Int)) (i : Nat) : sheetsOf (T.take i) = (sheetsOf T).take i := by unfold sheetsOf; rw [List.map_take]
end Dx
namespace S
open PySem PySem.Spec PyProof.Rows L2 DL
theorem lockS {t : TS} {D : Ends} {σ : L2.St} {H : Hp} (L : List (Addr × HO)) (nd : (L.map (·.1)).Nodup) (hm : ∀ p ∈ L, H p.1 = some p.2 ∧ Mut (some p.2)) (h : ∀ H1, Locked L H H1 → t (endsL L H1 D) σ H1) : tLockS t D σ H := ⟨_, lockS_of L D H nd hm h⟩
theorem lc2 {wi : TI} {g : TG} {tt : TT} {wi1 : TI} {g1 : TG} {tt1 : TT} {te : TE} {vs vs1 : List Nat} {σ : L2.St} {H : Hp} {Q : VK} (q : wi σ H fun J H1 => ∀ D, H1 D = none → ∃ W : Nat → Nat → Hp → Prop, (∃ m, W 0 m (upd H1 D (.lst []))) ∧ ∀ i m H, W i m H →
  (J.stop i H ∧ Q (.ref D) H) ∨ (J.go i H ∧ ∃ Nx : Hp → Prop, (∀ H', Nx H' → ∃ m', m' < m ∧ W (i + 1) m' H') ∧ ∀ x H', J.yld i H x H' → g x (wipe σ vs) H' fun σ2 H2 => wipe σ2 vs = wipe σ vs ∧ tt σ2 H2 fun b H3 =>
    if b = true then wi1 σ2 H3 fun J1 H4 => ∃ W1 : Nat → Nat → Hp → Prop, (∃ m, W1 0 m H4) ∧ ∀ j k H, W1 j k H →
      (J1.stop j H ∧ Nx H) ∨ (J1.go j H ∧ ∃ Nx1 : Hp → Prop, (∀ H', Nx1 H' → ∃ k', k' < k ∧ W1 (j + 1) k' H') ∧ ∀ x H', J1.yld j H x H' → g1 x (wipe σ2 vs1) H' fun σ3 H5 => wipe σ3 vs1 = wipe σ2 vs1 ∧ tt1 σ3 H5 fun b H6 =>
        if b = true then te σ3 H6 fun y H7 => ∃ acc, H7 D = some (.lst acc) ∧ acc.length < sizeLine ∧ Nx1 (upd H7 D (.lst (acc ++ [y]))) else Nx1 H6)
    else Nx H3)) : tLc2 wi g tt wi1 g1 tt1 te vs vs1 σ H Q := q
end S

/-! k02's law: what its helpers promise, and plain facts -/
namespace Dx
open PySem PySem.Spec PyProof.Rows L2 DL Bo Fr Lw
theorem wid_all : ∀ {ds : List PyData}, (∀ d ∈ ds, wid d = true) → widAll ds = true
  | [], _ => rfl
  | d :: ds, h => by
    show (wid d && widAll ds) = true
    rw [h d List.mem_cons_self, wid_all fun x hx => h x (List.mem_cons_of_mem _ hx)]
    rfl
theorem depth_tup {ds : List PyData} (h : PyData.depthAll ds ≤ 1) : (PyData.tuple ds).depth < 3 := by
  have e : (PyData.tuple ds).depth = PyData.depthAll ds + 1 := by simp [PyData.depth]
  omega
theorem wid_tup {ds : List PyData} (h : ∀ d ∈ ds, wid d = true) (hl : ds.length ≤ 1000000) : wid (.tuple ds) = true := by
  show (decide (ds.length ≤ 1000000) && widAll ds) = true
  rw [decide_eq_true hl, wid_all h]
  rfl
theorem evs_ok (es : List Ev) (hl : es.length ≤ 1000000) : (PyData.tuple (es.map evD)).depth < 3 ∧ wid (.tuple (es.map evD)) = true := by
  refine ⟨depth_tup (evs_lay es).2, wid_tup (fun d hd => ?_) (by rw [List.length_map]; exact hl)⟩
  obtain ⟨e, _, rfl⟩ := List.mem_map.mp hd
  cases e <;> simp [evD, wid, widAll]
theorem prs_ok {l : List PyData} (h : ∀ x ∈ l, ∃ a b : Int, x = .tuple [.int a, .int b]) (hl : l.length ≤ 1000000) : (PyData.tuple l).depth < 3 ∧ wid (.tuple l) = true := by
  refine ⟨depth_tup (pair_lay h).2, wid_tup (fun d hd => ?_) hl⟩
  obtain ⟨a, b, rfl⟩ := h d hd
  simp [wid, widAll]
theorem prZ_pairs (ps : List (Int × Int)) : ∀ x ∈ ps.map prZ, ∃ a b : Int, x = .tuple [.int a, .int b] := fun x hx => by
  obtain ⟨p, _, rfl⟩ := List.mem_map.mp hx
  exact ⟨p.1, p.2, rfl⟩
theorem fin_T {ds : List Deed} {sh : List Int} {T : AL (Addr × AL Int)} (ok : okAll st0 ds = true) (hl : sh.length ≤ 50) (hsi : ∀ d ∈ ds, shIn sh d) (se : sheetsOf T = (runAll ([], st0) ds).2.sheets) :
    (keysA T).Nodup ∧ (∀ t ∈ T, (keysA t.2.2).Nodup) ∧ T.length < 64 ∧ (∀ t ∈ T, t.2.2.length < 64) := by
  have hst := (run_ok ok ds.length (Nat.le_refl _)).1
  rw [List.take_length] at hst
  have hkeys := run_keys (ds := ds) (st := st0) (es := []) (fun k hk => by rw [List.mem_singleton.mp (show k ∈ [1] from hk)]; simp) ok
  have hrows := run_rows (sh := sh) (ds := ds) (z := ([], st0)) (fun p hp k hk => by rw [List.mem_singleton.mp (show p ∈ [((1 : Int), ([] : AL Int))] from hp)] at hk; cases hk) hsi
  have hin : ∀ t ∈ T, (t.1, t.2.2) ∈ (runAll ([], st0) ds).2.sheets := fun t ht => by rw [← se]; exact List.mem_map_of_mem (f := fun t : Int × (Addr × AL Int) => (t.1, t.2.2)) ht
  have hrn : ∀ t ∈ T, (keysA t.2.2).Nodup := fun t ht => hst.ndr _ (hin t ht)
  refine ⟨by rw [← keys_sheetsOf, se]; exact hst.nds, hrn, ?_, fun t ht => ?_⟩
  · have h1 := len_of_sub hst.nds hkeys
    have h2 := congrArg List.length se
    simp only [sheetsOf, keysA, List.length_map] at h1 h2
    simp at h1
    omega
  · have h2 := len_of_sub (hrn t ht) (hrows _ (hin t ht))
    simp only [keysA, List.length_map] at h2
    omega
theorem occ_far {n : Nat} {st : BSt} (h : BOk n st) {b : Int} (hb : (n : Int) ≤ b) : occ st.sheets b = 0 := by
  by_cases e : occ st.sheets b = 0
  · exact e
  · have := (h.lt b e).2
    have := h.ln
    omega
theorem having_far {n : Nat} {st : BSt} (h : BOk n st) {b : Int} (hb : (n : Int) ≤ b) : havingD st.sheets b = [] := by
  have e := having_nil (b := b) h.nds h.ndr
  rw [decide_eq_true (occ_far h hb)] at e
  exact List.isEmpty_iff.mp e
theorem having_le {n : Nat} {st : BSt} (h : BOk n st) (b : Int) : (havingD st.sheets b).length ≤ n * (n + 1) := by
  rw [having_len h.nds h.ndr]
  unfold occ
  have key : ∀ l : AL (AL Int), (∀ p ∈ l, p.2.length ≤ n) → (l.map fun p => occR p.2 b).sum ≤ n * l.length := by
    intro l
    induction l with
    | nil => intro _; simp
    | cons p l ih =>
      intro hl
      rw [List.map_cons, List.sum_cons, List.length_cons, Nat.mul_succ]
      have h1 : occR p.2 b ≤ n := by
        unfold occR
        refine Nat.le_trans (List.count_le_length ..) ?_
        rw [List.length_map]
        exact hl p List.mem_cons_self
      have := ih fun q hq => hl q (List.mem_cons_of_mem _ hq)
      omega
  have := key st.sheets h.lr
  have h3 : n * st.sheets.length ≤ n * (n + 1) := Nat.mul_le_mul_left _ h.ls
  omega
def rev2 {α : Type} : List α → List α → List α
  | [], [a, b] => [b, a]
  | _, _ => []
theorem rev2_rel {vs : List V} {us : List Value} {zs : List V} {ws : List Value} (h : Vals vs us) (h2 : Vals zs ws) : Vals (rev2 vs zs) (rev2 us ws) := by
  cases h with
  | cons _ _ => exact .nil
  | nil =>
    cases h2 with
    | nil => exact .nil
    | cons r1 t =>
      cases t with
      | nil => exact .nil
      | cons r2 t =>
        cases t with
        | nil => exact .cons r2 (.cons r1 .nil)
        | cons _ _ => exact .nil
def spRight (K : PySem.W.Frag) : Sp := fun vs H Q _ => ∃ (F : Hp) (v : V) (ds : List Deed) (sh : List Int), vs = [v] ∧ Same F H ∧ Dp K F v (.tuple (ds.map deedD)) ∧ ds.length ≤ 100 ∧ okAll st0 ds = true ∧ sh.length ≤ 50 ∧ (∀ d ∈ ds, shIn sh d) ∧
  ∀ F' H', Gr [] F H F' H' → Q (.bl true) H'
def spRefused (K : PySem.W.Frag) : Sp := fun vs H Q _ => ∃ (F : Hp) (v : V) (D : PyData) (o : Option Nat), vs = [v] ∧ Same F H ∧ Dp K F v D ∧ Bad D o ∧ ∀ F' H', Gr [] F H F' H' → Q (idxV o) H'
def spSpoilt (K : PySem.W.Frag) : Sp := fun vs H Q _ => ∃ (F : Hp) (q : Addr) (v : V) (ds : List Deed) (m : Nat), vs = [.ref q, v] ∧ Same F H ∧ F q = none ∧ DkAt H q m ∧ m ≤ 10000 ∧ Dp K F v (.tuple (ds.map deedD)) ∧ ds.length ≤ 100 ∧ okAll st0 ds = true ∧
  (∃ t, (getA (runAll ([], st0) ds).2.sheets t).isSome = true) ∧ ∀ F' H', Gr [q] F H F' H' → Q (.bl true) H'
def spLawK02 (K : PySem.W.Frag) : Sp := fun vs H Q _ => ∃ (a : Addr) (ns : List Int), vs = [.ref a] ∧ SqL K H a (ns.map V.int) ∧ ns.length ≤ 63 ∧ ∀ H', Q (.bl true) H'
/-! ### who is there -/
structure TInv (there : List Int) (st : BSt) : Prop where
  rg : ∀ t ∈ there, 1 ≤ t ∧ t ≤ 6
  th : ∀ t, t ∈ there ↔ (getA st.sheets t).isSome = true
  m1 : (getA st.met 1).isSome = true
theorem isFrom_in {i lo hi : Int} (h : isFrom (.int i) lo hi = true) : lo ≤ i ∧ i ≤ hi := by
  have h' : (decide (lo ≤ i) && decide (i ≤ hi)) = true := h
  rw [Bool.and_eq_true_iff, decide_eq_true_iff, decide_eq_true_iff] at h'
  exact h'
theorem thereD_in {st : BSt} {t : Int} (h : thereD st (.int t) = true) : (1 ≤ t ∧ t ≤ 6) ∧ (getA st.sheets t).isSome = true := by
  have h' : (isFrom (.int t) 1 6 && (getA st.sheets t).isSome) = true := h
  obtain ⟨a, b⟩ := Bool.and_eq_true_iff.mp h'
  exact ⟨isFrom_in a, b⟩
def thereL (there : List Int) : Deed → List Int
  | .fork _ c => there ++ [c]
  | .fin t => there.filter fun x => !decide (x = t)
  | _ => there
theorem TInv.step {there : List Int} {st : BSt} (h : TInv there st) {d : Deed} (ok : okD st d = true) : TInv (thereL there d) (doneE st d).2 := by
  cases d with
  | load t s => exact h
  | store t s =>
    have hok : (thereD st (.int t) && _) = true := ok
    obtain ⟨_, ha⟩ := thereD_in (Bool.and_eq_true_iff.mp hok).1
    have hw : ∀ sh : AL Int, TInv there (withBody { st with shares := sh } t s) := fun sh => by
      refine ⟨h.rg, fun t' => ?_, h.m1⟩
      show t' ∈ there ↔ (getA (putA st.sheets t _) t').isSome = true
      rw [getA_putA]
      by_cases e : t' = t
      · rw [if_pos e, e]
        exact ⟨fun _ => rfl, fun _ => (h.th t).mpr ha⟩
      · rw [if_neg e]; exact h.th t'
    show TInv there (storeE st t s).2
    unfold storeE
    cases q : bodyOf st t s with
    | none => exact hw st.shares
    | some b =>
      dsimp only
      by_cases e : 1 < cnt st b
      · rw [if_pos e]; exact hw _
      · rw [if_neg e]; exact h
  | fork t c =>
    have hok : (thereD st (.int t) && _) = true := ok
    have h2 := (Bool.and_eq_true_iff.mp hok).2
    have h3 : comeD st (.int c) = true := by simpa using h2
    have h4 : (isFrom (.int c) 1 6 && !(getA st.met c).isSome) = true := h3
    have hc := isFrom_in (Bool.and_eq_true_iff.mp h4).1
    refine ⟨fun x hx => ?_, fun x => ?_, ?_⟩
    · rcases List.mem_append.mp hx with hx | hx
      · exact h.rg x hx
      · rw [List.mem_singleton.mp hx]; exact hc
    · show x ∈ there ++ [c] ↔ (getA (putA st.sheets c _) x).isSome = true
      rw [getA_putA, List.mem_append, List.mem_singleton, h.th x]
      by_cases e : x = c
      · rw [if_pos e]; simp [e]
      · rw [if_neg e]; simp [e]
    · show (getA (putA st.met c ()) 1).isSome = true
      rw [getA_putA]
      by_cases e : (1 : Int) = c
      · rw [if_pos e]; rfl
      · rw [if_neg e]; exact h.m1
  | fin t =>
    refine ⟨fun x hx => h.rg x (List.mem_filter.mp hx).1, fun x => ?_, h.m1⟩
    show x ∈ there.filter _ ↔ (getA (dropA st.sheets t) x).isSome = true
    rw [getA_dropA, List.mem_filter, h.th x]
    by_cases e : x = t
    · rw [if_pos e]; simp [e]
    · rw [if_neg e]; simp [e]
theorem tinv0 : TInv [1] st0 := by
  refine ⟨fun t ht => by rw [List.mem_singleton.mp ht]; decide, fun t => ?_, rfl⟩
  show t ∈ [1] ↔ (getA [((1 : Int), ([] : AL Int))] t).isSome = true
  rw [getA_cons, getA_nil, List.mem_singleton]
  by_cases e : (1 : Int) = t
  · simp [e]
  · simp [e]; omega
theorem alive_at {ds : List Deed} (ok : okAll st0 ds = true) (al : ∃ t, (getA (runAll ([], st0) ds).2.sheets t).isSome = true) (i : Nat) : ∃ t, (getA (runAll ([], st0) (ds.take i)).2.sheets t).isSome = true := by
  by_cases h : i < ds.length
  · have hd : ds[i]? = some ds[i] := by simp [h]
    have o := okAll_at (es := []) ok hd
    generalize ds[i] = d at o
    generalize (runAll ([], st0) (ds.take i)).2 = st at *
    have hok : ∀ t r, deedD d = .tuple (.str r :: .int t :: (match d with | .load _ s | .store _ s => [.int s] | .fork _ c => [.int c] | .fin _ => [])) → (getA st.sheets t).isSome = true := fun t r e => by
      have o' : deedOk st (deedD d) = true := o
      rw [e] at o'
      have o2 : (thereD st (.int t) && _) = true := o'
      exact (thereD_in (Bool.and_eq_true_iff.mp o2).1).2
    cases d with
    | load t s => exact ⟨t, hok t _ rfl⟩
    | store t s => exact ⟨t, hok t _ rfl⟩
    | fork t c => exact ⟨t, hok t _ rfl⟩
    | fin t => exact ⟨t, hok t _ rfl⟩
  · rw [List.take_of_length_le (by omega)]
    exact al
theorem deed_shaped (d : Deed) : SeqAt.shaped (deedD d) = true := by
  have e1 : PyData.strOk "load" = true := by decide +kernel
  have e2 : PyData.strOk "store" = true := by decide +kernel
  have e3 : PyData.strOk "fork" = true := by decide +kernel
  have e4 : PyData.strOk "end" = true := by decide +kernel
  cases d <;> simp [deedD, SeqAt.shaped, PyData.canLayAll0, PyData.depth, PyData.depthAll, PyData.canLay0, e1, e2, e3, e4]
theorem fin_ne (d : Deed) (x : Int) : (!PyData.eqv (deedD d) (deedD (.fin x))) = match d with | .fin t => !decide (x = t) | _ => true := by
  cases d with
  | fin t =>
    by_cases e : t = x
    · subst e
      simp [deedD, PyData.eqv, PyData.eqvAll]
    · have e2 : ¬ x = t := fun z => e z.symm
      simp [deedD, PyData.eqv, PyData.eqvAll, e, e2]
  | _ => simp [deedD, PyData.eqv, PyData.eqvAll]
theorem step_case (there : List Int) (d : Deed) : (∃ t c, d = .fork t c) ∨ (thereL there d = there.filter (fun x => !PyData.eqv (deedD d) (deedD (.fin x))) ∧ ∃ w rst, deedD d = .tuple (.str w :: rst) ∧ w ≠ "fork") := by
  have e : (fun x => !PyData.eqv (deedD d) (deedD (.fin x))) = fun x => match d with | .fin t => !decide (x = t) | _ => true := funext fun x => fin_ne d x
  rw [e]
  cases d with
  | fork t c => exact .inl ⟨t, c, rfl⟩
  | load t s => exact .inr ⟨(List.filter_eq_self.mpr fun _ _ => rfl).symm, _, _, rfl, by decide⟩
  | store t s => exact .inr ⟨(List.filter_eq_self.mpr fun _ _ => rfl).symm, _, _, rfl, by decide⟩
  | fin t => exact .inr ⟨rfl, _, _, rfl, by decide⟩
/-- deeds that can't be done, t one that is there -/
def wrongD (t : Int) : List PyData := [.tuple [.str "load", .int 7, .int 0], .tuple [.str "store", .int 0, .int 0], .tuple [.str "load", .int t, .int 64], .tuple [.str "store", .int t, .int (-1)], .tuple [.str "fork", .int t, .int 1],
  .tuple [.str "fork", .int t, .int t], .tuple [.str "end"], .tuple [.str "load", .int t], .list [.str "end", .int t], .tuple [.str "end", .bool true],
  .tuple [.str "load", .int t, .bool true], .tuple [.str "fork", .int t, .int 7], .tuple [.str "look", .int t, .int 0], .none]
def goneD (g : Int) : List PyData := [.tuple [.str "load", .int g, .int 0], .tuple [.str "end", .int g], .tuple [.str "store", .int g, .int 1]]
theorem deedOk3 (st : BSt) (w : Str) (t x : PyData) : deedOk st (.tuple [.str w, t, x]) = (thereD st t && (if w = "fork" then comeD st x else (decide (w = "load") || decide (w = "store")) && isFrom x 0 63)) := rfl
theorem deedOk2 (st : BSt) (w : Str) (t : PyData) : deedOk st (.tuple [.str w, t]) = (thereD st t && decide (w = "end")) := rfl
theorem come_met {st : BSt} {c : Int} (h : (getA st.met c).isSome = true) : comeD st (.int c) = false := by
  show (isFrom (.int c) 1 6 && !(getA st.met c).isSome) = false
  rw [h]; simp
theorem there_far {st : BSt} {t : Int} (h : ¬ (1 ≤ t ∧ t ≤ 6)) : thereD st (.int t) = false := by
  cases e : thereD st (.int t) with
  | false => rfl
  | true => exact absurd (thereD_in e).1 h
theorem wrong_bad {there : List Int} {n : Nat} {st : BSt} (h : TInv there st) (hs : BOk n st) {t : Int} (ht : t ∈ there) : ∀ d ∈ wrongD t, deedOk st d = false := by
  have hm := hs.mks t ((h.th t).mp ht)
  have c7 : comeD st (.int 7) = false := rfl
  intro d hd
  simp only [wrongD, List.mem_cons, List.not_mem_nil, or_false] at hd
  rcases hd with rfl | rfl | rfl | rfl | rfl | rfl | rfl | rfl | rfl | rfl | rfl | rfl | rfl | rfl
  · rw [deedOk3, there_far (by decide)]; rfl
  · rw [deedOk3, there_far (by decide)]; rfl
  · rw [deedOk3, show isFrom (.int 64) 0 63 = false from rfl, if_neg (by decide), Bool.and_false, Bool.and_false]
  · rw [deedOk3, show isFrom (.int (-1)) 0 63 = false from rfl, if_neg (by decide), Bool.and_false, Bool.and_false]
  · rw [deedOk3, come_met h.m1]; simp
  · rw [deedOk3, come_met hm]; simp
  · rfl
  · rw [deedOk2, decide_eq_false (by decide), Bool.and_false]
  · rfl
  · rw [deedOk2, show thereD st (.bool true) = false from rfl]; rfl
  · rw [deedOk3, show isFrom (.bool true) 0 63 = false from rfl, if_neg (by decide), Bool.and_false, Bool.and_false]
  · rw [deedOk3, c7]; simp
  · rw [deedOk3, if_neg (by decide), decide_eq_false (by decide), decide_eq_false (by decide), Bool.or_false, Bool.false_and, Bool.and_false]
  · rfl
theorem gone_bad {there : List Int} {st : BSt} (h : TInv there st) {g : Int} (hg : g ∉ there) : ∀ d ∈ goneD g, deedOk st d = false := by
  have e : thereD st (.int g) = false := by
    cases e : thereD st (.int g) with
    | false => rfl
    | true => exact absurd ((h.th g).mpr (thereD_in e).2) hg
  intro d hd
  simp only [goneD, List.mem_cons, List.not_mem_nil, or_false] at hd
  rcases hd with rfl | rfl | rfl
  · rw [deedOk3, e]; rfl
  · rw [deedOk2, e]; rfl
  · rw [deedOk3, e]; rfl
end Dx
namespace S
open PySem PySem.Spec PyProof.Rows L2 DL
theorem catT {K : PySem.W.Frag} {F H : Hp} {v w : V} {ds es : List PyData} {Q : VK} (h : Dp K F v (.tuple ds)) (h' : Dp K F w (.tuple es)) (s : Same F H) (hl : ds.length + es.length ≤ 1000000) (q : ∀ u F' H', Gr [] F H F' H' → Dp K F' u (.tuple (ds ++ es)) → Q u H') : rAddU K v w H Q := by
  have h0 := h
  have h0' := h'
  obtain ⟨a, xs, rfl, h1, h2⟩ := dp_tuple h
  obtain ⟨b, ys, rfl, h3, h4⟩ := dp_tuple h'
  have l1 := dp_len h2
  have l2 := dp_len h4
  refine .inr (.inl ⟨a, b, xs, ys, rfl, rfl, same_tup s h1, same_tup s h3, Nat.le_of_lt (Bo.size1000000 (by omega)), fun e => ?_, fun _ e => ?_, fun _ _ p hp => ?_⟩)
  · subst e
    have e2 : ds = [] := List.length_eq_zero_iff.mp (by rw [← l1]; rfl)
    subst e2
    exact q _ F H (Gr.refl s) h0'
  · subst e
    have e2 : es = [] := List.length_eq_zero_iff.mp (by rw [← l2]; rfl)
    subst e2
    exact q _ F H (Gr.refl s) (by rw [List.append_nil]; exact h0)
  · have g : Gr [] F H (upd F p (.tup (xs ++ ys))) (upd H p (.tup (xs ++ ys))) := Gr.new s hp
    exact q _ _ _ g (.tup (.inl (.inl upd_same)) (dp_app (h2.to g.fs) (h4.to g.fs)))
end S

/-! class Pages: what lies in the heap, and how it is changed -/
namespace DL
open PySem PySem.Spec PyProof.Rows L2
theorem Gr.step {W W' : List Addr} {F H F1 H1 F2 H2 : Hp} (a : Gr W F H F1 H1) (b : Gr W' F1 H1 F2 H2) (h : ∀ x ∈ W', x ∈ W ∨ H x = none) : Gr W F H F2 H2 := by
  refine ⟨a.fs.trans b.fs, fun x o n e => b.hs x o (fun z => ?_) (a.hs x o n e), b.sub, fun x f n => b.own x (a.own x f n) (a.live x n), fun x n => b.live x (a.live x n)⟩
  rcases h x z with h | h
  · exact n h
  · rw [h] at e; cases e
end DL
namespace Pg
open PySem PySem.Spec PyProof.Rows L2 DL Bo Fr Lw Dx
structure PSt where
  st : BSt
  fs : FSt
  fg : AL (AL Int)
  ds : List Deed
def pflds (p1 p2 fa pa oa : Addr) : List (Str × V) := [("bodies", .ref p1), ("present", .ref p2), ("figures", .ref fa), ("past", .ref pa), ("on_sheets", .ref oa)]
theorem lk_bodies (p1 p2 fa pa oa : Addr) : (pflds p1 p2 fa pa oa).lookup ("bodies" : Str) = some (.ref p1) := rfl
theorem lk_present (p1 p2 fa pa oa : Addr) : (pflds p1 p2 fa pa oa).lookup ("present" : Str) = some (.ref p2) := rfl
theorem lk_figures (p1 p2 fa pa oa : Addr) : (pflds p1 p2 fa pa oa).lookup ("figures" : Str) = some (.ref fa) := rfl
theorem lk_past (p1 p2 fa pa oa : Addr) : (pflds p1 p2 fa pa oa).lookup ("past" : Str) = some (.ref pa) := rfl
theorem lk_on (p1 p2 fa pa oa : Addr) : (pflds p1 p2 fa pa oa).lookup ("on_sheets" : Str) = some (.ref oa) := rfl
structure PgC (K : PySem.W.Frag) (C : Addr) : Prop where
  cl : Cls K C
  n1 : NoAttr K C "bodies"
  n2 : NoAttr K C "present"
  n3 : NoAttr K C "figures"
  n4 : NoAttr K C "past"
  n5 : NoAttr K C "on_sheets"
structure PP (K : PySem.W.Frag) (C C2 C3 : Addr) (F H : Hp) (pg : Addr) (S : PSt) (p1 p2 fa pa oa : Addr) (T : AL (Addr × AL Int)) (W1 W2 : List Addr) (ps xs : List V) : Prop where
  ob : ∃ dx, H pg = some (.ins C3 dx (pflds p1 p2 fa pa oa))
  bo : BAt C F H p1 S.st W1
  fr : FAt K C2 F H p2 S.fs W2
  tp : TP F H fa T
  fg : sheetsOf T = S.fg
  pl : H pa = some (.lst ps)
  ol : H oa = some (.lst xs)
  dx : DpAll K F xs (S.ds.map deedD)
  pn : ps.length = S.ds.length
  u3 : [pg, pa, oa].Nodup
  f3 : ∀ x ∈ [pg, pa, oa], F x = none
  d1 : ∀ x ∈ [pg, pa, oa], x ∉ fa :: addrsOf T ∧ x ∉ W1 ∧ x ∉ W2
  d2 : ∀ x ∈ fa :: addrsOf T, x ∉ W1 ∧ x ∉ W2
  d3 : ∀ x ∈ W1, x ∉ W2
def allW (pg pa oa fa : Addr) (T : AL (Addr × AL Int)) (W1 W2 : List Addr) : List Addr := [pg, pa, oa] ++ ((fa :: addrsOf T) ++ (W1 ++ W2))
def PgAt (K : PySem.W.Frag) (C C2 C3 : Addr) (F H : Hp) (pg : Addr) (S : PSt) (W : List Addr) : Prop := ∃ p1 p2 fa pa oa T W1 W2 ps xs, W = allW pg pa oa fa T W1 W2 ∧ PP K C C2 C3 F H pg S p1 p2 fa pa oa T W1 W2 ps xs
theorem mem_all {pg pa oa fa : Addr} {T : AL (Addr × AL Int)} {W1 W2 : List Addr} {x : Addr} : x ∈ allW pg pa oa fa T W1 W2 ↔ x ∈ [pg, pa, oa] ∨ x ∈ fa :: addrsOf T ∨ x ∈ W1 ∨ x ∈ W2 := by
  unfold allW
  rw [List.mem_append, List.mem_append, List.mem_append]
section
variable {K : PySem.W.Frag} {C C2 C3 : Addr} {F H : Hp} {pg : Addr} {S : PSt} {p1 p2 fa pa oa : Addr} {T : AL (Addr × AL Int)} {W1 W2 : List Addr} {ps xs : List V}
theorem PP.live (h : PP K C C2 C3 F H pg S p1 p2 fa pa oa T W1 W2 ps xs) : ∀ x ∈ allW pg pa oa fa T W1 W2, H x ≠ none := fun x hx => by
  rcases mem_all.mp hx with hx | hx | hx | hx
  · simp only [List.mem_cons, List.not_mem_nil, or_false] at hx
    rcases hx with rfl | rfl | rfl
    · obtain ⟨dx, e⟩ := h.ob
      rw [e]; exact fun z => nomatch z
    · rw [h.pl]; exact fun z => nomatch z
    · rw [h.ol]; exact fun z => nomatch z
  · exact h.tp.live x hx
  · exact h.bo.live x hx
  · exact h.fr.live x hx
theorem _root_.Fr.FAt.off {p : Addr} {st : FSt} {W : List Addr} (h : FAt K C F H p st W) : ∀ x ∈ W, F x = none := by
  obtain ⟨v, r, m, rfl, P⟩ := h
  exact P.off
theorem PP.off (h : PP K C C2 C3 F H pg S p1 p2 fa pa oa T W1 W2 ps xs) : ∀ x ∈ allW pg pa oa fa T W1 W2, F x = none := fun x hx => by
  rcases mem_all.mp hx with hx | hx | hx | hx
  · exact h.f3 x hx
  · exact h.tp.off x hx
  · exact h.bo.off x hx
  · exact h.fr.off x hx
/-- the own things stand, the parts are told anew -/
theorem PP.set (h : PP K C C2 C3 F H pg S p1 p2 fa pa oa T W1 W2 ps xs) {F' H' : Hp} {S' : PSt} {T' : AL (Addr × AL Int)} {W1' W2' : List Addr} {ps' xs' : List V} {V : List Addr} (g : Gr V F H F' H')
    (ob : ∃ dx, H' pg = some (.ins C3 dx (pflds p1 p2 fa pa oa))) (bo : BAt C F' H' p1 S'.st W1') (fr : FAt K C2 F' H' p2 S'.fs W2') (tp : TP F' H' fa T') (fg : sheetsOf T' = S'.fg) (pl : H' pa = some (.lst ps')) (ol : H' oa = some (.lst xs')) (dx : DpAll K F' xs' (S'.ds.map deedD)) (pn : ps'.length = S'.ds.length)
    (n1 : ∀ x ∈ W1', x ∈ W1 ∨ H x = none) (n2 : ∀ x ∈ W2', x ∈ W2 ∨ H x = none) (nT : ∀ x ∈ fa :: addrsOf T', x ∈ fa :: addrsOf T ∨ (H x = none ∧ x ∉ W1' ∧ x ∉ W2')) (n12 : ∀ x ∈ W1', x ∉ W2' ∨ x ∈ W1) (n21 : ∀ x ∈ W2', x ∉ W1' ∨ x ∈ W2) : PP K C C2 C3 F' H' pg S' p1 p2 fa pa oa T' W1' W2' ps' xs' := by
  have lv := h.live
  have h3 : ∀ x ∈ [pg, pa, oa], H x ≠ none := fun x hx => lv x (mem_all.mpr (.inl hx))
  have hT : ∀ x ∈ fa :: addrsOf T, H x ≠ none := h.tp.live
  have h1 : ∀ x ∈ W1, H x ≠ none := h.bo.live
  have h2 : ∀ x ∈ W2, H x ≠ none := h.fr.live
  refine ⟨ob, bo, fr, tp, fg, pl, ol, dx, pn, h.u3, fun x hx => g.own x (h.f3 x hx) (h3 x hx), fun x hx => ⟨fun z => ?_, fun z => ?_, fun z => ?_⟩, fun x hx => ⟨fun z => ?_, fun z => ?_⟩, fun x hx z => ?_⟩
  · rcases nT x z with q | q
    · exact (h.d1 x hx).1 q
    · exact h3 x hx q.1
  · rcases n1 x z with q | q
    · exact (h.d1 x hx).2.1 q
    · exact h3 x hx q
  · rcases n2 x z with q | q
    · exact (h.d1 x hx).2.2 q
    · exact h3 x hx q
  · rcases nT x hx with q | q
    · rcases n1 x z with y | y
      · exact (h.d2 x q).1 y
      · exact hT x q y
    · exact q.2.1 z
  · rcases nT x hx with q | q
    · rcases n2 x z with y | y
      · exact (h.d2 x q).2 y
      · exact hT x q y
    · exact q.2.2 z
  · rcases n12 x hx with q | q
    · exact q z
    · rcases n21 x z with y | y
      · exact y hx
      · exact h.d3 x q y
theorem PP.keep3 (h : PP K C C2 C3 F H pg S p1 p2 fa pa oa T W1 W2 ps xs) {F' H' : Hp} {V : List Addr} (g : Gr V F H F' H') (n : ∀ x ∈ [pg, pa, oa], x ∉ V) : (∃ dx, H' pg = some (.ins C3 dx (pflds p1 p2 fa pa oa))) ∧ H' pa = some (.lst ps) ∧ H' oa = some (.lst xs) := by
  obtain ⟨dx, e⟩ := h.ob
  exact ⟨⟨dx, g.at (n pg (by simp)) e⟩, g.at (n pa (by simp)) h.pl, g.at (n oa (by simp)) h.ol⟩
theorem PP.gr (h : PP K C C2 C3 F H pg S p1 p2 fa pa oa T W1 W2 ps xs) {F' H' : Hp} {V : List Addr} (g : Gr V F H F' H') (n : ∀ x ∈ allW pg pa oa fa T W1 W2, x ∉ V) : PP K C C2 C3 F' H' pg S p1 p2 fa pa oa T W1 W2 ps xs := by
  obtain ⟨a, b, c⟩ := h.keep3 g fun x hx => n x (mem_all.mpr (.inl hx))
  exact h.set g a (h.bo.gr g fun x hx => n x (mem_all.mpr (.inr (.inr (.inl hx))))) (h.fr.gr g fun x hx => n x (mem_all.mpr (.inr (.inr (.inr hx))))) (h.tp.gr g fun x hx => n x (mem_all.mpr (.inr (.inl hx)))) h.fg b c (h.dx.to g.fs) h.pn
    (fun x hx => .inl hx) (fun x hx => .inl hx) (fun x hx => .inl hx) (fun x hx => .inr hx) (fun x hx => .inr hx)
theorem PP.gr0 (h : PP K C C2 C3 F H pg S p1 p2 fa pa oa T W1 W2 ps xs) {F' H' : Hp} (g : Gr [] F H F' H') : PP K C C2 C3 F' H' pg S p1 p2 fa pa oa T W1 W2 ps xs := h.gr g fun _ _ z => nomatch z
theorem PP.setB (h : PP K C C2 C3 F H pg S p1 p2 fa pa oa T W1 W2 ps xs) {F' H' : Hp} {st' : BSt} {W1' : List Addr} (g : Gr W1 F H F' H') (bo : BAt C F' H' p1 st' W1') (n : ∀ b ∈ W1', b ∈ W1 ∨ H b = none) : PP K C C2 C3 F' H' pg { S with st := st' } p1 p2 fa pa oa T W1' W2 ps xs := by
  obtain ⟨a, b, c⟩ := h.keep3 g fun x hx => (h.d1 x hx).2.1
  refine h.set g a bo (h.fr.gr g fun x hx z => h.d3 x z hx) (h.tp.gr g fun x hx => (h.d2 x hx).1) h.fg b c (h.dx.to g.fs) h.pn n (fun x hx => .inl hx) (fun x hx => .inl hx) (fun x hx => ?_) (fun x hx => .inr hx)
  rcases n x hx with q | q
  · exact .inr q
  · exact .inl fun z => h.fr.live x z q
theorem PP.setF (h : PP K C C2 C3 F H pg S p1 p2 fa pa oa T W1 W2 ps xs) {F' H' : Hp} {fs' : FSt} (g : Gr W2 F H F' H') (fr : FAt K C2 F' H' p2 fs' W2) : PP K C C2 C3 F' H' pg { S with fs := fs' } p1 p2 fa pa oa T W1 W2 ps xs := by
  obtain ⟨a, b, c⟩ := h.keep3 g fun x hx => (h.d1 x hx).2.2
  exact h.set g a (h.bo.gr g fun x hx => h.d3 x hx) fr (h.tp.gr g fun x hx => (h.d2 x hx).2) h.fg b c (h.dx.to g.fs) h.pn (fun x hx => .inl hx) (fun x hx => .inl hx) (fun x hx => .inl hx) (fun x hx => .inr hx) (fun x hx => .inr hx)
theorem same_off {F H : Hp} {q : Addr} {o : HO} (s : Same F H) (fq : F q = none) : Same F (upd H q o) := same_upd_self s fq
theorem gr_put {F H : Hp} {q : Addr} {o : HO} (s : Same F H) (fq : F q = none) : Gr [q] F H F (upd H q o) := Gr.write s fq (by simp)
/-- the two lists grow -/
theorem PP.wPast (h : PP K C C2 C3 F H pg S p1 p2 fa pa oa T W1 W2 ps xs) (sm : Same F H) {c d : V} {dd : Deed} (hd : Dp K F d (deedD dd)) :
    PP K C C2 C3 F (upd (upd H pa (.lst (ps ++ [c]))) oa (.lst (xs ++ [d]))) pg { S with ds := S.ds ++ [dd] } p1 p2 fa pa oa T W1 W2 (ps ++ [c]) (xs ++ [d]) := by
  have u3 := h.u3
  simp only [List.nodup_cons, List.mem_cons, List.not_mem_nil, or_false, not_or] at u3
  obtain ⟨⟨e1, e2⟩, e3, _⟩ := u3
  have fp : F pa = none := h.f3 pa (by simp)
  have fo : F oa = none := h.f3 oa (by simp)
  have g1 : Gr [pa, oa] F H F (upd H pa (.lst (ps ++ [c]))) := Gr.write sm fp (by simp)
  have g2 : Gr [pa, oa] F H F (upd (upd H pa (.lst (ps ++ [c]))) oa (.lst (xs ++ [d]))) := g1.put (q := oa) (by simp) fo
  have dj : ∀ x, x ∈ [pa, oa] → x ∈ [pg, pa, oa] := fun x hx => by simp at hx ⊢; rcases hx with h | h <;> simp [h]
  refine h.set g2 ?_ (h.bo.gr g2 fun x hx z => (h.d1 x (dj x z)).2.1 hx) (h.fr.gr g2 fun x hx z => (h.d1 x (dj x z)).2.2 hx) (h.tp.gr g2 fun x hx z => (h.d1 x (dj x z)).1 hx) h.fg ?_ upd_same ?_ (by simp [h.pn]) (fun x hx => .inl hx) (fun x hx => .inl hx) (fun x hx => .inl hx) (fun x hx => .inr hx) (fun x hx => .inr hx)
  · obtain ⟨dx, e⟩ := h.ob
    exact ⟨dx, by rw [upd_ne e2, upd_ne e1]; exact e⟩
  · rw [upd_ne e3, upd_same]
  · show DpAll K F (xs ++ [d]) ((S.ds ++ [dd]).map deedD)
    rw [List.map_append]
    exact dp_app h.dx (.cons hd .nil)
/-- the figures changed: x is the dict of dicts, or one of them, or a new one -/
theorem PP.wTab (h : PP K C C2 C3 F H pg S p1 p2 fa pa oa T W1 W2 ps xs) (sm : Same F H) {x : Addr} {o : HO} {T' : AL (Addr × AL Int)} (hx : x ∈ fa :: addrsOf T) (tp : TP F (upd H x o) fa T') (nT : ∀ y ∈ fa :: addrsOf T', y ∈ fa :: addrsOf T ∨ (y ∉ [pg, pa, oa] ∧ y ∉ W1 ∧ y ∉ W2)) :
    PP K C C2 C3 F (upd H x o) pg { S with fg := sheetsOf T' } p1 p2 fa pa oa T' W1 W2 ps xs := by
  have fx := h.tp.off x hx
  have g : Gr [x] F H F (upd H x o) := gr_put sm fx
  obtain ⟨a, b, c⟩ := h.keep3 g fun y hy z => (h.d1 y hy).1 (by rw [List.mem_singleton.mp z]; exact hx)
  have bo := h.bo.gr g fun y hy z => (h.d2 x hx).1 (by rw [← List.mem_singleton.mp z]; exact hy)
  have fr := h.fr.gr g fun y hy z => (h.d2 x hx).2 (by rw [← List.mem_singleton.mp z]; exact hy)
  refine ⟨a, bo, fr, tp, rfl, b, c, h.dx, h.pn, h.u3, h.f3, fun y hy => ⟨fun z => ?_, (h.d1 y hy).2⟩, fun y hy => ?_, h.d3⟩
  · rcases nT y z with q | q
    · exact (h.d1 y hy).1 q
    · exact q.1 hy
  · rcases nT y hy with q | q
    · exact h.d2 y q
    · exact q.2
end
/-- the object changed from W to W' -/
def PGo (K : PySem.W.Frag) (C C2 C3 : Addr) (F H : Hp) (pg : Addr) (W : List Addr) (S' : PSt) (F' H' : Hp) : Prop := Gr W F H F' H' ∧ ∃ W', PgAt K C C2 C3 F' H' pg S' W' ∧ ∀ b ∈ W', b ∈ W ∨ H b = none
theorem PGo.trans {K : PySem.W.Frag} {C C2 C3 : Addr} {F H F1 H1 F2 H2 : Hp} {pg : Addr} {W : List Addr} {S1 S2 : PSt} (a : PGo K C C2 C3 F H pg W S1 F1 H1) (b : ∀ W1, PgAt K C C2 C3 F1 H1 pg S1 W1 → PGo K C C2 C3 F1 H1 pg W1 S2 F2 H2) : PGo K C C2 C3 F H pg W S2 F2 H2 := by
  obtain ⟨g, W1, p, n⟩ := a
  obtain ⟨g2, W2, p2, n2⟩ := b W1 p
  refine ⟨g.step g2 n, W2, p2, fun x hx => ?_⟩
  rcases n2 x hx with h | h
  · exact n x h
  · exact .inr (g.free h)
end Pg

/-! plain: the figures behind the bodies are one flat memory for each task -/
namespace Pg
open PySem PySem.Spec PyProof.Rows L2 DL Bo Fr Lw Dx
def rowOf (fg : AL (AL Int)) (b : Int) : AL Int := (getA fg b).getD []
def figOf (fg : AL (AL Int)) (b p : Int) : Int := (getA (rowOf fg b) p).getD 0
/-- the figure of a cell -/
def valP (st : BSt) (fg : AL (AL Int)) (t a : Int) : Int := match bodyOf st t (a / 64) with
  | none => 0
  | some b => figOf fg b (a % 64)
inductive PCall where
  | load (t a : Int) | store (t a f : Int) | fork (t c : Int) | fin (t : Int)
def deedOf : PCall → Deed
  | .load t a => .load t (a / 64)
  | .store t a _ => .store t (a / 64)
  | .fork t c => .fork t c
  | .fin t => .fin t
def evB : Ev → Int
  | .look b => b
  | .make b => b
  | .gone b => b
/-- a store makes a new body -/
def isNew (st : BSt) (t s : Int) : Bool := match bodyOf st t s with
  | none => true
  | some b => decide (1 < cnt st b)
def nowB (st : BSt) (t s : Int) : Int := if isNew st t s then st.next else (bodyOf st t s).getD 0
/-- the row that a store begins with -/
def oldRow (st : BSt) (fg : AL (AL Int)) (t s : Int) : AL Int := match bodyOf st t s with
  | none => []
  | some b => rowOf fg b
def putRow (row : AL Int) (p f : Int) : AL Int := if f = 0 then dropA row p else putA row p f
def figMid (st : BSt) (fg : AL (AL Int)) (t s : Int) : AL (AL Int) := if isNew st t s then putA fg st.next (oldRow st fg t s) else fg
def figStore (st : BSt) (fg : AL (AL Int)) (t a f : Int) : AL (AL Int) := putA (figMid st fg t (a / 64)) (nowB st t (a / 64)) (putRow (oldRow st fg t (a / 64)) (a % 64) f)
def figFin (fg : AL (AL Int)) (es : List Ev) : AL (AL Int) := es.foldl (fun fg e => dropA fg (evB e)) fg
def figStep (st : BSt) (fg : AL (AL Int)) : PCall → AL (AL Int)
  | .load _ _ => fg
  | .store t a f => figStore st fg t a f
  | .fork _ _ => fg
  | .fin t => figFin fg (endE st t).1
structure PInv (st : BSt) (fg : AL (AL Int)) : Prop where
  kf : (keysA fg).Nodup
  fi : ∀ b, (getA fg b).isSome = true ↔ ∃ t s, bodyOf st t s = some b
  nk : ∀ p ∈ fg, (keysA p.2).Nodup
  rg : ∀ p ∈ fg, ∀ c ∈ p.2, (0 ≤ c.1 ∧ c.1 < 64) ∧ c.2 ≠ 0
  us : ∀ t t' s s' b, bodyOf st t s = some b → bodyOf st t' s' = some b → s = s'
/-! ### who has a body -/
theorem having_mem {sh : AL (AL Int)} {b t s : Int} : (t, s) ∈ havingP sh b ↔ getA ((getA sh t).getD []) s = some b := by
  unfold havingP rowP
  rw [List.mem_flatMap]
  constructor
  · rintro ⟨t', ht, hx⟩
    obtain ⟨s', hs, e⟩ := List.mem_map.mp hx
    cases e
    simpa using (List.mem_filter.mp hs).2
  · intro h
    refine ⟨t, (sortI_perm _).mem_iff.mpr ?_, List.mem_map.mpr ⟨s, List.mem_filter.mpr ⟨(sortI_perm _).mem_iff.mpr ?_, by simpa using h⟩, rfl⟩⟩
    · by_cases e : t ∈ keysA sh
      · exact e
      · rw [getA_none.mpr e] at h
        cases h
    · by_cases e : s ∈ keysA ((getA sh t).getD [])
      · exact e
      · rw [getA_none.mpr e] at h
        cases h
theorem havingP_len {n : Nat} {st : BSt} (h : BOk n st) (b : Int) : (havingP st.sheets b).length = occ st.sheets b := by
  rw [← having_len h.nds h.ndr, having_P, List.length_map]
theorem cnt_is {n : Nat} {st : BSt} (h : BOk n st) (b : Int) : cnt st b = (occ st.sheets b : Int) := cnt_occ h b
theorem one_only {n : Nat} {st : BSt} (h : BOk n st) {b t t' s s' : Int} (h1 : occ st.sheets b ≤ 1) (a : bodyOf st t s = some b) (c : bodyOf st t' s' = some b) : t = t' ∧ s = s' := by
  have m1 := having_mem.mpr a
  have m2 := having_mem.mpr c
  have l := havingP_len h b
  match e : havingP st.sheets b with
  | [] => rw [e] at m1; cases m1
  | [x] =>
    rw [e] at m1 m2
    have q1 := List.mem_singleton.mp m1
    have q2 := List.mem_singleton.mp m2
    rw [← q2] at q1
    exact ⟨congrArg Prod.fst q1, congrArg Prod.snd q1⟩
  | x :: y :: r => rw [e] at l; simp at l; omega
theorem other_has {n : Nat} {st : BSt} (h : BOk n st) {b t s : Int} (h1 : 2 ≤ occ st.sheets b) : ∃ t' s', bodyOf st t' s' = some b ∧ ¬ (t' = t ∧ s' = s) := by
  have l := havingP_len h b
  have nd : (havingP st.sheets b).Nodup := by
    have p := found_perm (b := b) h.nds h.ndr
    have a := having_sorted (b := b) h.nds h.ndr
    have nf : ((havingP st.sheets b).Pairwise fun x y => x.1 < y.1 ∨ (x.1 = y.1 ∧ x.2 < y.2)) := by
      unfold havingP
      refine List.pairwise_flatMap.mpr ⟨fun t ht => ?_, (sortI_lt h.nds).imp fun {t u} z => fun x hx y hy => ?_⟩
      · unfold rowP
        refine List.pairwise_map.mpr (List.Pairwise.imp (fun {a c} z => Or.inr ⟨rfl, z⟩) ((sortI_lt ?_).filter _))
        cases q : getA st.sheets t with
        | none => exact List.nodup_nil
        | some row => exact h.ndr _ (getA_mem q)
      · unfold rowP at hx hy
        obtain ⟨a, _, rfl⟩ := List.mem_map.mp hx
        obtain ⟨c, _, rfl⟩ := List.mem_map.mp hy
        exact .inl z
    exact nf.imp fun {x y} z e => by rw [e] at z; omega
  match e : havingP st.sheets b with
  | [] => rw [e] at l; simp at l; omega
  | [x] => rw [e] at l; simp at l; omega
  | x :: y :: r =>
    rw [e] at nd
    have nxy : x ≠ y := fun z => (List.nodup_cons.mp nd).1 (by rw [z]; exact List.mem_cons_self)
    have mx : bodyOf st x.1 x.2 = some b := having_mem.mp (by rw [e]; exact List.mem_cons_self)
    have my : bodyOf st y.1 y.2 = some b := having_mem.mp (by rw [e]; exact List.mem_cons_of_mem _ List.mem_cons_self)
    by_cases q : x.1 = t ∧ x.2 = s
    · exact ⟨y.1, y.2, my, fun z => nxy (Prod.ext (q.1.trans z.1.symm) (q.2.trans z.2.symm))⟩
    · exact ⟨x.1, x.2, mx, q⟩
theorem has_occ {n : Nat} {st : BSt} (h : BOk n st) {b t s : Int} (a : bodyOf st t s = some b) : occ st.sheets b ≠ 0 := fun e => by
  have l := havingP_len h b
  rw [e] at l
  have := having_mem.mpr a
  rw [List.length_eq_zero_iff.mp l] at this
  cases this
theorem new_free {n : Nat} {st : BSt} (h : BOk n st) {b t s : Int} (a : bodyOf st t s = some b) : b ≠ st.next := fun e => by
  have := (h.lt b (has_occ h a)).2
  omega
/-! ### a store -/
theorem body_with {st : BSt} {t s t' s' : Int} (sh : AL Int) : bodyOf (withBody { st with shares := sh } t s) t' s' = if t' = t ∧ s' = s then some st.next else bodyOf st t' s' := by
  show getA ((getA (putA st.sheets t (putA ((getA st.sheets t).getD []) s st.next)) t').getD []) s' = _
  rw [getA_putA]
  by_cases e : t' = t
  · subst e
    rw [if_pos rfl, Option.getD_some, getA_putA]
    by_cases e2 : s' = s
    · rw [if_pos e2, if_pos ⟨rfl, e2⟩]
    · rw [if_neg e2, if_neg fun z => e2 z.2]; rfl
  · rw [if_neg e, if_neg fun z => e z.1]; rfl
theorem body_store {st : BSt} {t s t' s' : Int} : bodyOf (storeE st t s).2 t' s' = if t' = t ∧ s' = s then some (nowB st t s) else bodyOf st t' s' := by
  unfold nowB isNew storeE
  cases q : bodyOf st t s with
  | none => exact body_with st.shares
  | some b =>
    dsimp only
    by_cases e : 1 < cnt st b
    · rw [if_pos e]
      have hd : (if decide (1 < cnt st b) = true then st.next else b) = st.next := if_pos (decide_eq_true e)
      show bodyOf (withBody { st with shares := _ } t s) t' s' = if t' = t ∧ s' = s then some (if decide (1 < cnt st b) = true then st.next else b) else bodyOf st t' s'
      rw [hd]
      exact body_with _
    · rw [if_neg e]
      have hd : (if decide (1 < cnt st b) = true then st.next else b) = b := if_neg fun z => e (of_decide_eq_true z)
      show bodyOf st t' s' = if t' = t ∧ s' = s then some (if decide (1 < cnt st b) = true then st.next else b) else bodyOf st t' s'
      rw [hd]
      by_cases c : t' = t ∧ s' = s
      · rw [if_pos c, c.1, c.2]; exact q
      · rw [if_neg c]
/-- no other sheet has the body behind a store -/
theorem now_alone {n : Nat} {st : BSt} (h : BOk n st) {t s t' s' : Int} (c : ¬ (t' = t ∧ s' = s)) : bodyOf st t' s' ≠ some (nowB st t s) := fun e => by
  unfold nowB at e
  by_cases q : isNew st t s = true
  · rw [if_pos q] at e
    exact new_free h e rfl
  · rw [if_neg q] at e
    unfold isNew at q
    cases qb : bodyOf st t s with
    | none => rw [qb] at q; exact q rfl
    | some b =>
      rw [qb] at q e
      rw [Option.getD_some] at e
      dsimp only at q
      have q2 : ¬ 1 < cnt st b := fun z => q (decide_eq_true z)
      rw [cnt_is h] at q2
      obtain ⟨e1, e2⟩ := one_only h (by omega) e qb
      exact c ⟨e1, e2⟩
theorem row_in {fg : AL (AL Int)} {b : Int} : rowOf fg b = [] ∨ (b, rowOf fg b) ∈ fg := by
  unfold rowOf
  cases q : getA fg b with
  | none => exact .inl rfl
  | some r => exact .inr (getA_mem q)
theorem PInv.row {st : BSt} {fg : AL (AL Int)} (h : PInv st fg) (b : Int) : (keysA (rowOf fg b)).Nodup ∧ ∀ c ∈ rowOf fg b, (0 ≤ c.1 ∧ c.1 < 64) ∧ c.2 ≠ 0 := by
  rcases row_in (fg := fg) (b := b) with e | e
  · rw [e]; exact ⟨List.nodup_nil, fun _ h => by cases h⟩
  · exact ⟨h.nk _ e, h.rg _ e⟩
theorem PInv.old {st : BSt} {fg : AL (AL Int)} (h : PInv st fg) (t s : Int) : (keysA (oldRow st fg t s)).Nodup ∧ ∀ c ∈ oldRow st fg t s, (0 ≤ c.1 ∧ c.1 < 64) ∧ c.2 ≠ 0 := by
  unfold oldRow
  cases q : bodyOf st t s with
  | none => exact ⟨List.nodup_nil, fun _ h => by cases h⟩
  | some b => exact h.row b
theorem putRow_get (row : AL Int) (p f p' : Int) : (getA (putRow row p f) p').getD 0 = if p' = p then f else (getA row p').getD 0 := by
  unfold putRow
  by_cases e : f = 0
  · rw [if_pos e, getA_dropA]
    by_cases c : p' = p
    · rw [if_pos c, if_pos c, e]; rfl
    · rw [if_neg c, if_neg c]
  · rw [if_neg e, getA_putA]
    by_cases c : p' = p
    · rw [if_pos c, if_pos c]; rfl
    · rw [if_neg c, if_neg c]
theorem putRow_nd {row : AL Int} (h : (keysA row).Nodup) (p f : Int) : (keysA (putRow row p f)).Nodup := by
  unfold putRow
  split
  · exact nodup_dropA h p
  · exact nodup_putA h p f
theorem putRow_rg {row : AL Int} (h : ∀ c ∈ row, (0 ≤ c.1 ∧ c.1 < 64) ∧ c.2 ≠ 0) {p f : Int} (hp : 0 ≤ p ∧ p < 64) : ∀ c ∈ putRow row p f, (0 ≤ c.1 ∧ c.1 < 64) ∧ c.2 ≠ 0 := fun c hc => by
  unfold putRow at hc
  split at hc
  · exact h c (List.mem_filter.mp hc).1
  · rename_i e
    rcases mem_putA hc with hc | rfl
    · exact h c hc
    · exact ⟨hp, e⟩
theorem getA_mid {st : BSt} {fg : AL (AL Int)} {t s b : Int} : getA (figMid st fg t s) b = if isNew st t s = true ∧ b = st.next then some (oldRow st fg t s) else getA fg b := by
  unfold figMid
  by_cases e : isNew st t s = true
  · rw [if_pos e, getA_putA]
    by_cases c : b = st.next
    · rw [if_pos c, if_pos ⟨e, c⟩]
    · rw [if_neg c, if_neg fun z => c z.2]
  · rw [if_neg e, if_neg fun z => e z.1]
theorem getA_store {st : BSt} {fg : AL (AL Int)} {t a f b : Int} : getA (figStore st fg t a f) b = if b = nowB st t (a / 64) then some (putRow (oldRow st fg t (a / 64)) (a % 64) f) else getA fg b := by
  unfold figStore
  rw [getA_putA]
  by_cases c : b = nowB st t (a / 64)
  · rw [if_pos c, if_pos c]
  · rw [if_neg c, if_neg c, getA_mid, if_neg fun z => c ?_]
    rw [z.2]
    unfold nowB
    rw [if_pos z.1]
theorem mid_row {st : BSt} {fg : AL (AL Int)} (h : PInv st fg) (t s : Int) : getA (figMid st fg t s) (nowB st t s) = some (oldRow st fg t s) := by
  rw [getA_mid]
  by_cases e : isNew st t s = true
  · rw [if_pos ⟨e, by unfold nowB; rw [if_pos e]⟩]
  · rw [if_neg fun z => e z.1]
    unfold nowB oldRow
    rw [if_neg e]
    unfold isNew at e
    cases q : bodyOf st t s with
    | none => rw [q] at e; exact absurd rfl e
    | some b =>
      rw [Option.getD_some]
      have := (h.fi b).mpr ⟨t, s, q⟩
      unfold rowOf
      cases z : getA fg b with
      | none => rw [z] at this; cases this
      | some r =>
        show some r = some ((getA fg b).getD [])
        rw [z]
        rfl
theorem PInv.store {n : Nat} {st : BSt} {fg : AL (AL Int)} (h : PInv st fg) (hs : BOk n st) {t a : Int} (f : Int) : PInv (storeE st t (a / 64)).2 (figStore st fg t a f) := by
  have hp : 0 ≤ a % 64 ∧ a % 64 < 64 := ⟨Int.emod_nonneg _ (by decide), Int.emod_lt_of_pos _ (by decide)⟩
  have o := h.old t (a / 64)
  have mem : ∀ p ∈ figStore st fg t a f, p ∈ fg ∨ (keysA p.2).Nodup ∧ (∀ c ∈ p.2, (0 ≤ c.1 ∧ c.1 < 64) ∧ c.2 ≠ 0) := fun p hp' => by
    unfold figStore figMid at hp'
    rcases mem_putA hp' with q | q
    · split at q
      · rcases mem_putA q with q | q
        · exact .inl q
        · rw [q]; exact .inr o
      · exact .inl q
    · rw [q]; exact .inr ⟨putRow_nd o.1 _ _, putRow_rg o.2 hp⟩
  refine ⟨?_, fun b => ?_, fun p hp' => ?_, fun p hp' => ?_, fun t1 t2 s1 s2 b e1 e2 => ?_⟩
  · unfold figStore figMid
    refine nodup_putA ?_ _ _
    split
    · exact nodup_putA h.kf _ _
    · exact h.kf
  · rw [getA_store]
    by_cases c : b = nowB st t (a / 64)
    · rw [if_pos c]
      exact ⟨fun _ => ⟨t, a / 64, by rw [body_store, if_pos ⟨rfl, rfl⟩, c]⟩, fun _ => rfl⟩
    · rw [if_neg c, h.fi b]
      constructor
      · rintro ⟨t', s', e⟩
        by_cases d : t' = t ∧ s' = a / 64
        · -- the sheet's body was another: a new one is there, and others have the old one
          obtain ⟨rfl, rfl⟩ := d
          have hn : isNew st t' (a / 64) = true := by
            by_cases q : isNew st t' (a / 64) = true
            · exact q
            · exact absurd (by unfold nowB; rw [if_neg q, e]; rfl) c
          unfold isNew at hn
          rw [e] at hn
          have h2 : 1 < cnt st b := of_decide_eq_true hn
          rw [cnt_is hs] at h2
          obtain ⟨t2, s2, e2, n2⟩ := other_has hs (t := t') (s := a / 64) (b := b) (by omega)
          exact ⟨t2, s2, by rw [body_store, if_neg n2]; exact e2⟩
        · exact ⟨t', s', by rw [body_store, if_neg d]; exact e⟩
      · rintro ⟨t', s', e⟩
        rw [body_store] at e
        by_cases d : t' = t ∧ s' = a / 64
        · rw [if_pos d] at e
          exact absurd (Option.some.inj e).symm c
        · rw [if_neg d] at e
          exact ⟨t', s', e⟩
  · rcases mem p hp' with q | q
    · exact h.nk p q
    · exact q.1
  · rcases mem p hp' with q | q
    · exact h.rg p q
    · exact q.2
  · rw [body_store] at e1 e2
    by_cases d1 : t1 = t ∧ s1 = a / 64
    · by_cases d2 : t2 = t ∧ s2 = a / 64
      · rw [d1.2, d2.2]
      · rw [if_pos d1] at e1
        rw [if_neg d2] at e2
        rw [← Option.some.inj e1] at e2
        exact absurd e2 (now_alone hs d2)
    · rw [if_neg d1] at e1
      by_cases d2 : t2 = t ∧ s2 = a / 64
      · rw [if_pos d2] at e2
        rw [← Option.some.inj e2] at e1
        exact absurd e1 (now_alone hs d1)
      · rw [if_neg d2] at e2
        exact h.us _ _ _ _ _ e1 e2
theorem val_store {n : Nat} {st : BSt} {fg : AL (AL Int)} (h : PInv st fg) (hs : BOk n st) (t a f t' a' : Int) : valP (storeE st t (a / 64)).2 (figStore st fg t a f) t' a' = if t' = t ∧ a' = a then f else valP st fg t' a' := by
  unfold valP
  rw [body_store]
  by_cases d : t' = t ∧ a' / 64 = a / 64
  · rw [if_pos d]
    dsimp only
    unfold figOf
    have e1 : rowOf (figStore st fg t a f) (nowB st t (a / 64)) = putRow (oldRow st fg t (a / 64)) (a % 64) f := by
      unfold rowOf
      rw [getA_store, if_pos rfl]; rfl
    rw [e1, putRow_get]
    by_cases c : a' % 64 = a % 64
    · rw [if_pos c, if_pos ⟨d.1, by omega⟩]
    · rw [if_neg c, if_neg fun z => c (by rw [z.2]), d.1, d.2]
      unfold oldRow
      cases q : bodyOf st t (a / 64) with
      | none => rfl
      | some b => rfl
  · rw [if_neg d, if_neg fun z => d ⟨z.1, by rw [z.2]⟩]
    cases q : bodyOf st t' (a' / 64) with
    | none => rfl
    | some b =>
      dsimp only
      unfold figOf rowOf
      rw [getA_store, if_neg fun z => now_alone hs d (by rw [← z]; exact q)]
/-! ### a fork -/
theorem body_fork {st : BSt} {t c t' s' : Int} : bodyOf (forkS st t c) t' s' = if t' = c then bodyOf st t s' else bodyOf st t' s' := by
  show getA ((getA (putA st.sheets c ((getA st.sheets t).getD [])) t').getD []) s' = _
  rw [getA_putA]
  by_cases e : t' = c
  · rw [if_pos e, if_pos e]; rfl
  · rw [if_neg e, if_neg e]; rfl
theorem PInv.fork {st : BSt} {fg : AL (AL Int)} (h : PInv st fg) {t c : Int} (hc : getA st.sheets c = none) : PInv (forkS st t c) fg := by
  have hn : ∀ s, bodyOf st c s = none := fun s => by unfold bodyOf; rw [hc]; rfl
  refine ⟨h.kf, fun b => ?_, h.nk, h.rg, fun t1 t2 s1 s2 b e1 e2 => ?_⟩
  · rw [h.fi b]
    constructor
    · rintro ⟨t', s', e⟩
      refine ⟨t', s', ?_⟩
      rw [body_fork]
      by_cases d : t' = c
      · rw [d, hn] at e; cases e
      · rw [if_neg d]; exact e
    · rintro ⟨t', s', e⟩
      rw [body_fork] at e
      by_cases d : t' = c
      · rw [if_pos d] at e; exact ⟨t, s', e⟩
      · rw [if_neg d] at e; exact ⟨t', s', e⟩
  · rw [body_fork] at e1 e2
    split at e1 <;> split at e2 <;> exact h.us _ _ _ _ _ e1 e2
theorem val_fork (st : BSt) (fg : AL (AL Int)) (t c t' a' : Int) : valP (forkS st t c) fg t' a' = if t' = c then valP st fg t a' else valP st fg t' a' := by
  unfold valP
  rw [body_fork]
  by_cases d : t' = c
  · rw [if_pos d, if_pos d]
  · rw [if_neg d, if_neg d]
/-! ### an end -/
theorem body_end {st : BSt} {t t' s' : Int} : bodyOf (endE st t).2 t' s' = if t' = t then none else bodyOf st t' s' := by
  show getA ((getA (dropA st.sheets t) t').getD []) s' = _
  rw [getA_dropA]
  by_cases e : t' = t
  · rw [if_pos e, if_pos e]; rfl
  · rw [if_neg e, if_neg e]; rfl
theorem figFin_get : ∀ (es : List Ev) (fg : AL (AL Int)) (b : Int), getA (figFin fg es) b = if b ∈ es.map evB then none else getA fg b
  | [], fg, b => by rw [if_neg (by simp)]; rfl
  | e :: es, fg, b => by
    show getA (figFin (dropA fg (evB e)) es) b = _
    rw [figFin_get es, getA_dropA, List.map_cons]
    by_cases c : b ∈ es.map evB
    · rw [if_pos c, if_pos (List.mem_cons_of_mem _ c)]
    · rw [if_neg c]
      by_cases d : b = evB e
      · rw [if_pos d, if_pos (by rw [d]; exact List.mem_cons_self)]
      · rw [if_neg d, if_neg fun z => (List.mem_cons.mp z).elim d c]
theorem figFin_sub : ∀ (es : List Ev) (fg : AL (AL Int)), ∀ p ∈ figFin fg es, p ∈ fg
  | [], fg, p, h => h
  | e :: es, fg, p, h => (List.mem_filter.mp (figFin_sub es (dropA fg (evB e)) p h)).1
theorem figFin_nd : ∀ (es : List Ev) (fg : AL (AL Int)), (keysA fg).Nodup → (keysA (figFin fg es)).Nodup
  | [], fg, h => h
  | e :: es, fg, h => figFin_nd es _ (nodup_dropA h _)
theorem gone_list {n : Nat} {st : BSt} (h : BOk n st) {t : Int} (ht : (getA st.sheets t).isSome = true) : (endE st t).1.map evB = (sortI (((getA st.sheets t).getD []).map (·.2))).filter fun b => decide (occ st.sheets b = 1) := by
  rw [(h.fin ht).2.2, List.map_map]
  conv => rhs; rw [← List.map_id ((sortI _).filter _)]
  rfl
theorem gone_mem {n : Nat} {st : BSt} (h : BOk n st) {t : Int} (ht : (getA st.sheets t).isSome = true) {b : Int} : b ∈ (endE st t).1.map evB ↔ (∃ s, bodyOf st t s = some b) ∧ occ st.sheets b = 1 := by
  rw [gone_list h ht, List.mem_filter, (sortI_perm _).mem_iff, decide_eq_true_iff]
  refine and_congr_left fun _ => ?_
  obtain ⟨r1, _, _⟩ := row_ok h t
  constructor
  · intro hb
    obtain ⟨p, hp, rfl⟩ := List.mem_map.mp hb
    exact ⟨p.1, getA_of_mem r1 hp⟩
  · rintro ⟨s, e⟩
    exact List.mem_map.mpr ⟨(s, b), getA_mem e, rfl⟩
theorem gone_nd {n : Nat} {st : BSt} (h : BOk n st) {t : Int} (ht : (getA st.sheets t).isSome = true) : ((endE st t).1.map evB).Nodup := by
  rw [gone_list h ht]
  obtain ⟨_, r2, _⟩ := row_ok h t
  exact ((sortI_perm _).nodup_iff.mpr r2).filter _
theorem row_one {n : Nat} {st : BSt} (h : BOk n st) {t s s' b : Int} (a : bodyOf st t s = some b) (c : bodyOf st t s' = some b) : s = s' := by
  obtain ⟨r1, r2, _⟩ := row_ok h t
  have ma := getA_mem a
  have mc := getA_mem c
  have key : ∀ l : AL Int, (l.map (·.2)).Nodup → (s, b) ∈ l → (s', b) ∈ l → s = s' := by
    intro l
    induction l with
    | nil => intro _ h _; cases h
    | cons p l ih =>
      intro nd h1 h2
      obtain ⟨n1, n2⟩ := List.nodup_cons.mp nd
      rcases List.mem_cons.mp h1 with e1 | e1
      · rcases List.mem_cons.mp h2 with e2 | e2
        · rw [← e2] at e1; exact congrArg Prod.fst e1
        · exact absurd (by rw [← e1]; exact List.mem_map_of_mem (f := (·.2)) e2) n1
      · rcases List.mem_cons.mp h2 with e2 | e2
        · exact absurd (by rw [← e2]; exact List.mem_map_of_mem (f := (·.2)) e1) n1
        · exact ih n2 e1 e2
  exact key _ r2 ma mc
theorem PInv.fin {n : Nat} {st : BSt} {fg : AL (AL Int)} (h : PInv st fg) (hs : BOk n st) {t : Int} (ht : (getA st.sheets t).isSome = true) : PInv (endE st t).2 (figFin fg (endE st t).1) := by
  refine ⟨figFin_nd _ _ h.kf, fun b => ?_, fun p hp => h.nk p (figFin_sub _ _ p hp), fun p hp => h.rg p (figFin_sub _ _ p hp), fun t1 t2 s1 s2 b e1 e2 => ?_⟩
  · rw [figFin_get]
    by_cases c : b ∈ (endE st t).1.map evB
    · rw [if_pos c]
      obtain ⟨⟨s, e⟩, o⟩ := (gone_mem hs ht).mp c
      refine ⟨fun z => (by cases z), ?_⟩
      rintro ⟨t', s', e'⟩
      rw [body_end] at e'
      by_cases d : t' = t
      · rw [if_pos d] at e'; cases e'
      · rw [if_neg d] at e'
        exact absurd (one_only hs (by omega) e' e).1 d
    · rw [if_neg c, h.fi b]
      constructor
      · rintro ⟨t', s', e⟩
        by_cases d : t' = t
        · subst d
          have o : occ st.sheets b ≠ 1 := fun z => c ((gone_mem hs ht).mpr ⟨⟨s', e⟩, z⟩)
          have o2 := has_occ hs e
          obtain ⟨t2, s2, e2, n2⟩ := other_has hs (t := t') (s := s') (b := b) (by omega)
          refine ⟨t2, s2, ?_⟩
          rw [body_end, if_neg fun z => n2 ⟨z, ?_⟩]
          · exact e2
          · rw [z] at e2
            exact row_one hs e2 e
        · exact ⟨t', s', by rw [body_end, if_neg d]; exact e⟩
      · rintro ⟨t', s', e⟩
        rw [body_end] at e
        split at e
        · cases e
        · exact ⟨t', s', e⟩
  · rw [body_end] at e1 e2
    split at e1
    · cases e1
    · split at e2
      · cases e2
      · exact h.us _ _ _ _ _ e1 e2
theorem val_end {n : Nat} {st : BSt} {fg : AL (AL Int)} (hs : BOk n st) {t : Int} (ht : (getA st.sheets t).isSome = true) {t' : Int} (a' : Int) (d : t' ≠ t) : valP (endE st t).2 (figFin fg (endE st t).1) t' a' = valP st fg t' a' := by
  unfold valP
  rw [body_end, if_neg d]
  cases q : bodyOf st t' (a' / 64) with
  | none => rfl
  | some b =>
    dsimp only
    unfold figOf rowOf
    rw [figFin_get, if_neg fun z => ?_]
    obtain ⟨⟨s, e⟩, o⟩ := (gone_mem hs ht).mp z
    exact d (one_only hs (by omega) q e).1
end Pg

/-! class Pages: what its methods promise -/
namespace Pg
open PySem PySem.Spec PyProof.Rows L2 DL Bo Fr Lw Dx
structure PWell (n : Int) (R : Rule) (S : PSt) : Prop where
  ok : okAll st0 S.ds = true
  len : S.ds.length ≤ 99
  st : S.st = (runAll ([], st0) S.ds).2
  fs : S.fs = runF (fst0 n R) (runAll ([], st0) S.ds).1
  pi : PInv S.st S.fg
  n1 : 1 ≤ n
  n2 : n ≤ 16
def stepP (S : PSt) (c : PCall) : PSt := ⟨(doneE S.st (deedOf c)).2, runF S.fs (doneE S.st (deedOf c)).1, figStep S.st S.fg c, S.ds ++ [deedOf c]⟩
section
variable {n : Int} {R : Rule} {S : PSt}
theorem PWell.bok (h : PWell n R S) : BOk S.ds.length S.st := by
  have x := (run_ok h.ok S.ds.length (Nat.le_refl _)).1
  rw [List.take_length] at x
  rw [h.st]
  exact x
theorem PWell.evl (h : PWell n R S) : (runAll ([], st0) S.ds).1.length ≤ 200000 := ev_len h.ok (by have := h.len; omega)
theorem PWell.fok (h : PWell n R S) : ∃ m, m ≤ 200000 ∧ FOk m S.fs := by
  have x := runF_ok h.n1 h.n2 R (runAll ([], st0) S.ds).1 _ (Nat.le_refl _)
  rw [List.take_length] at x
  rw [h.fs]
  exact ⟨_, h.evl, x⟩
theorem thereD_alive {st : BSt} {t : Int} (h : thereD st (.int t) = true) : (getA st.sheets t).isSome = true := (thereD_in h).2
theorem runF_app (s : FSt) (a b : List Ev) : runF s (a ++ b) = runF (runF s a) b := List.foldl_append
theorem PWell.fg_step (h : PWell n R S) {c : PCall} (okd : okD S.st (deedOf c) = true) : PInv (doneE S.st (deedOf c)).2 (figStep S.st S.fg c) := by
  cases c with
  | load t a => exact h.pi
  | store t a f => exact h.pi.store h.bok f
  | fork t c =>
    obtain ⟨_, hc⟩ : (getA S.st.sheets t).isSome = true ∧ getA S.st.sheets c = none := can_of h.bok okd
    exact h.pi.fork hc
  | fin t =>
    have ht : (getA S.st.sheets t).isSome = true := can_of h.bok okd
    exact h.pi.fin h.bok ht
theorem PWell.step (h : PWell n R S) {c : PCall} (okd : okD S.st (deedOf c) = true) (hl : S.ds.length + 1 ≤ 99) : PWell n R (stepP S c) := by
  have hs := h.st
  refine ⟨okAll_snoc (es := []) h.ok (by rw [← hs]; exact okd), by show (S.ds ++ [_]).length ≤ 99; simp; omega, ?_, ?_, h.fg_step okd, h.n1, h.n2⟩
  · show (doneE S.st (deedOf c)).2 = _
    rw [show (stepP S c).ds = S.ds ++ [deedOf c] from rfl, runAll_snoc, hs]
    rfl
  · show runF S.fs (doneE S.st (deedOf c)).1 = _
    rw [show (stepP S c).ds = S.ds ++ [deedOf c] from rfl, runAll_snoc, h.fs, hs]
    exact (runF_app _ _ _).symm
theorem PWell.rows (h : PWell n R S) {t s b : Int} (e : bodyOf S.st t s = some b) : 0 ≤ s ∧ s < 64 := by
  have key : ∀ d ∈ S.ds, shIn ((List.range 64).map fun (i : Nat) => (i : Int)) d := fun d hd => by
    obtain ⟨i, hi⟩ := List.mem_iff_getElem?.mp hd
    have o := okAll_at (es := []) h.ok hi
    have rng : ∀ x : Int, 0 ≤ x → x ≤ 63 → x ∈ (List.range 64).map fun (i : Nat) => (i : Int) := fun x h0 h1 => List.mem_map.mpr ⟨x.toNat, List.mem_range.mpr (by omega), by omega⟩
    have isf : ∀ x : Int, isFrom (.int x) 0 63 = true → x ∈ (List.range 64).map fun (i : Nat) => (i : Int) := fun x hx => by
      obtain ⟨h0, h1⟩ := isFrom_in hx
      exact rng x h0 h1
    cases d with
    | load t s =>
      have o2 : (thereD _ (.int t) && (if ("load" : Str) = "fork" then _ else (decide (("load" : Str) = "load") || decide (("load" : Str) = "store")) && isFrom (.int s) 0 63)) = true := o
      rw [if_neg (by decide)] at o2
      exact isf s (Bool.and_eq_true_iff.mp (Bool.and_eq_true_iff.mp o2).2).2
    | store t s =>
      have o2 : (thereD _ (.int t) && (if ("store" : Str) = "fork" then _ else (decide (("store" : Str) = "load") || decide (("store" : Str) = "store")) && isFrom (.int s) 0 63)) = true := o
      rw [if_neg (by decide)] at o2
      exact isf s (Bool.and_eq_true_iff.mp (Bool.and_eq_true_iff.mp o2).2).2
    | fork t c => trivial
    | fin t => trivial
  have hr := run_rows (sh := (List.range 64).map fun (i : Nat) => (i : Int)) (ds := S.ds) (z := ([], st0)) (fun p hp k hk => by rw [List.mem_singleton.mp (show p ∈ [((1 : Int), ([] : AL Int))] from hp)] at hk; cases hk) key
  rw [← h.st] at hr
  obtain ⟨row, h1, h2⟩ := bodyOf_mem e
  have hk := hr _ (getA_mem h1) s (List.mem_map_of_mem (f := (·.1)) (getA_mem h2))
  obtain ⟨i, hi, rfl⟩ := List.mem_map.mp hk
  have := List.mem_range.mp hi
  omega
end
section
variable {K : PySem.W.Frag} {C C2 C3 : Addr} {F H F1 H1 F2 H2 : Hp} {pg : Addr} {W W1 : List Addr} {S1 S2 : PSt}
theorem PGo.pre (g : Gr [] F H F1 H1) (a : PGo K C C2 C3 F1 H1 pg W S2 F2 H2) : PGo K C C2 C3 F H pg W S2 F2 H2 := by
  obtain ⟨g2, W', p, n⟩ := a
  exact ⟨g.any.trans g2, W', p, fun b hb => (n b hb).imp id g.free⟩
theorem PGo.comp (g : Gr W F H F1 H1) (n : ∀ b ∈ W1, b ∈ W ∨ H b = none) (a : PGo K C C2 C3 F1 H1 pg W1 S2 F2 H2) : PGo K C C2 C3 F H pg W S2 F2 H2 := by
  obtain ⟨g2, W', p, m⟩ := a
  refine ⟨g.step g2 n, W', p, fun b hb => ?_⟩
  rcases m b hb with h | h
  · exact n b h
  · exact .inr (g.free h)
theorem PgAt.gr0 {Z : PSt} (h : PgAt K C C2 C3 F H pg Z W) (g : Gr [] F H F1 H1) : PgAt K C C2 C3 F1 H1 pg Z W := by
  obtain ⟨p1, p2, fa, pa, oa, T, W1, W2, ps, xs, rfl, P⟩ := h
  exact ⟨p1, p2, fa, pa, oa, T, W1, W2, ps, xs, rfl, P.gr0 g⟩
theorem PgAt.gr {Z : PSt} {V : List Addr} (h : PgAt K C C2 C3 F H pg Z W) (g : Gr V F H F1 H1) (n : ∀ x ∈ W, x ∉ V) : PgAt K C C2 C3 F1 H1 pg Z W := by
  obtain ⟨p1, p2, fa, pa, oa, T, W1, W2, ps, xs, rfl, P⟩ := h
  exact ⟨p1, p2, fa, pa, oa, T, W1, W2, ps, xs, rfl, P.gr g n⟩
theorem PgAt.live {Z : PSt} (h : PgAt K C C2 C3 F H pg Z W) : ∀ x ∈ W, H x ≠ none := by
  obtain ⟨p1, p2, fa, pa, oa, T, W1, W2, ps, xs, rfl, P⟩ := h
  exact P.live
theorem PgAt.off {Z : PSt} (h : PgAt K C C2 C3 F H pg Z W) : ∀ x ∈ W, F x = none := by
  obtain ⟨p1, p2, fa, pa, oa, T, W1, W2, ps, xs, rfl, P⟩ := h
  exact P.off
end
/-! ### a memory as a list -/
structure MemOk (l : List (Int × Int)) (v : Int → Int) : Prop where
  asc : l.Pairwise fun p q => p.1 < q.1
  mem : ∀ a f, (a, f) ∈ l ↔ (0 ≤ a ∧ a < 4096) ∧ f = v a ∧ f ≠ 0
theorem asc_uniq {l m : List (Int × Int)} (h1 : l.Pairwise fun p q => p.1 < q.1) (h2 : m.Pairwise fun p q => p.1 < q.1) (h : ∀ x, x ∈ l ↔ x ∈ m) : l = m := by
  have nd : ∀ {k : List (Int × Int)}, (k.Pairwise fun p q => p.1 < q.1) → k.Nodup := fun {k} hk => hk.imp fun {x y} z e => by rw [e] at z; omega
  exact perm_uniq leP_anti ((List.perm_ext_iff_of_nodup (nd h1) (nd h2)).mpr h) (h1.imp fun z => leP_fst z) (h2.imp fun z => leP_fst z)
theorem MemOk.uniq {l m : List (Int × Int)} {v w : Int → Int} (h1 : MemOk l v) (h2 : MemOk m w) (e : ∀ a, 0 ≤ a → a < 4096 → v a = w a) : l = m := by
  refine asc_uniq h1.asc h2.asc fun x => ?_
  obtain ⟨a, f⟩ := x
  rw [h1.mem, h2.mem]
  constructor
  · rintro ⟨r, e1, e2⟩
    exact ⟨r, by rw [e1, e a r.1 r.2], e2⟩
  · rintro ⟨r, e1, e2⟩
    exact ⟨r, by rw [e1, e a r.1 r.2], e2⟩
/-- sheet by sheet -/
def cellsP (s : Int) (cs : List (Int × Int)) : List (Int × Int) := cs.map fun c => (64 * s + c.1, c.2)
def memP (rows : List (Int × Int)) (cs : Int → List (Int × Int)) : List (Int × Int) := rows.flatMap fun r => cellsP r.1 (cs r.2)
theorem mem_ok {n : Int} {R : Rule} {S : PSt} (h : PWell n R S) {t : Int} {rows : List (Int × Int)} {cs : Int → List (Int × Int)} (hr : rows.Perm ((getA S.st.sheets t).getD [])) (ha : rows.Pairwise leP)
    (hc : ∀ b, (∃ s, bodyOf S.st t s = some b) → (cs b).Perm (rowOf S.fg b) ∧ (cs b).Pairwise leP) : MemOk (memP rows cs) (valP S.st S.fg t) := by
  obtain ⟨r1, _, _⟩ := row_ok h.bok t
  have strict : ∀ {k r : List (Int × Int)}, k.Perm r → (keysA r).Nodup → k.Pairwise leP → k.Pairwise fun p q => p.1 < q.1 := fun {k r} hp hn hk => by
    have n1 : (k.map fun p : Int × Int => p.1).Nodup := ((hp.map fun p : Int × Int => p.1).nodup_iff).mpr hn
    have n2 := List.pairwise_map.mp n1
    exact (hk.and n2).imp fun {x y} ⟨a, b⟩ => by
      have := SrtO.lexB_no.mp a
      omega
  have hin : ∀ r ∈ rows, bodyOf S.st t r.1 = some r.2 := fun r hm => getA_of_mem r1 (hr.mem_iff.mp hm)
  have cell : ∀ b, (∃ s, bodyOf S.st t s = some b) → ∀ c ∈ cs b, (0 ≤ c.1 ∧ c.1 < 64) ∧ c.2 ≠ 0 := fun b hb c hm => (h.pi.row b).2 c ((hc b hb).1.mem_iff.mp hm)
  refine ⟨?_, fun a f => ?_⟩
  · unfold memP
    refine List.pairwise_flatMap.mpr ⟨fun r hm => ?_, (strict hr r1 ha).imp_of_mem fun {r q} hm hq z x hx y hy => ?_⟩
    · unfold cellsP
      have hb := hin r hm
      exact List.pairwise_map.mpr ((strict (hc r.2 ⟨_, hb⟩).1 (h.pi.row r.2).1 (hc r.2 ⟨_, hb⟩).2).imp fun {x y} z => by
        show 64 * r.1 + x.1 < 64 * r.1 + y.1
        omega)
    · unfold cellsP at hx hy
      obtain ⟨c, hc1, rfl⟩ := List.mem_map.mp hx
      obtain ⟨d, hd1, rfl⟩ := List.mem_map.mp hy
      have a1 := (cell r.2 ⟨_, hin r hm⟩ c hc1).1
      have a2 := (cell q.2 ⟨_, hin q hq⟩ d hd1).1
      show 64 * r.1 + c.1 < 64 * q.1 + d.1
      omega
  · unfold memP cellsP
    rw [List.mem_flatMap]
    constructor
    · rintro ⟨r, hm, hx⟩
      obtain ⟨c, hc1, e⟩ := List.mem_map.mp hx
      cases e
      have hb := hin r hm
      obtain ⟨s0, s1⟩ := h.rows hb
      obtain ⟨⟨c0, c1⟩, c2⟩ := cell r.2 ⟨_, hb⟩ c hc1
      refine ⟨⟨by omega, by omega⟩, ?_, c2⟩
      unfold valP
      rw [show (64 * r.1 + c.1) / 64 = r.1 by omega, show (64 * r.1 + c.1) % 64 = c.1 by omega, hb]
      show c.2 = figOf S.fg r.2 c.1
      unfold figOf
      rw [getA_of_mem (h.pi.row r.2).1 (a := c.2) ((hc r.2 ⟨_, hb⟩).1.mem_iff.mp hc1)]
      rfl
    · rintro ⟨⟨a0, a1⟩, e, hf⟩
      unfold valP at e
      cases q : bodyOf S.st t (a / 64) with
      | none => rw [q] at e; exact absurd e hf
      | some b =>
        rw [q] at e
        have e2 : f = (getA (rowOf S.fg b) (a % 64)).getD 0 := e
        cases z : getA (rowOf S.fg b) (a % 64) with
        | none => rw [z] at e2; exact absurd e2 hf
        | some g =>
          rw [z] at e2
          have e3 : f = g := e2
          refine ⟨(a / 64, b), hr.mem_iff.mpr (getA_mem q), List.mem_map.mpr ⟨(a % 64, g), (hc b ⟨_, q⟩).1.mem_iff.mpr (getA_mem z), ?_⟩⟩
          show (64 * (a / 64) + a % 64, g) = (a, f)
          rw [e3, show 64 * (a / 64) + a % 64 = a by omega]
/-! ### promises -/
section
variable (K : PySem.W.Frag) (C C2 C3 : Addr)
def spPInit : Sp := fun vs H Q _ => ∃ (F : Hp) (pg dx : Addr) (n : Int) (u : V) (R : Rule), vs = [.ref pg, .int n, u] ∧ Same F H ∧ F pg = none ∧ H pg = some (.ins C3 dx []) ∧ Dp K F u (ruleD R) ∧ ruleOk R ∧ 1 ≤ n ∧ n ≤ 16 ∧
  ∀ F' H' W', Gr [pg] F H F' H' → PgAt K C C2 C3 F' H' pg ⟨st0, fst0 n R, [], []⟩ W' → (∀ b ∈ W', b = pg ∨ H b = none) → Q .non H'
def spPNeedTask : Sp := fun vs H Q _ => ∃ (F : Hp) (pg : Addr) (S : PSt) (W : List Addr) (t : Int), vs = [.ref pg, .int t] ∧ Same F H ∧ PgAt K C C2 C3 F H pg S W ∧ thereD S.st (.int t) = true ∧ Q .non H
def spPNeedCell : Sp := fun vs H Q _ => ∃ (F : Hp) (pg : Addr) (S : PSt) (W : List Addr) (t a : Int), vs = [.ref pg, .int t, .int a] ∧ Same F H ∧ PgAt K C C2 C3 F H pg S W ∧ thereD S.st (.int t) = true ∧ 0 ≤ a ∧ a < 4096 ∧ Q .non H
def spPCome : Sp := fun vs H Q _ => ∃ (F : Hp) (pg : Addr) (S : PSt) (W : List Addr) (v : V) (es : List Ev), vs = [.ref pg, v] ∧ Same F H ∧ PgAt K C C2 C3 F H pg S W ∧ Dp K F v (.list (es.map evD)) ∧ (∃ m, m + es.length ≤ 900000 ∧ FOk m S.fs) ∧
  ∀ F' H', PGo K C C2 C3 F H pg W { S with fs := runF S.fs es } F' H' → Q .non H'
def spPKeep : Sp := fun vs H Q _ => ∃ (F : Hp) (pg : Addr) (S : PSt) (W : List Addr) (c d : V) (dd : Deed), vs = [.ref pg, c, d] ∧ Same F H ∧ PgAt K C C2 C3 F H pg S W ∧ Dp K F d (deedD dd) ∧ S.ds.length ≤ 1000 ∧
  ∀ F' H', PGo K C C2 C3 F H pg W { S with ds := S.ds ++ [dd] } F' H' → Q .non H'
def spPLoad : Sp := fun vs H Q _ => ∃ (F : Hp) (pg : Addr) (S : PSt) (W : List Addr) (t a n : Int) (R : Rule), vs = [.ref pg, .int t, .int a] ∧ Same F H ∧ PgAt K C C2 C3 F H pg S W ∧ PWell n R S ∧ thereD S.st (.int t) = true ∧ 0 ≤ a ∧ a < 4096 ∧
  ∀ F' H', PGo K C C2 C3 F H pg W (stepP S (.load t a)) F' H' → Q (.int (valP S.st S.fg t a)) H'
def spPStore : Sp := fun vs H Q _ => ∃ (F : Hp) (pg : Addr) (S : PSt) (W : List Addr) (t a f n : Int) (R : Rule), vs = [.ref pg, .int t, .int a, .int f] ∧ Same F H ∧ PgAt K C C2 C3 F H pg S W ∧ PWell n R S ∧ thereD S.st (.int t) = true ∧ 0 ≤ a ∧ a < 4096 ∧ 0 ≤ f ∧ f ≤ 65535 ∧
  ∀ F' H', PGo K C C2 C3 F H pg W (stepP S (.store t a f)) F' H' → Q .non H'
def spPFork : Sp := fun vs H Q _ => ∃ (F : Hp) (pg : Addr) (S : PSt) (W : List Addr) (t c n : Int) (R : Rule), vs = [.ref pg, .int t, .int c] ∧ Same F H ∧ PgAt K C C2 C3 F H pg S W ∧ PWell n R S ∧ okD S.st (.fork t c) = true ∧
  ∀ F' H', PGo K C C2 C3 F H pg W (stepP S (.fork t c)) F' H' → Q .non H'
def spPEnd : Sp := fun vs H Q _ => ∃ (F : Hp) (pg : Addr) (S : PSt) (W : List Addr) (t n : Int) (R : Rule), vs = [.ref pg, .int t] ∧ Same F H ∧ PgAt K C C2 C3 F H pg S W ∧ PWell n R S ∧ okD S.st (.fin t) = true ∧
  ∀ F' H', PGo K C C2 C3 F H pg W (stepP S (.fin t)) F' H' → Q .non H'
def spPMem : Sp := fun vs H Q _ => ∃ (F : Hp) (pg : Addr) (S : PSt) (W : List Addr) (t n : Int) (R : Rule), vs = [.ref pg, .int t] ∧ Same F H ∧ PgAt K C C2 C3 F H pg S W ∧ PWell n R S ∧ thereD S.st (.int t) = true ∧
  ∀ w F' H' l, Gr [] F H F' H' → MemOk l (valP S.st S.fg t) → Dp K F' w (.tuple (l.map prZ)) → Q w H'
def spPDeeds : Sp := fun vs H Q _ => ∃ (F : Hp) (pg : Addr) (S : PSt) (W : List Addr), vs = [.ref pg] ∧ Same F H ∧ PgAt K C C2 C3 F H pg S W ∧ ∀ w F' H', Gr [] F H F' H' → Dp K F' w (.tuple (S.ds.map deedD)) → Q w H'
def spPMisses : Sp := fun vs H Q _ => ∃ (F : Hp) (pg : Addr) (S : PSt) (W : List Addr), vs = [.ref pg] ∧ Same F H ∧ PgAt K C C2 C3 F H pg S W ∧ Q (.int S.fs.missed) H
def spPInside : Sp := fun vs H Q _ => ∃ (F : Hp) (pg : Addr) (S : PSt) (W : List Addr), vs = [.ref pg] ∧ Same F H ∧ PgAt K C C2 C3 F H pg S W ∧ ∀ w F' H', Gr [] F H F' H' → Dp K F' w (.tuple ((sortI S.fs.row).map .int)) → Q w H'
def spPBody : Sp := fun vs H Q _ => ∃ (F : Hp) (pg : Addr) (S : PSt) (W : List Addr) (t s : Int), vs = [.ref pg, .int t, .int s] ∧ Same F H ∧ PgAt K C C2 C3 F H pg S W ∧ thereD S.st (.int t) = true ∧ Q (optV (bodyOf S.st t s)) H
def spFig : Sp := fun vs H Q _ => ∃ a : Int, vs = [.int a] ∧ 0 ≤ a ∧ a ≤ 65535 ∧ Q (.bl true) H
def spAdr : Sp := fun vs H Q _ => ∃ a : Int, vs = [.int a] ∧ 0 ≤ a ∧ a < 4096 ∧ Q (.bl true) H
end
end Pg
namespace S
open PySem PySem.Spec PyProof.Rows L2 DL
theorem dget2 {td ty tx : TE} {σ : L2.St} {H : Hp} {Q : VK} (q : td σ H fun x H1 => ∃ a, x = .ref a ∧ IsD H1 a ∧ ty σ H1 fun y H2 => tx σ H2 fun z H3 => ∃ o, DGet H3 a y o ∧ Q (o.getD z) H3) : tDGet2 td ty tx σ H Q := q
end S
namespace Pg
open PySem PySem.Spec PyProof.Rows L2 DL Bo Fr Lw Dx
/-- the dict of a body -/
theorem tab_row {F H : Hp} {fa : Addr} {T : AL (Addr × AL Int)} {fg : AL (AL Int)} (tp : TP F H fa T) (e : sheetsOf T = fg) {b : Int} (h : (getA fg b).isSome = true) : ∃ d, getA T b = some (d, rowOf fg b) ∧ H d = some (.dK (kM V.int (rowOf fg b))) ∧ valV (kM (fun x : Addr × AL Int => V.ref x.1) T) (Sum.inl b) = some (V.ref d) := by
  obtain ⟨d, row, h1, h2⟩ := tab_of e h
  have er : rowOf fg b = row := by unfold rowOf; rw [h2]; rfl
  rw [er]
  exact ⟨d, h1, tp.tabs.rows _ (getA_mem h1), by rw [valV_kM, h1]; rfl⟩
end Pg
namespace S
open PySem PySem.Spec PyProof.Rows L2 DL
/-- either value is handed on the same way -/
theorem ifM {t : TT} {ta tb : TE} {σ : L2.St} {H : Hp} {Q : VK} (P : V → Hp → Prop) (hQ : ∀ v H', P v H' → Q v H') (h : ∀ Q' : VK, (∀ v H', P v H' → Q' v H') → t σ H fun c H1 => if c = true then ta σ H1 Q' else tb σ H1 Q') : tIf t ta tb σ H Q := h Q hQ
end S
namespace Pg
open PySem PySem.Spec PyProof.Rows L2 DL Bo Fr Lw Dx
theorem _root_.Bo.BAt.frz {C : Addr} {F H : Hp} {p : Addr} {st : BSt} {W : List Addr} (h : BAt C F H p st W) {q : Addr} {o : HO} (n : q ∉ W) : BAt C (upd F q o) H p st W := by
  obtain ⟨a, b, m, T, rfl, P⟩ := h
  exact ⟨a, b, m, T, rfl, P.step (fun _ _ _ e => e) fun x hx => by rw [upd_ne fun z => n (by rw [← z]; exact hx)]; exact P.off x hx⟩
theorem last_ev (st : BSt) (t s : Int) : atI ((storeE st t s).1.map evD) (-1) = some (.tuple [.str (if isNew st t s = true then "make" else "look"), .int (nowB st t s)]) := by
  unfold nowB isNew storeE
  cases q : bodyOf st t s with
  | none => rfl
  | some b =>
    dsimp only
    by_cases e : 1 < cnt st b
    · rw [if_pos e]
      have d : decide (1 < cnt st b) = true := decide_eq_true e
      simp only [d, if_true]
      rfl
    · rw [if_neg e]
      have d : decide (1 < cnt st b) = false := decide_eq_false e
      simp only [d, Bool.false_eq_true, if_false]
      rfl
theorem ev_short (st : BSt) (t s : Int) : (storeE st t s).1.length ≤ 2 := by
  unfold storeE
  cases bodyOf st t s with
  | none => simp
  | some b =>
    dsimp only
    split <;> simp
theorem PWell.fgl {n : Int} {R : Rule} {Z : PSt} (h : PWell n R Z) : Z.fg.length ≤ 99 := by
  have k1 : ∀ b ∈ keysA Z.fg, b ∈ (List.range Z.ds.length).map fun (i : Nat) => (i : Int) := fun b hb => by
    obtain ⟨x, hx⟩ := getA_isSome_of_mem hb
    obtain ⟨t, s, e⟩ := (h.pi.fi b).mp (by rw [hx]; rfl)
    have o := h.bok.lt b (has_occ h.bok e)
    have l := h.bok.ln
    exact List.mem_map.mpr ⟨b.toNat, List.mem_range.mpr (by omega), by omega⟩
  have l := len_of_sub h.pi.kf k1
  have := h.len
  simp only [keysA, List.length_map, List.length_range] at l
  omega
theorem row_len {row : AL Int} (nd : (keysA row).Nodup) (rg : ∀ c ∈ row, (0 ≤ c.1 ∧ c.1 < 64) ∧ c.2 ≠ 0) : row.length ≤ 64 := by
  have k1 : ∀ b ∈ keysA row, b ∈ (List.range 64).map fun (i : Nat) => (i : Int) := fun b hb => by
    obtain ⟨p, hp, rfl⟩ := List.mem_map.mp hb
    have := (rg p hp).1
    exact List.mem_map.mpr ⟨p.1.toNat, List.mem_range.mpr (by omega), by omega⟩
  have l := len_of_sub nd k1
  simpa [keysA] using l
theorem drop_none {row : AL Int} {p : Int} (h : getA row p = none) : dropA row p = row := by
  have n := getA_none.mp h
  unfold dropA
  refine List.filter_eq_self.mpr fun c hc => ?_
  simp only [decide_not, Bool.not_eq_eq_eq_not, Bool.not_true, decide_eq_false_iff_not]
  exact fun z => n (by rw [← z]; exact List.mem_map_of_mem (f := (·.1)) hc)
theorem upd_id {H : Hp} {a : Addr} {o : HO} (h : H a = some o) : upd H a o = H := by
  funext b
  by_cases e : b = a
  · rw [e, upd_same, h]
  · rw [upd_ne e]
end Pg
namespace Pg
open PySem PySem.Spec PyProof.Rows L2 DL Bo Fr Lw Dx
theorem PP.wTab2 {K : PySem.W.Frag} {C C2 C3 : Addr} {F H : Hp} {pg : Addr} {S : PSt} {p1 p2 fa pa oa : Addr} {T : AL (Addr × AL Int)} {W1 W2 : List Addr} {ps xs : List V} (h : PP K C C2 C3 F H pg S p1 p2 fa pa oa T W1 W2 ps xs) (sm : Same F H) {x : Addr} {o : HO} {T' : AL (Addr × AL Int)} {fg' : AL (AL Int)}
    (hx : x ∈ fa :: addrsOf T) (tp : TP F (upd H x o) fa T') (nT : ∀ y ∈ fa :: addrsOf T', y ∈ fa :: addrsOf T ∨ (y ∉ [pg, pa, oa] ∧ y ∉ W1 ∧ y ∉ W2)) (e : sheetsOf T' = fg') : PP K C C2 C3 F (upd H x o) pg ⟨S.st, S.fs, fg', S.ds⟩ p1 p2 fa pa oa T' W1 W2 ps xs := by
  subst e
  exact h.wTab sm hx tp nT
theorem mid_nd {st : BSt} {fg : AL (AL Int)} (h : PInv st fg) (t s : Int) : (keysA (figMid st fg t s)).Nodup := by
  unfold figMid
  split
  · exact nodup_putA h.kf _ _
  · exact h.kf
theorem next_free {n : Nat} {st : BSt} {fg : AL (AL Int)} (h : PInv st fg) (hs : BOk n st) : getA fg st.next = none := by
  cases q : getA fg st.next with
  | none => rfl
  | some x =>
    obtain ⟨t, s, e⟩ := (h.fi st.next).mp (by rw [q]; rfl)
    exact absurd rfl (new_free hs e)
end Pg
namespace S
open PySem PySem.Spec PyProof.Rows L2 DL
theorem iteM {b : Bool} {ta tb : TE} {σ : L2.St} {H : Hp} {Q : VK} (P : V → Hp → Prop) (hQ : ∀ v H', P v H' → Q v H') (h : ∀ Q' : VK, (∀ v H', P v H' → Q' v H') → if b = true then ta σ H Q' else tb σ H Q') : if b = true then ta σ H Q else tb σ H Q := h Q hQ
/-- a statement, then the rest: what stands between is told once -/
theorem seqQ {s1 s3 : TS} {D : Ends} {σ : L2.St} {H : Hp} (P : L2.St → Hp → Prop) (hr : ∀ σ' H', P σ' H' → s3 D σ' H') (h : ∀ nx : L2.St → Hp → Prop, (∀ σ' H', P σ' H' → nx σ' H') → s1 { D with nx := nx } σ H) : tSeq s1 s3 D σ H := h (s3 D) hr
end S
namespace Pg
open PySem PySem.Spec PyProof.Rows L2 DL Bo Fr Lw Dx
/-- the items of a dict of ints, ascending -/
def rowsS (r : AL Int) : List (Int × Int) := (sortI (keysA r)).map fun p => (p, (getA r p).getD 0)
theorem rowsS_perm {r : AL Int} (nd : (keysA r).Nodup) : (rowsS r).Perm r := by
  unfold rowsS
  refine ((sortI_perm _).map _).trans ?_
  unfold keysA
  rw [List.map_map]
  have e : r.map ((fun p => (p, (getA r p).getD 0)) ∘ fun p : Int × Int => p.1) = r := by
    conv => rhs; rw [← List.map_id r]
    refine List.map_congr_left fun p hp => ?_
    show (p.1, (getA r p.1).getD 0) = p
    rw [getA_of_mem nd (a := p.2) hp]
    rfl
  rw [e]
theorem rowsS_sorted {r : AL Int} (nd : (keysA r).Nodup) : (rowsS r).Pairwise leP := List.pairwise_map.mpr ((sortI_lt nd).imp fun z => leP_fst z)
theorem rowsS_uniq {r : AL Int} (nd : (keysA r).Nodup) {l : List (Int × Int)} (p : l.Perm r) (s : l.Pairwise leP) : l = rowsS r := perm_uniq leP_anti (p.trans (rowsS_perm nd).symm) s (rowsS_sorted nd)
theorem rowsS_len (r : AL Int) : (rowsS r).length = r.length := by
  unfold rowsS keysA
  rw [List.length_map, (sortI_perm _).length_eq, List.length_map]
theorem memP_snoc (rows : List (Int × Int)) (r : Int × Int) (cs : Int → List (Int × Int)) : memP (rows ++ [r]) cs = memP rows cs ++ cellsP r.1 (cs r.2) := by
  unfold memP
  rw [List.flatMap_append, List.flatMap_cons, List.flatMap_nil, List.append_nil]
theorem memS_ok {n : Int} {R : Rule} {Z : PSt} (h : PWell n R Z) (t : Int) : MemOk (memP (rowsS ((getA Z.st.sheets t).getD [])) fun b => rowsS (rowOf Z.fg b)) (valP Z.st Z.fg t) := by
  obtain ⟨r1, _, _⟩ := row_ok h.bok t
  exact mem_ok h (rowsS_perm r1) (rowsS_sorted r1) fun b _ => ⟨rowsS_perm (h.pi.row b).1, rowsS_sorted (h.pi.row b).1⟩
end Pg

/-! k13's law: its own flat memories, and what its helpers promise -/
namespace Pg
open PySem PySem.Spec PyProof.Rows L2 DL Bo Fr Lw Dx
def callD : PCall → PyData
  | .load t a => .tuple [.str "load", .int t, .int a]
  | .store t a f => .tuple [.str "store", .int t, .int a, .int f]
  | .fork t c => .tuple [.str "fork", .int t, .int c]
  | .fin t => .tuple [.str "end", .int t]
def CallOk (there met : List Int) : PCall → Prop
  | .load t a => t ∈ there ∧ 0 ≤ a ∧ a < 4096
  | .store t a f => t ∈ there ∧ (0 ≤ a ∧ a < 4096) ∧ 0 ≤ f ∧ f ≤ 65535
  | .fork t c => t ∈ there ∧ (1 ≤ c ∧ c ≤ 6) ∧ c ∉ met
  | .fin t => t ∈ there ∧ 1 < there.length
def resV (Z : PSt) : PCall → V
  | .load t a => .int (valP Z.st Z.fg t a)
  | _ => .non
theorem call_okD {there met : List Int} {st : BSt} (h : GInv there met st) {c : PCall} (ok : CallOk there met c) (hd : ∀ t ∈ there, t ∈ met) : okD st (deedOf c) = true := by
  cases c with
  | load t a =>
    obtain ⟨ht, a0, a1⟩ := ok
    exact ok_load (h.there ht) (by omega) (by omega)
  | store t a f =>
    obtain ⟨ht, ⟨a0, a1⟩, _⟩ := ok
    exact ok_store (h.there ht) (by omega) (by omega)
  | fork t c =>
    obtain ⟨ht, ⟨c0, c1⟩, hc⟩ := ok
    refine ok_fork (h.there ht) c0 c1 ?_
    cases z : (getA st.met c).isSome with
    | false => rfl
    | true => exact absurd ((h.mt c).mpr z) hc
  | fin t => exact ok_fin (h.there ok.1)
/-- the law's tables against the bodies -/
structure LRel (st : BSt) (fg : AL (AL Int)) (ft : AL (AL Int)) (sl : List (Int × Int)) (there met : List Int) : Prop where
  gi : GInv there met st
  tm : ∀ t ∈ there, t ∈ met
  fk : ∀ t, (getA ft t).isSome = true ↔ t ∈ there
  nk : (keysA ft).Nodup
  rn : ∀ p ∈ ft, (keysA p.2).Nodup
  rr : ∀ p ∈ ft, ∀ c ∈ p.2, 0 ≤ c.1 ∧ c.1 < 4096
  fv : ∀ t row, getA ft t = some row → ∀ a, 0 ≤ a → a < 4096 → (getA row a).getD 0 = valP st fg t a
  so : ∀ t s, t ∈ there → ((t, s) ∈ sl ↔ (bodyOf st t s).isSome = true)
  sm : ∀ p ∈ sl, p.1 ∈ met
/-- what a call changes in the law's tables -/
def ftStep (ft : AL (AL Int)) : PCall → AL (AL Int)
  | .load _ _ => ft
  | .store t a f => putA ft t (putA ((getA ft t).getD []) a f)
  | .fork t c => putA ft c ((getA ft t).getD [])
  | .fin t => dropA ft t
def slStep (sl : List (Int × Int)) : PCall → List (Int × Int)
  | .store t a _ => sl ++ [(t, a / 64)]
  | .fork t c => sl ++ (sl.filter fun p => decide (p.1 = t)).map fun p => (c, p.2)
  | _ => sl
def thereStep (there : List Int) : PCall → List Int
  | .fork _ c => there ++ [c]
  | .fin t => there.filter fun x => !decide (x = t)
  | _ => there
def metStep (met : List Int) : PCall → List Int
  | .fork _ c => met ++ [c]
  | _ => met
theorem isSome_cond {α : Type} {o : Option α} {P : Prop} [Decidable P] {x : α} : (if P then some x else o).isSome = true ↔ P ∨ o.isSome = true := by
  by_cases h : P
  · rw [if_pos h]; simp [h]
  · rw [if_neg h]; simp [h]
theorem LRel.step {st : BSt} {fg ft : AL (AL Int)} {sl : List (Int × Int)} {there met : List Int} {n : Nat} (h : LRel st fg ft sl there met) (hs : BOk n st) (hp : PInv st fg) {c : PCall} (ok : CallOk there met c) :
    LRel (doneE st (deedOf c)).2 (figStep st fg c) (ftStep ft c) (slStep sl c) (thereStep there c) (metStep met c) := by
  cases c with
  | load t a => exact h
  | store t a f =>
    obtain ⟨ht, ⟨a0, a1⟩, _⟩ := ok
    obtain ⟨row, hrow⟩ := getA_len ((h.fk t).mpr ht)
    have er : (getA ft t).getD [] = row := by rw [hrow]; rfl
    refine ⟨h.gi.store ht, h.tm, fun t' => ?_, nodup_putA h.nk _ _, fun p hp' => ?_, fun p hp' => ?_, fun t' row' e' a' h0 h1 => ?_, fun t' s' ht' => ?_, fun p hp' => ?_⟩
    · show (getA (putA ft t _) t').isSome = true ↔ _
      rw [getA_putA, isSome_cond, h.fk t']
      exact ⟨fun z => z.elim (fun e => by rw [e]; exact ht) id, .inr⟩
    · rcases mem_putA hp' with q | q
      · exact h.rn p q
      · rw [q, er]; exact nodup_putA (h.rn _ (getA_mem hrow)) _ _
    · rcases mem_putA hp' with q | q
      · exact h.rr p q
      · rw [q, er]
        intro c hc
        rcases mem_putA hc with z | z
        · exact h.rr _ (getA_mem hrow) c z
        · rw [z]; exact ⟨a0, a1⟩
    · show _ = valP (storeE st t (a / 64)).2 (figStore st fg t a f) t' a'
      rw [val_store hp hs]
      have e2 : getA (putA ft t (putA ((getA ft t).getD []) a f)) t' = some row' := e'
      rw [getA_putA, er] at e2
      by_cases d : t' = t
      · rw [if_pos d] at e2
        rw [← Option.some.inj e2, getA_putA]
        by_cases q : a' = a
        · rw [if_pos q, if_pos ⟨d, q⟩]; rfl
        · rw [if_neg q, if_neg fun z => q z.2, d]
          exact h.fv t row hrow a' h0 h1
      · rw [if_neg d] at e2
        rw [if_neg fun z => d z.1]
        exact h.fv t' row' e2 a' h0 h1
    · show (t', s') ∈ sl ++ [(t, a / 64)] ↔ (bodyOf (storeE st t (a / 64)).2 t' s').isSome = true
      rw [body_store, isSome_cond, List.mem_append, h.so t' s' ht', List.mem_singleton]
      constructor
      · rintro (z | z)
        · exact .inr z
        · exact .inl ⟨congrArg Prod.fst z, congrArg Prod.snd z⟩
      · rintro (z | z)
        · exact .inr (Prod.ext z.1 z.2)
        · exact .inl z
    · rcases List.mem_append.mp hp' with q | q
      · exact h.sm p q
      · rw [List.mem_singleton.mp q]; exact h.tm t ht
  | fork t c =>
    obtain ⟨ht, ⟨c0, c1⟩, hc⟩ := ok
    obtain ⟨row, hrow⟩ := getA_len ((h.fk t).mpr ht)
    have er : (getA ft t).getD [] = row := by rw [hrow]; rfl
    have hct : c ∉ there := fun z => hc (h.tm c z)
    have hcs : getA st.sheets c = none := by
      cases z : getA st.sheets c with
      | none => rfl
      | some x => exact absurd ((h.gi.th c).mpr (by rw [z]; rfl)) hct
    refine ⟨h.gi.fork c0 c1 hc hct, fun x hx => ?_, fun t' => ?_, nodup_putA h.nk _ _, fun p hp' => ?_, fun p hp' => ?_, fun t' row' e' a' h0 h1 => ?_, fun t' s' ht' => ?_, fun p hp' => ?_⟩
    · rcases List.mem_append.mp hx with q | q
      · exact List.mem_append_left _ (h.tm x q)
      · exact List.mem_append_right _ q
    · show (getA (putA ft c _) t').isSome = true ↔ t' ∈ there ++ [c]
      rw [getA_putA, isSome_cond, h.fk t', List.mem_append, List.mem_singleton]
      exact Or.comm
    · rcases mem_putA hp' with q | q
      · exact h.rn p q
      · rw [q, er]; exact h.rn (t, row) (getA_mem hrow)
    · rcases mem_putA hp' with q | q
      · exact h.rr p q
      · rw [q, er]; exact h.rr (t, row) (getA_mem hrow)
    · show _ = valP (forkS st t c) fg t' a'
      rw [val_fork]
      have e2 : getA (putA ft c ((getA ft t).getD [])) t' = some row' := e'
      rw [getA_putA, er] at e2
      by_cases d : t' = c
      · rw [if_pos d] at e2
        rw [if_pos d, ← Option.some.inj e2]
        exact h.fv t row hrow a' h0 h1
      · rw [if_neg d] at e2
        rw [if_neg d]
        exact h.fv t' row' e2 a' h0 h1
    · show (t', s') ∈ sl ++ (sl.filter fun p => decide (p.1 = t)).map (fun p => (c, p.2)) ↔ (bodyOf (forkS st t c) t' s').isSome = true
      rw [body_fork, List.mem_append]
      have hin : ∀ x, (c, x) ∈ (sl.filter fun p => decide (p.1 = t)).map (fun p => (c, p.2)) ↔ (t, x) ∈ sl := fun x => by
        constructor
        · intro z
          obtain ⟨p, hp', e⟩ := List.mem_map.mp z
          obtain ⟨h1, h2⟩ := List.mem_filter.mp hp'
          have e1 : p.1 = t := of_decide_eq_true h2
          have e2 : p.2 = x := congrArg Prod.snd e
          rw [← e1, ← e2]
          exact h1
        · intro z
          exact List.mem_map.mpr ⟨(t, x), List.mem_filter.mpr ⟨z, decide_eq_true rfl⟩, rfl⟩
      by_cases d : t' = c
      · subst d
        rw [if_pos rfl, hin, ← h.so t s' ht]
        exact ⟨fun z => z.elim (fun q => absurd (h.sm _ q) hc) id, .inr⟩
      · rw [if_neg d]
        have ht2 : t' ∈ there := (List.mem_append.mp ht').elim id fun z => absurd (List.mem_singleton.mp z) d
        rw [← h.so t' s' ht2]
        refine ⟨fun z => z.elim id fun q => ?_, .inl⟩
        obtain ⟨p, _, e⟩ := List.mem_map.mp q
        exact absurd (congrArg Prod.fst e).symm d
    · rcases List.mem_append.mp hp' with q | q
      · exact List.mem_append_left _ (h.sm p q)
      · obtain ⟨r, _, e⟩ := List.mem_map.mp q
        rw [← e]
        exact List.mem_append_right _ List.mem_cons_self
  | fin t =>
    obtain ⟨ht, hl⟩ := ok
    have hal : (getA st.sheets t).isSome = true := (h.gi.th t).mp ht
    have eT : thereStep there (.fin t) = there.erase t := (erase_filter h.gi.nt t).symm
    have tmem : ∀ x, x ∈ there.filter (fun x => !decide (x = t)) ↔ x ∈ there ∧ x ≠ t := fun x => by rw [List.mem_filter]; simp
    refine ⟨by rw [eT]; exact h.gi.fin ht hl, fun x hx => h.tm x (List.mem_filter.mp hx).1, fun t' => ?_, nodup_dropA h.nk _, fun p hp' => h.rn p (List.mem_filter.mp hp').1, fun p hp' => h.rr p (List.mem_filter.mp hp').1, fun t' row' e' a' h0 h1 => ?_, fun t' s' ht' => ?_, h.sm⟩
    · show (getA (dropA ft t) t').isSome = true ↔ t' ∈ there.filter _
      rw [getA_dropA, tmem, ← h.fk t']
      by_cases d : t' = t
      · rw [if_pos d]; simp [d]
      · rw [if_neg d]; simp [d]
    · have e2 : getA (dropA ft t) t' = some row' := e'
      rw [getA_dropA] at e2
      by_cases d : t' = t
      · rw [if_pos d] at e2; cases e2
      · rw [if_neg d] at e2
        show _ = valP (endE st t).2 (figFin fg (endE st t).1) t' a'
        rw [val_end hs hal a' d]
        exact h.fv t' row' e2 a' h0 h1
    · obtain ⟨h1, h2⟩ := (tmem t').mp ht'
      show (t', s') ∈ sl ↔ (bodyOf (endE st t).2 t' s').isSome = true
      rw [body_end, if_neg h2]
      exact h.so t' s' h1
theorem LRel.zero : LRel st0 [] [(1, [])] [] [1] [1] := by
  refine ⟨⟨by simp, by simp, fun t ht => by rw [List.mem_singleton.mp ht]; decide, fun t => ?_, fun t => ?_⟩, fun t h => h, fun t => ?_, by simp [keysA], fun p hp => ?_, fun p hp c hc => ?_, fun t row e a _ _ => ?_, fun t s ht => ?_, fun p hp => by cases hp⟩
  · show t ∈ [1] ↔ (getA [((1 : Int), ([] : AL Int))] t).isSome = true
    rw [getA_cons, getA_nil, List.mem_singleton]
    by_cases e : (1 : Int) = t
    · simp [e]
    · simp [e]; omega
  · show t ∈ [1] ↔ (getA [((1 : Int), ())] t).isSome = true
    rw [getA_cons, getA_nil, List.mem_singleton]
    by_cases e : (1 : Int) = t
    · simp [e]
    · simp [e]; omega
  · rw [getA_cons, getA_nil, List.mem_singleton]
    by_cases e : (1 : Int) = t
    · simp [e]
    · simp [e]; omega
  · rw [List.mem_singleton.mp hp]; exact List.nodup_nil
  · rw [List.mem_singleton.mp hp] at hc; cases hc
  · have e1 : row = [] := by
      have m := getA_mem e
      exact congrArg Prod.snd (List.mem_singleton.mp m)
    rw [e1]
    show (0 : Int) = valP st0 [] t a
    unfold valP bodyOf
    have : (getA st0.sheets t).getD [] = [] := by
      show (getA [((1 : Int), ([] : AL Int))] t).getD [] = []
      rw [getA_cons, getA_nil]
      split <;> rfl
    rw [this]
    rfl
  · constructor
    · intro z; cases z
    · intro z
      unfold bodyOf at z
      have : (getA st0.sheets t).getD [] = [] := by
        show (getA [((1 : Int), ([] : AL Int))] t).getD [] = []
        rw [getA_cons, getA_nil]
        split <;> rfl
      rw [this] at z
      cases z
/-- a flat memory as rows -/
def rowsL (cells : AL Int) : List (Int × Int) := ((sortI (keysA cells)).filter fun a => !decide ((getA cells a).getD 0 = 0)).map fun a => (a, (getA cells a).getD 0)
theorem rowsL_ok {cells : AL Int} (nd : (keysA cells).Nodup) (rg : ∀ c ∈ cells, 0 ≤ c.1 ∧ c.1 < 4096) : MemOk (rowsL cells) (fun a => (getA cells a).getD 0) := by
  refine ⟨List.pairwise_map.mpr (((sortI_lt nd).filter _).imp fun z => z), fun a f => ?_⟩
  unfold rowsL
  rw [List.mem_map]
  constructor
  · rintro ⟨x, hx, e⟩
    cases e
    obtain ⟨h1, h2⟩ := List.mem_filter.mp hx
    have h3 := (sortI_perm _).mem_iff.mp h1
    obtain ⟨p, hp, rfl⟩ := List.mem_map.mp h3
    exact ⟨rg p hp, rfl, by simpa using h2⟩
  · rintro ⟨⟨h0, h1⟩, e, hf⟩
    refine ⟨a, List.mem_filter.mpr ⟨(sortI_perm _).mem_iff.mpr ?_, ?_⟩, by rw [e]⟩
    · by_cases q : a ∈ keysA cells
      · exact q
      · rw [getA_none.mpr q] at e
        exact absurd e hf
    · rw [← e]; simpa using hf
end Pg

namespace Pg
open PySem PySem.Spec PyProof.Rows L2 DL Bo Fr Lw Dx
def ArgOk : PCall → Prop
  | .load _ a => 0 ≤ a ∧ a < 4096
  | .store _ a f => (0 ≤ a ∧ a < 4096) ∧ 0 ≤ f ∧ f ≤ 65535
  | _ => True
theorem CallOk.arg {there met : List Int} {c : PCall} (h : CallOk there met c) : ArgOk c := by
  cases c with
  | load t a => exact ⟨h.2.1, h.2.2⟩
  | store t a f => exact ⟨h.2.1, h.2.2⟩
  | fork t c => trivial
  | fin t => trivial
theorem okD_there {st : BSt} {c : PCall} (h : okD st (deedOf c) = true) : ∀ t, (∃ a, c = .load t a) ∨ (∃ a f, c = .store t a f) → thereD st (.int t) = true := fun t e => by
  rcases e with ⟨a, rfl⟩ | ⟨a, f, rfl⟩
  · have h' : (thereD st (.int t) && _) = true := h
    exact (Bool.and_eq_true_iff.mp h').1
  · have h' : (thereD st (.int t) && _) = true := h
    exact (Bool.and_eq_true_iff.mp h').1
section
variable (K : PySem.W.Frag) (C C2 C3 : Addr)
def spRule : Sp := fun vs H Q _ => ∃ (F : Hp) (q : Addr) (m : Nat), vs = [.ref q] ∧ Same F H ∧ F q = none ∧ DkAt H q m ∧ m ≤ 10000 ∧ ∀ R v F' H', Gr [q] F H F' H' → DkAt H' q (m + 12) → ruleOk R → Dp K F' v (ruleD R) → Q v H'
def spAddr : Sp := fun vs H Q _ => ∃ (F : Hp) (q : Addr) (m : Nat), vs = [.ref q] ∧ Same F H ∧ F q = none ∧ DkAt H q m ∧ m ≤ 10000 ∧ ∀ a H', Gr [q] F H F H' → DkAt H' q (m + 2) → 0 ≤ a → a < 4096 → Q (.int a) H'
def spRowsL : Sp := fun vs H Q _ => ∃ (F : Hp) (d : Addr) (cells : AL Int), vs = [.ref d] ∧ Same F H ∧ H d = some (.dK (kM V.int cells)) ∧ (keysA cells).Nodup ∧ cells.length ≤ 4096 ∧ ∀ w F' H', Gr [] F H F' H' → Dp K F' w (.tuple ((rowsL cells).map prZ)) → Q w H'
def spCallL : Sp := fun vs H Q _ => ∃ (F : Hp) (q tA mA : Addr) (there met : List Int) (m : Nat), vs = [.ref q, .ref tA, .ref mA] ∧ Same F H ∧ F q = none ∧ DkAt H q m ∧ m ≤ 9000 ∧ H tA = some (.lst (there.map V.int)) ∧ H mA = some (.lst (met.map V.int)) ∧ tA ≠ q ∧ mA ≠ q ∧ there ≠ [] ∧ there.length ≤ 1000 ∧ met.length ≤ 1000 ∧
  ∀ c w F' H', Gr [q] F H F' H' → DkAt H' q (m + 6) → CallOk there met c → Dp K F' w (callD c) → Q w H'
def spDone13 : Sp := fun vs H Q _ => ∃ (F : Hp) (pg : Addr) (Z : PSt) (W : List Addr) (w : V) (c : PCall) (n : Int) (R : Rule), vs = [.ref pg, w] ∧ Same F H ∧ PgAt K C C2 C3 F H pg Z W ∧ PWell n R Z ∧ okD Z.st (deedOf c) = true ∧ ArgOk c ∧ Dp K F w (callD c) ∧
  ∀ F' H', PGo K C C2 C3 F H pg W (stepP Z c) F' H' → Q (resV Z c) H'
end
end Pg
namespace Pg
open PySem PySem.Spec PyProof.Rows L2 DL Bo Fr Lw Dx
theorem pr_eqv (a b : Int × Int) : PyData.eqv (prZ a) (prZ b) = decide (a = b) := by
  by_cases h1 : a.1 = b.1
  · by_cases h2 : a.2 = b.2
    · have e : a = b := Prod.ext h1 h2
      simp [prZ, PyData.eqv, PyData.eqvAll, e]
    · have e : ¬ a = b := fun z => h2 (by rw [z])
      simp [prZ, PyData.eqv, PyData.eqvAll, h2, e]
  · have e : ¬ a = b := fun z => h1 (by rw [z])
    simp [prZ, PyData.eqv, PyData.eqvAll, h1, e]
theorem any_in (l : List (Int × Int)) (x : Int × Int) : ((l.map prZ).any fun z => PyData.eqv z (prZ x)) = decide (x ∈ l) := by
  rw [List.any_map]
  induction l with
  | nil => simp
  | cons p l ih =>
    rw [List.any_cons, ih]
    show (PyData.eqv (prZ p) (prZ x) || decide (x ∈ l)) = _
    rw [pr_eqv]
    by_cases e : p = x
    · simp [e]
    · have e2 : ¬ x = p := fun z => e z.symm
      simp [e, e2]
/-- the figures of a body -/
def figsD (fg : AL (AL Int)) (b : Int) : PyData := .list (((List.range 64).map fun (i : Nat) => figOf fg b (i : Int)).map PyData.int)
def seenD (fg : AL (AL Int)) (s b : Int) : PyData := .tuple [.int s, figsD fg b]
theorem eqvAll_ints : ∀ l : List Int, PyData.eqvAll (l.map PyData.int) (l.map PyData.int) = true
  | [] => rfl
  | a :: l => by
    rw [List.map_cons]
    simp only [PyData.eqvAll, eqvAll_ints l, Bool.and_true]
    simp [PyData.eqv]
theorem seen_eqv (fg : AL (AL Int)) (s b : Int) : PyData.eqv (seenD fg s b) (seenD fg s b) = true := by
  unfold seenD figsD
  simp only [PyData.eqv, PyData.eqvAll, eqvAll_ints, Bool.and_true]
  simp
theorem lay_ints : ∀ l : List Int, PyData.canLayAll0 (l.map PyData.int) = true ∧ PyData.depthAll (l.map PyData.int) = 0
  | [] => ⟨by simp [PyData.canLayAll0], by simp [PyData.depthAll]⟩
  | a :: l => by
    obtain ⟨h1, h2⟩ := lay_ints l
    rw [List.map_cons]
    exact ⟨by simp [PyData.canLayAll0, PyData.canLay0, h1], by simp [PyData.depthAll, PyData.depth, h2]⟩
theorem seen_shaped (fg : AL (AL Int)) (s b : Int) : SeqAt.shaped (seenD fg s b) = true := by
  have h := lay_ints ((List.range 64).map fun (i : Nat) => figOf fg b (i : Int))
  unfold seenD figsD
  generalize (List.range 64).map (fun (i : Nat) => figOf fg b (i : Int)) = l at h ⊢
  obtain ⟨h1, h2⟩ := h
  simp [SeqAt.shaped, PyData.canLay0, PyData.canLayAll0, PyData.depth, PyData.depthAll, h1, h2]
theorem prZ_shaped (p : Int × Int) : SeqAt.shaped (prZ p) = true := by
  unfold prZ
  simp [SeqAt.shaped, PyData.canLay0, PyData.canLayAll0, PyData.depth, PyData.depthAll]
section
variable (K : PySem.W.Frag) (C C2 C3 : Addr)
def spBodR : Sp := fun vs H Q _ => ∃ (F : Hp) (pg fl sl : Addr) (Z : PSt) (W : List Addr) (TF : AL (Addr × AL Int)) (sxs : List V) (stL : List (Int × Int)) (there met : List Int) (n : Int) (R : Rule), vs = [.ref pg, .ref fl, .ref sl] ∧ Same F H ∧ PgAt K C C2 C3 F H pg Z W ∧ PWell n R Z ∧
  TabsAt H fl TF ∧ H sl = some (.lst sxs) ∧ DpAll K F sxs (stL.map prZ) ∧ LRel Z.st Z.fg (sheetsOf TF) stL there met ∧ ∀ F' H', Gr [] F H F' H' → Q (.bl true) H'
end
theorem LRel.tl {st : BSt} {fg ft : AL (AL Int)} {sl : List (Int × Int)} {there met : List Int} (h : LRel st fg ft sl there met) : ft.length ≤ 6 := by
  have k1 : ∀ b ∈ keysA ft, b ∈ ([1, 2, 3, 4, 5, 6] : List Int) := fun b hb => by
    obtain ⟨x, hx⟩ := getA_isSome_of_mem hb
    have := h.gi.rg b ((h.fk b).mp (by rw [hx]; rfl))
    simp
    omega
  have l := len_of_sub h.nk k1
  simpa [keysA] using l
end Pg
namespace Pg
open PySem PySem.Spec PyProof.Rows L2 DL Bo Fr Lw Dx
theorem hu65_of {A : Around} {k : Nat} (hr : Room k A) : A.units + 65 < cLine := by have := hr.un; omega
theorem op_notInDK {X : Cx} {K : PySem.W.Frag} (e : X.K = K) (hu : X.A.units + 65 < cLine) : OpR X (compareOp .NotIn) (rNotInD K) := by subst e; exact op_notInD hu
/-- what was seen of the bodies -/
def SeenOk (K : PySem.W.Frag) (F : Hp) (st : BSt) (fg : AL (AL Int)) (L : AL V) : Prop := ∀ b v, getA L b = some v → ∃ t s, bodyOf st t s = some b ∧ Dp K F v (seenD fg s b)
theorem SeenOk.to {K : PySem.W.Frag} {F F' : Hp} {st : BSt} {fg : AL (AL Int)} {L : AL V} (h : SeenOk K F st fg L) (e : Same F F') : SeenOk K F' st fg L := fun b v q => by
  obtain ⟨t, s, h1, h2⟩ := h b v q
  exact ⟨t, s, h1, h2.to e⟩
theorem SeenOk.put {K : PySem.W.Frag} {F : Hp} {st : BSt} {fg : AL (AL Int)} {L : AL V} (h : SeenOk K F st fg L) {b t s : Int} {v : V} (e : bodyOf st t s = some b) (d : Dp K F v (seenD fg s b)) : SeenOk K F st fg (putA L b v) := fun b' v' q => by
  rw [getA_putA] at q
  by_cases z : b' = b
  · rw [if_pos z] at q
    rw [← Option.some.inj q, z]
    exact ⟨t, s, e, d⟩
  · rw [if_neg z] at q
    exact h b' v' q
theorem valP_fig {st : BSt} {fg : AL (AL Int)} {t s b : Int} (e : bodyOf st t s = some b) {i : Int} (h0 : 0 ≤ i) (h1 : i < 64) : valP st fg t (64 * s + i) = figOf fg b i := by
  unfold valP
  rw [show (64 * s + i) / 64 = s by omega, show (64 * s + i) % 64 = i by omega, e]
theorem Pg_ob {K : PySem.W.Frag} {C C2 C3 : Addr} {F H : Hp} {pg : Addr} {Z : PSt} {W : List Addr} (h : PgAt K C C2 C3 F H pg Z W) : ∃ dx fs, H pg = some (.ins C3 dx fs) ∧ fs.lookup ("load" : Str) = none ∧ fs.lookup ("store" : Str) = none ∧ fs.lookup ("fork" : Str) = none ∧ fs.lookup ("end" : Str) = none ∧ fs.lookup ("body" : Str) = none ∧ fs.lookup ("memory" : Str) = none ∧ fs.lookup ("deeds" : Str) = none ∧ fs.lookup ("misses" : Str) = none ∧ fs.lookup ("inside" : Str) = none := by
  obtain ⟨p1, p2, fa, pa, oa, T, W1, W2, ps, xs, rfl, P0⟩ := h
  obtain ⟨dx, hp⟩ := P0.ob
  exact ⟨dx, _, hp, rfl, rfl, rfl, rfl, rfl, rfl, rfl, rfl, rfl⟩
end Pg
namespace S
open PySem PySem.Spec PyProof.Rows L2 DL
theorem ninD {K : PySem.W.Frag} {F H : Hp} {Q : VK} {x y : V} {d : PyData} {ds : List PyData} (hx : Dp K F x d) (hy : Dp K F y (.list ds)) (s : Same F H) (h1 : SeqAt.shaped d = true) (h2 : SeqAt.shaped (.list ds) = true) (q : Q (.bl (!ds.any fun z => PyData.eqv z d)) H) : rNotInD K x y H Q := ⟨d, ds, hx.to s, hy.to s, h1, h2, q⟩
end S

/-! k13's law: what can be asked, and owners -/
namespace DL
open PySem PySem.Spec PyProof.Rows L2
theorem Gr.lock1 {F H : Hp} {d : Addr} {u : HO} {od : Obj} (s : Same F H) (fd : F d = none) : Gr [d] F H F (upd H d (.frz od u)) := Gr.write s fd (by simp)
theorem Gr.unlock1 {F H F' H' : Hp} {d : Addr} {u : HO} {od : Obj} (hd : H d = some u) (fd : F d = none) (g : Gr [] F (upd H d (.frz od u)) F' H') : Gr [] F H F' (upd H' d u) := by
  have hl : ∀ b, H b ≠ none → upd H d (.frz od u) b ≠ none := fun b hb => by
    by_cases e : b = d
    · rw [e, upd_same]; exact fun z => nomatch z
    · rw [upd_ne e]; exact hb
  have fd' : F' d = none := g.own d fd (hl d (by rw [hd]; exact fun z => nomatch z))
  refine ⟨g.fs, fun b o _ e => ?_, fun b o e => ?_, fun b e hb => g.own b e (hl b hb), fun b hb => ?_⟩
  · by_cases z : b = d
    · rw [z, upd_same, ← hd, ← z, e]
    · rw [upd_ne z]; exact g.at0 (by rw [upd_ne z]; exact e)
  · rw [upd_ne (ne_of_none e fd')]; exact g.sub b o e
  · by_cases z : b = d
    · rw [z, upd_same]; exact fun y => nomatch y
    · rw [upd_ne z]; exact g.live b (hl b hb)
end DL
namespace S
open PySem PySem.Spec PyProof.Rows L2 DL
theorem lock1 {t : TE} {σ : L2.St} {H : Hp} {Q : VK} {d : Addr} {u : HO} (h : H d = some u) (m : Mut (some u)) (q : ∀ od, t σ (upd H d (.frz od u)) fun v H' => H' d = some (.frz od u) ∧ Q v (upd H' d u)) : tLockE t σ H Q := ⟨d, u, h, m, q⟩
theorem iKeys {td : TE} {σ : L2.St} {H : Hp} {R : It → Hp → Prop} (q : td σ H fun x H1 => ∃ d o, x = .ref d ∧ ((∃ kvs, H1 d = some (.frz o (.dK kvs)) ∧ R (Itk d o kvs) H1) ∨ ∃ kvs, H1 d = some (.frz o (.dT kvs)) ∧ R (Itkt d o kvs) H1)) : L2.iKeys td σ H R := q
end S
namespace Pg
open PySem PySem.Spec PyProof.Rows L2 DL Bo Fr Lw Dx
theorem MemOk.len {l : List (Int × Int)} {v : Int → Int} (h : MemOk l v) : l.length ≤ 4096 := by
  have k1 : ∀ b ∈ l.map (·.1), b ∈ (List.range 4096).map fun (i : Nat) => (i : Int) := fun b hb => by
    obtain ⟨p, hp, rfl⟩ := List.mem_map.mp hb
    have := ((h.mem p.1 p.2).mp hp).1
    exact List.mem_map.mpr ⟨p.1.toNat, List.mem_range.mpr (by omega), by omega⟩
  have nd : (l.map (·.1)).Nodup := List.pairwise_map.mpr (h.asc.imp fun z e => by omega)
  have l := len_of_sub nd k1
  simpa using l
theorem dds_ok (ds : List Deed) (hl : ds.length ≤ 1000000) : (PyData.tuple (ds.map deedD)).depth < 3 ∧ wid (.tuple (ds.map deedD)) = true := by
  refine ⟨depth_tup ?_, wid_tup (fun d hd => ?_) (by rw [List.length_map]; exact hl)⟩
  · induction ds with
    | nil => simp [PyData.depthAll]
    | cons d ds ih =>
      have := ih (by simp at hl; omega)
      rw [List.map_cons]
      have e : (deedD d).depth ≤ 1 := by cases d <;> simp [deedD, PyData.depth, PyData.depthAll]
      unfold PyData.depthAll
      omega
  · obtain ⟨e, _, rfl⟩ := List.mem_map.mp hd
    cases e <;> simp [deedD, wid, widAll]
/-- the two lists of cells of a task are one -/
theorem rows_eq {n : Int} {R : Rule} {Z : PSt} {ft : AL (AL Int)} {sl : List (Int × Int)} {there met : List Int} (rel : LRel Z.st Z.fg ft sl there met) {t : Int} {row : AL Int} (h : getA ft t = some row) {l : List (Int × Int)} (hl : MemOk l (valP Z.st Z.fg t)) : rowsL row = l :=
  (rowsL_ok (rel.rn _ (getA_mem h)) (rel.rr _ (getA_mem h))).uniq hl fun a h0 h1 => rel.fv t row h a h0 h1
theorem row_cap {row : AL Int} (nd : (keysA row).Nodup) (rg : ∀ c ∈ row, 0 ≤ c.1 ∧ c.1 < 4096) : row.length ≤ 4096 := by
  have k1 : ∀ b ∈ keysA row, b ∈ (List.range 4096).map fun (i : Nat) => (i : Int) := fun b hb => by
    obtain ⟨p, hp, rfl⟩ := List.mem_map.mp hb
    have := rg p hp
    exact List.mem_map.mpr ⟨p.1.toNat, List.mem_range.mpr (by omega), by omega⟩
  have l := len_of_sub nd k1
  simpa [keysA] using l
section
variable (K : PySem.W.Frag) (C C2 C3 : Addr)
/-- what is asked of the pages, of the law's tables and of the deck -/
structure Asked (F H : Hp) (pg fl sl dl : Addr) (Z : PSt) (W : List Addr) (TF : AL (Addr × AL Int)) (sxs dxs : List V) (stL : List (Int × Int)) (there met : List Int) (n : Int) (R : Rule) (u : V) : Prop where
  sm : Same F H
  pg : PgAt K C C2 C3 F H pg Z W
  pw : PWell n R Z
  tp : TP F H fl TF
  nw : fl ∉ W
  sl : H sl = some (.lst sxs)
  sd : DpAll K F sxs (stL.map prZ)
  dl : H dl = some (.lst dxs)
  dd : DpAll K F dxs (Z.ds.map deedD)
  rel : LRel Z.st Z.fg (sheetsOf TF) stL there met
  ru : Dp K F u (ruleD R)
  rk : ruleOk R
theorem Asked.gr {K : PySem.W.Frag} {C C2 C3 : Addr} {F H F' H' : Hp} {pg fl sl dl : Addr} {Z : PSt} {W X : List Addr} {TF : AL (Addr × AL Int)} {sxs dxs : List V} {stL : List (Int × Int)} {there met : List Int} {n : Int} {R : Rule} {u : V}
    (h : Asked K C C2 C3 F H pg fl sl dl Z W TF sxs dxs stL there met n R u) (g : Gr X F H F' H') (n1 : ∀ x ∈ W, x ∉ X) (n2 : ∀ x ∈ fl :: addrsOf TF, x ∉ X) (n3 : sl ∉ X) (n4 : dl ∉ X) : Asked K C C2 C3 F' H' pg fl sl dl Z W TF sxs dxs stL there met n R u :=
  ⟨g.sub, h.pg.gr g n1, h.pw, h.tp.gr g n2, h.nw, g.at n3 h.sl, h.sd.to g.fs, g.at n4 h.dl, h.dd.to g.fs, h.rel, h.ru.to g.fs, h.rk⟩
def spAsked : Sp := fun vs H Q _ => ∃ (F : Hp) (q pg fl sl dl : Addr) (m : Nat) (Z : PSt) (W : List Addr) (TF : AL (Addr × AL Int)) (sxs dxs : List V) (stL : List (Int × Int)) (there met : List Int) (n : Int) (R : Rule) (u : V), vs = [.ref q, .ref pg, .ref fl, .ref sl, .ref dl, .int n, u] ∧
  F q = none ∧ DkAt H q m ∧ m ≤ 9000 ∧ Asked K C C2 C3 F H pg fl sl dl Z W TF sxs dxs stL there met n R u ∧ q ∉ W ∧ q ∉ fl :: addrsOf TF ∧ sl ≠ q ∧ dl ≠ q ∧ ∀ F' H', Gr [q] F H F' H' → DkAt H' q (m + 1) → Q (.bl true) H'
def spOwnR : Sp := fun vs H Q _ => ∃ (F : Hp) (pg fl sl dl : Addr) (Z : PSt) (W : List Addr) (TF : AL (Addr × AL Int)) (sxs dxs : List V) (stL : List (Int × Int)) (there met : List Int) (n : Int) (R : Rule) (u : V), vs = [.ref pg, .ref fl, .ref dl] ∧
  Asked K C C2 C3 F H pg fl sl dl Z W TF sxs dxs stL there met n R u ∧ ∀ F' H', Gr [] F H F' H' → Q (.bl true) H'
end
end Pg
namespace S
open PySem PySem.Spec PyProof.Rows L2 DL Bo
theorem eqOpt {K : PySem.W.Frag} {H : Hp} {Q : VK} {o : Option Int} {b : Int} (q : Q (.bl (decide (o = some b))) H) : rEqU K (optV o) (.int b) H Q := by
  cases o with
  | none => exact .inl ⟨rfl, q⟩
  | some a =>
    refine .inl ⟨rfl, ?_⟩
    have e : decide (optV (some a) = V.int b) = decide (some a = some b) := by
      by_cases z : a = b
      · subst z; simp [optV]
      · show decide (V.int a = V.int b) = _
        rw [decide_eq_false (fun y => z (V.int.inj y)), decide_eq_false (fun y => z (Option.some.inj y))]
    rw [e]
    exact q
end S
namespace Pg
open PySem PySem.Spec PyProof.Rows L2 DL Bo Fr Lw Dx
/-- the sheets below m of a task that have a body -/
def ownRow (st : BSt) (t b : Int) (m : Nat) : List (Int × Int) := (((List.range m).map fun (i : Nat) => (i : Int)).filter fun s => decide (bodyOf st t s = some b)).map fun s => (t, s)
theorem ownRow_succ (st : BSt) (t b : Int) (m : Nat) : ownRow st t b (m + 1) = ownRow st t b m ++ (if bodyOf st t (m : Int) = some b then [(t, (m : Int))] else []) := by
  unfold ownRow
  rw [List.range_succ, List.map_append, List.filter_append, List.map_append]
  congr 1
  by_cases e : bodyOf st t (m : Int) = some b <;> simp [e]
theorem ownRow_len (st : BSt) (t b : Int) (m : Nat) : (ownRow st t b m).length ≤ m := by
  unfold ownRow
  rw [List.length_map]
  refine Nat.le_trans (List.length_filter_le _ _) ?_
  simp
theorem ownRow_eq {n : Int} {R : Rule} {Z : PSt} (h : PWell n R Z) (t b : Int) : ownRow Z.st t b 64 = rowP t ((getA Z.st.sheets t).getD []) b := by
  unfold ownRow rowP
  congr 1
  obtain ⟨r1, _, _⟩ := row_ok h.bok t
  have lt1 : ((((List.range 64).map fun (i : Nat) => (i : Int)).filter fun s => decide (bodyOf Z.st t s = some b))).Pairwise (· < ·) := by
    refine List.Pairwise.filter _ (List.pairwise_map.mpr (List.pairwise_lt_range.imp fun z => by omega))
  have lt2 : ((sortI (keysA ((getA Z.st.sheets t).getD []))).filter fun s => decide (getA ((getA Z.st.sheets t).getD []) s = some b)).Pairwise (· < ·) := (sortI_lt r1).filter _
  refine perm_uniq (r := fun x y : Int => x ≤ y) (fun a b h1 h2 => Int.le_antisymm h1 h2) ((List.perm_ext_iff_of_nodup (lt1.imp fun z => Int.ne_of_lt z) (lt2.imp fun z => Int.ne_of_lt z)).mpr fun s => ?_) (lt1.imp fun z => Int.le_of_lt z) (lt2.imp fun z => Int.le_of_lt z)
  rw [List.mem_filter, List.mem_filter, (sortI_perm _).mem_iff]
  constructor
  · rintro ⟨_, e⟩
    have e1 : getA ((getA Z.st.sheets t).getD []) s = some b := of_decide_eq_true e
    refine ⟨?_, decide_eq_true e1⟩
    by_cases q : s ∈ keysA ((getA Z.st.sheets t).getD [])
    · exact q
    · rw [getA_none.mpr q] at e1; cases e1
  · rintro ⟨_, e⟩
    have e1 : bodyOf Z.st t s = some b := of_decide_eq_true e
    obtain ⟨s0, s1⟩ := h.rows e1
    exact ⟨List.mem_map.mpr ⟨s.toNat, List.mem_range.mpr (by omega), by omega⟩, decide_eq_true e1⟩
theorem own_eq {n : Int} {R : Rule} {Z : PSt} (h : PWell n R Z) {ft : AL (AL Int)} {sl : List (Int × Int)} {there met : List Int} (rel : LRel Z.st Z.fg ft sl there met) (b : Int) :
    ((sortI (keysA ft)).flatMap fun t => ownRow Z.st t b 64) = havingP Z.st.sheets b := by
  unfold havingP
  have e : sortI (keysA ft) = sortI (keysA Z.st.sheets) := by
    refine sortI_perm_eq ((List.perm_ext_iff_of_nodup rel.nk h.bok.nds).mpr fun t => ?_)
    have mem : ∀ {α : Type} (l : AL α), t ∈ keysA l ↔ (getA l t).isSome = true := fun l => by
      constructor
      · intro z
        obtain ⟨x, hx⟩ := getA_isSome_of_mem z
        rw [hx]; rfl
      · intro z
        by_cases q : t ∈ keysA l
        · exact q
        · rw [getA_none.mpr q] at z; cases z
    rw [mem, mem, rel.fk t, rel.gi.th t]
  rw [e]
  congr 1
  funext t
  exact ownRow_eq h t b
theorem own_len {st : BSt} (b : Int) : ∀ ts : List Int, (ts.flatMap fun t => ownRow st t b 64).length ≤ 64 * ts.length
  | [] => Nat.le_refl _
  | t :: ts => by
    rw [List.flatMap_cons, List.length_append, List.length_cons]
    have := own_len (st := st) b ts
    have := ownRow_len st t b 64
    omega
end Pg

/-! rules that the layer lacks: d.get(x) of a module's dict, dict(t) of a tuple of pairs -/
namespace DL
open PySem PySem.Spec PyProof.Rows L2
/-- a module's dict with text keys -/
structure KD (K : PySem.W.Frag) (w : World) (a : Addr) : Prop where
  ex : ∃ es n, K.lookup a = some ⟨.type "dict", none, .dict es n, #[]⟩ ∧ PySem.W.KeysLit w.params es.toList
  low : (a == sysModules) = false
def tKGet (K : PySem.W.Frag) (w : World) (td ty : TE) : TE := fun σ H Q => td σ H fun x H1 => ∃ a, x = .ref a ∧ KD K w a ∧ ty σ H1 fun y H2 => ∃ (z : Str) (o : Option Value) (v : V), y = .str z ∧ PySem.W.nsIn K a z = some o ∧ RelV v (o.getD .none) ∧ Q v H2
theorem pe_kget {X : Cx} {o e : Expr} {td ty : TE} {apos cpos : Pos} (ho : PE X o td) (he : PE X e ty) (m : M1 X o "get" apos e cpos) : PE X (.Call (.Attribute o "get" apos) [e] [] cpos) (tKGet X.K X.w td ty) := by
  refine ⟨fun pins s σ H Q I h => ?_⟩
  refine wpAny_Call_method m.base m.few m.line PySem.F.plainAttrs_dict PySem.F.slot_dict_get PySem.F.type_dict_get (thn (ho.run pins s σ H _ I h) fun u s1 ⟨x, H1, I1, rx, a, ex, kd, q1⟩ => ?_)
  subst ex
  obtain rfl : u = Value.ref a := rx
  obtain ⟨⟨es, n, hl, hk⟩, low⟩ := kd
  have hm := PySem.W.mapOf_K (prog := X.prog) (w := X.w) I1.kIn hl hk
  refine ⟨hm.typeIs, hm.noDict, ?_⟩
  rw [m.trees]
  refine Calls.callWith_builtin rfl (Calls.evalArgs_plain (Calls.spliced_cons (thn (he.run pins s1 σ H1 _ I1 q1) fun iv s2 ⟨y, H2, I2, ry, z, o, v, ey, e0, rv, q2⟩ => Calls.spliced_nil ?_)))
  subst ey
  obtain ⟨t, rfl⟩ := ry
  have hm2 := PySem.W.mapOf_K (prog := X.prog) (w := X.w) I2.kIn hl hk
  exact call_meetsIn PySem.F.slot_dict_get hm2.typeIs PySem.F.entry_dict_get (PySem.F.args_dict_get_2 _ _) (meets_dict_get (strKind X.prog X.w) a (strKind_is X.prog X.w z t) low) ⟨_, hm2, by rw [PySem.W.find_K hl e0]; exact ⟨v, H2, I2.tok _, rv, q2⟩⟩
/-- a tuple that is known to have no dict of its own -/
def PTup (H : Hp) (a : Addr) (xs : List V) : Prop := ∃ o, H a = some (.frz o (.tup xs)) ∧ o.dict = none
theorem PTup.to {F H : Hp} {a : Addr} {xs : List V} (h : PTup F a xs) (e : Same F H) : PTup H a xs := by
  obtain ⟨o, h1, h2⟩ := h
  exact ⟨o, e _ _ h1, h2⟩
theorem PTup.seq {K : PySem.W.Frag} {F : Hp} {a : Addr} {xs : List V} (h : PTup F a xs) : SqT K F a xs := by
  obtain ⟨o, h1, _⟩ := h
  exact .inl (.inr ⟨o, h1⟩)
def tTupF (t : TA) : TE := fun σ H Q => t σ H fun xs H1 => xs.length ≤ sizeLine ∧ ∀ p o, H1 p = none → o.dict = none → Q (.ref p) (upd H1 p (.frz o (.tup xs)))
theorem pe_tupF {X : Cx} {es : List Expr} {t : TA} {pos : Pos} {x1} (h : PA X es t) : PE X (.Tuple es x1 pos) (tTupF t) := by
  refine ⟨fun pins s σ H Q I hq => ?_⟩
  refine wpAny_Tuple_spliced (thn (h.run pos pins s σ H _ I hq) fun us s1 ⟨xs, H1, I1, r, z, q⟩ => ⟨by rw [← r.length]; exact z, ?_⟩)
  have hf : H1 s1.heap.objs.size = none := I1.hok.fresh (Nat.le_refl _)
  refine ⟨.ref s1.heap.objs.size, _, I1.laid (t' := s1.toks) (fun b u e => Heap.get?_push_of_some _ e) (Nat.le_refl _) ?_, rfl, q _ { cls := .type "tuple", data := .seq us.toArray } hf rfl⟩
  exact ⟨Heap.get?_push_size _ rfl, z, us, r, ⟨_, Heap.get?_push_size _ rfl, rfl, _, rfl⟩⟩
def rTupF (K : PySem.W.Frag) : List V → Hp → VK → Prop := fun xs H Q => ∃ p ys, xs = [.ref p] ∧ SqL K H p ys ∧ ∀ l o, H l = none → o.dict = none → Q (.ref l) (upd H l (.frz o (.tup ys)))
theorem call_tupF {X : Cx} : CallR X (.type "tuple") (rTupF X.K) := by
  intro pins s σ H xs us Q I r h
  obtain ⟨p, ys, rfl, hq, q⟩ := h
  obtain ⟨u, rfl, rx⟩ := vals1 r
  cases rx
  obtain ⟨its, r', pl, hz⟩ := I.list hq
  have hlen := r'.length
  refine call_tuple_list pl.isList (fun h' kp => ?_) (by simp only [List.size_toArray] <;> omega)
  have I1 : Inv X pins σ H { s with heap := h' } := I.kept (t' := s.toks) kp
  exact ⟨.ref h'.objs.size, _, I1.laid (t' := s.toks) (fun b o e => Heap.get?_push_of_some _ e) (Nat.le_refl _) (show ObjOk X.prog X.w _ _ _ (.frz { cls := .type "tuple", data := .seq its.toArray } (.tup ys)) from ⟨Heap.get?_push_size _ rfl, hz, its, r', IsTup.new _ _⟩), rfl, q _ _ (I1.hok.fresh (Nat.le_refl _)) rfl⟩
/-- dict(t) of a tuple of pairs -/
def rDictPT (K : PySem.W.Frag) : List V → Hp → VK → Prop := fun xs H Q => ∃ (a : Addr) (ps : List Addr) (kvs : List (L2.Key × V)), xs = [.ref a] ∧ PTup H a (ps.map V.ref) ∧ Paired (fun p kv => SqT K H p [kV kv.1, kv.2]) ps kvs ∧
    ∀ p, H p = none → Q (.ref p) (upd H p (.dK (mergeK [] kvs)))
theorem call_dictPT {X : Cx} (hcalm : X.calm = true) : CallR X (.type "dict") (rDictPT X.K) := by
  intro pins s σ H xs us Q I r q
  obtain ⟨a, ps, kvs, ex, ⟨o, hq, hod⟩, hp, q⟩ := q
  subst ex
  obtain ⟨u, eu, rx⟩ := vals1 r
  subst eu
  cases rx
  obtain ⟨hget, hz, its, rv, o', ho', hc, n, hdat⟩ := (show ObjOk X.prog X.w H s.heap a (.frz o (.tup (ps.map V.ref))) from I.hok a _ hq)
  rw [hget] at ho'
  cases ho'
  have ei := refs_at rv
  subst ei
  rw [List.length_map] at hz
  obtain ⟨prs, rel, hl, hpr⟩ := pairs_of I hp
  have hm : (s.heap.objs.size == sysModules) = false := beq_eq_false_iff_ne.mpr (Nat.ne_of_gt I.big)
  have hlen : (mergeK [] kvs).length ≤ sizeLine := by
    refine Nat.le_trans (length_mergeK kvs []) ?_
    rw [List.length_nil, Nat.zero_add, rel.length, hl]
    exact hz
  -- the values of the pairs
  let Ts : Nat → Addr := fun j => (ps[j]?).getD 0
  have hex : ∀ j : Nat, ∃ p : Value × Value, ∀ q, prs[j]? = some q → (∃ b, ps[j]? = some b ∧ IsTup s.heap b #[p.1, p.2]) ∧ p.2 = q.2 ∧ keyIs q.1 p.1 = true := fun j => by
    cases e : prs[j]? with
    | none => exact ⟨(.none, .none), fun q h => by cases h⟩
    | some q =>
      obtain ⟨b, u, e1, e2, e3⟩ := hpr j q e
      exact ⟨(u, q.2), fun q' h => by cases h; exact ⟨⟨b, e1, e2⟩, rfl, e3⟩⟩
  let pv : Nat → Value × Value := fun j => (hex j).choose
  have hpv : ∀ j q, prs[j]? = some q → (∃ b, ps[j]? = some b ∧ IsTup s.heap b #[(pv j).1, (pv j).2]) ∧ (pv j).2 = q.2 ∧ keyIs q.1 (pv j).1 = true := fun j q e => (hex j).choose_spec q e
  let qs : List (Value × Value) := (List.range prs.length).map pv
  have hqs : ∀ j k v, qs[j]? = some (k, v) → ∃ q, prs[j]? = some q ∧ pv j = (k, v) := fun j k v e => by
    rw [List.getElem?_map] at e
    by_cases hj : j < prs.length
    · rw [List.getElem?_range hj] at e
      exact ⟨prs[j], List.getElem?_eq_getElem hj, Option.some.inj e⟩
    · rw [List.getElem?_eq_none (by rw [List.length_range]; omega)] at e
      cases e
  have hql : qs.length = prs.length := by simp [qs]
  refine PySem.call_dict_pairs (knd := mixKind X.prog X.w) (kvs := prs) (PairArg.tuple (prog := X.prog) (w := X.w) a (ps.map Value.ref).toArray Ts qs) (I.ok.hd hcalm) ⟨⟨o, n, hget, hc, hod, hdat⟩, ?_, fun j k v e => ?_⟩ ⟨hql.symm, fun i key v e => ?_⟩ (by rw [hql, hl]; exact hz) fun h' tk hd' kp => ?_
  · simp [hql, hl]
  · obtain ⟨q, e1, e2⟩ := hqs j k v e
    obtain ⟨⟨b, e3, e4⟩, _, _⟩ := hpv j q e1
    rw [e2] at e4
    have eT : Ts j = b := by show (ps[j]?).getD 0 = b; rw [e3]; rfl
    rw [eT]
    exact ⟨by simp [e3], .inl e4⟩
  · obtain ⟨q, e1, e2⟩ := hqs i key v e
    obtain ⟨_, e4, e5⟩ := hpv i q e1
    rw [e2] at e4 e5
    exact ⟨q.1, by rw [e1]; show some q = some (q.1, v); rw [show v = q.2 from e4], e5⟩
  · exact ⟨.ref s.heap.objs.size, upd H s.heap.objs.size (.dK (mergeK [] kvs)), I.laid (t' := tk) (fun b o e => kp b o (fun z => nomatch z) e) (Nat.le_refl _) (show ObjOk X.prog X.w _ _ _ (.dK (mergeK [] kvs)) from ⟨hlen, hm, merged [] prs, KV.merge rel .nil, hd'⟩), rfl, q _ (I.hok.fresh (Nat.le_refl _))⟩
end DL

/-! k00: orders, machines, what a turn does; plain -/
namespace Mc
open PySem PySem.Spec PyProof.Rows L2 DL Bo Fr Lw Dx Pg
inductive AOp where
  | add | sub | mul | and | or | less | same
def AOp.name : AOp → Str
  | .add => "add" | .sub => "sub" | .mul => "mul" | .and => "and" | .or => "or" | .less => "less" | .same => "same"
inductive Ord where
  | set (r f : Int) | copy (a b : Int) | ar (w : AOp) (a b c : Int) | load (a b : Int) | store (a b : Int) | jump (p : Int) | iff (r p : Int) | call (p : Int) | back | ask (w : Str) | stop
def wordO : Ord → Str
  | .set _ _ => "set" | .copy _ _ => "copy" | .ar w _ _ _ => w.name | .load _ _ => "load" | .store _ _ => "store" | .jump _ => "jump" | .iff _ _ => "if" | .call _ => "call" | .back => "back" | .ask _ => "ask" | .stop => "stop"
def argsO : Ord → List PyData
  | .set r f => [.int r, .int f] | .copy a b => [.int a, .int b] | .ar _ a b c => [.int a, .int b, .int c] | .load a b => [.int a, .int b] | .store a b => [.int a, .int b]
  | .jump p => [.int p] | .iff r p => [.int r, .int p] | .call p => [.int p] | .back => [] | .ask w => [.str w] | .stop => []
def ordD (o : Ord) : PyData := .tuple (.str (wordO o) :: argsO o)
def kindsO : Ord → List Str
  | .set _ _ => ["register", "figure"] | .copy _ _ => ["register", "register"] | .ar _ _ _ _ => ["register", "register", "register"] | .load _ _ => ["register", "register"] | .store _ _ => ["register", "register"]
  | .jump _ => ["place"] | .iff _ _ => ["register", "place"] | .call _ => ["place"] | .back => [] | .ask _ => ["word"] | .stop => []
def wordsL : List Str := ["await", "block", "caught", "close", "dup", "filter", "fits", "fork", "free", "go", "link", "lock", "look", "mkdir", "name", "open", "pipe", "read", "remove", "rename", "seek", "send", "sync", "task", "time", "unblock", "wait", "way", "write"]
def isReg (r : Int) : Prop := 0 ≤ r ∧ r ≤ 7
def isFig (f : Int) : Prop := 0 ≤ f ∧ f ≤ 65535
def OrdOk (n : Nat) : Ord → Prop
  | .set r f => isReg r ∧ isFig f
  | .copy a b => isReg a ∧ isReg b
  | .ar _ a b c => isReg a ∧ isReg b ∧ isReg c
  | .load a b => isReg a ∧ isReg b
  | .store a b => isReg a ∧ isReg b
  | .jump p => 0 ≤ p ∧ p < n
  | .iff r p => isReg r ∧ 0 ≤ p ∧ p < n
  | .call p => 0 ≤ p ∧ p < n
  | .back => True
  | .ask w => w ∈ wordsL
  | .stop => True
structure CodeOk (code : List Ord) : Prop where
  l1 : 1 ≤ code.length
  l2 : code.length ≤ 4000
  ok : ∀ o ∈ code, OrdOk code.length o
structure Mch where
  at_ : Int
  regs : List Int
  calls : List Int
  mem : List (Int × Int)
structure MemA (mem : List (Int × Int)) : Prop where
  asc : mem.Pairwise fun p q => p.1 < q.1
  rg : ∀ p ∈ mem, (0 ≤ p.1 ∧ p.1 < 4096) ∧ 1 ≤ p.2 ∧ p.2 ≤ 65535
structure MchOk (n : Nat) (m : Mch) : Prop where
  a0 : 0 ≤ m.at_
  a1 : m.at_ ≤ n
  rl : m.regs.length = 8
  rf : ∀ f ∈ m.regs, isFig f
  cl : m.calls.length ≤ 32
  cr : ∀ c ∈ m.calls, 0 ≤ c ∧ c ≤ n
  me : MemA m.mem
def reg (m : Mch) (i : Int) : Int := (m.regs[i.toNat]?).getD 0
def getM (mem : List (Int × Int)) (a : Int) : Int := (getA mem a).getD 0
def putM (mem : List (Int × Int)) (a f : Int) : List (Int × Int) := (mem.filter fun p => decide (p.1 < a)) ++ ((if f = 0 then [] else [(a, f)]) ++ mem.filter fun p => decide (a < p.1))
def calcA : AOp → Int → Int → Int
  | .add, a, b => (a + b) % 65536
  | .sub, a, b => (a - b) % 65536
  | .mul, a, b => (a * b) % 65536
  | .and, a, b => Builtin.bitAnd a b
  | .or, a, b => Builtin.bitOr a b
  | .less, a, b => if a < b then 1 else 0
  | .same, a, b => if a = b then 1 else 0
inductive Res where
  | fault (w : Str) | stops (n : Int) | asks (w : Str) | goes (m : Mch)
def machD (m : Mch) : PyData := .tuple [.int m.at_, .tuple (m.regs.map .int), .tuple (m.calls.map .int), .tuple (m.mem.map prZ)]
def resD : Res → PyData
  | .fault w => .tuple [.str "fault", .str w]
  | .stops n => .tuple [.str "stops", .int n]
  | .asks w => .tuple [.str "asks", .str w]
  | .goes m => .tuple [.str "goes", machD m]
/-- what stops an order -/
def haltO (o : Ord) (m : Mch) : Option Res := match o with
  | .stop => some (.stops (reg m 0 % 256))
  | .ask w => some (.asks w)
  | .call _ => if m.calls.length = 32 then some (.fault "stack") else none
  | .back => if m.calls.length = 0 then some (.fault "stack") else none
  | .load _ b => if 4096 ≤ reg m b then some (.fault "address") else none
  | .store a _ => if 4096 ≤ reg m a then some (.fault "address") else none
  | _ => none
def setR (m : Mch) (i f : Int) : List Int := m.regs.set i.toNat f
/-- where an order leads -/
def nextO (o : Ord) (m : Mch) : Mch := match o with
  | .set r f => ⟨m.at_ + 1, setR m r f, m.calls, m.mem⟩
  | .copy a b => ⟨m.at_ + 1, setR m a (reg m b), m.calls, m.mem⟩
  | .ar w a b c => ⟨m.at_ + 1, setR m a (calcA w (reg m b) (reg m c)), m.calls, m.mem⟩
  | .load a b => ⟨m.at_ + 1, setR m a (getM m.mem (reg m b)), m.calls, m.mem⟩
  | .store a b => ⟨m.at_ + 1, m.regs, m.calls, putM m.mem (reg m a) (reg m b)⟩
  | .jump p => ⟨p, m.regs, m.calls, m.mem⟩
  | .iff r p => ⟨if reg m r = 0 then m.at_ + 1 else p, m.regs, m.calls, m.mem⟩
  | .call p => ⟨p, m.regs, m.calls ++ [m.at_ + 1], m.mem⟩
  | .back => ⟨m.calls.getLastD 0, m.regs, m.calls.dropLast, m.mem⟩
  | .ask _ => m
  | .stop => m
def haltR (code : List Ord) (m : Mch) : Option Res := match code[m.at_.toNat]? with
  | none => some (.fault "order")
  | some o => haltO o m
def stepR (code : List Ord) (m : Mch) : Res := match code[m.at_.toNat]? with
  | none => .fault "order"
  | some o => (haltO o m).getD (.goes (nextO o m))
/-! ### memories -/
theorem MemA.nd {mem : List (Int × Int)} (h : MemA mem) : (keysA mem).Nodup := List.pairwise_map.mpr (h.asc.imp fun z e => by omega)
theorem MemA.ok {mem : List (Int × Int)} (h : MemA mem) : MemOk mem (getM mem) := by
  refine ⟨h.asc, fun a f => ⟨fun hm => ?_, fun ⟨_, e, hf⟩ => ?_⟩⟩
  · obtain ⟨r, f1, f2⟩ := h.rg _ hm
    refine ⟨r, ?_, by omega⟩
    unfold getM
    rw [getA_of_mem h.nd (a := f) hm]
    rfl
  · unfold getM at e
    cases q : getA mem a with
    | none => rw [q] at e; exact absurd e hf
    | some g =>
      rw [q] at e
      rw [show f = g from e]
      exact getA_mem q
theorem MemA.get {mem : List (Int × Int)} (h : MemA mem) (a : Int) : 0 ≤ getM mem a ∧ getM mem a ≤ 65535 := by
  unfold getM
  cases q : getA mem a with
  | none => exact ⟨Int.le_refl _, by decide⟩
  | some g =>
    have := (h.rg _ (getA_mem q)).2
    show 0 ≤ g ∧ g ≤ 65535
    omega
theorem putM_A {mem : List (Int × Int)} (h : MemA mem) {a f : Int} (ha : 0 ≤ a ∧ a < 4096) (hf : isFig f) : MemA (putM mem a f) := by
  unfold putM
  refine ⟨?_, fun p hp => ?_⟩
  · refine List.pairwise_append.mpr ⟨h.asc.filter _, List.pairwise_append.mpr ⟨?_, h.asc.filter _, ?_⟩, ?_⟩
    · split <;> simp
    · intro x hx y hy
      have hy' := of_decide_eq_true (List.mem_filter.mp hy).2
      split at hx
      · cases hx
      · rw [List.mem_singleton.mp hx]; exact hy'
    · intro x hx y hy
      have hx' : x.1 < a := of_decide_eq_true (List.mem_filter.mp hx).2
      rcases List.mem_append.mp hy with hy | hy
      · split at hy
        · cases hy
        · rw [List.mem_singleton.mp hy]; exact hx'
      · have hy' : a < y.1 := of_decide_eq_true (List.mem_filter.mp hy).2
        exact Int.lt_trans hx' hy'
  · rcases List.mem_append.mp hp with hp | hp
    · exact h.rg p (List.mem_filter.mp hp).1
    · rcases List.mem_append.mp hp with hp | hp
      · split at hp
        · cases hp
        · rename_i e
          rw [List.mem_singleton.mp hp]
          exact ⟨ha, by have := hf.1; have := hf.2; show 1 ≤ f ∧ f ≤ 65535; omega⟩
      · exact h.rg p (List.mem_filter.mp hp).1
theorem putM_mem {mem : List (Int × Int)} (h : MemA mem) {a f : Int} (x : Int × Int) : x ∈ putM mem a f ↔ (x ∈ mem ∧ x.1 ≠ a) ∨ (x = (a, f) ∧ f ≠ 0) := by
  unfold putM
  rw [List.mem_append, List.mem_append, List.mem_filter, List.mem_filter]
  simp only [decide_eq_true_iff]
  constructor
  · rintro (⟨h1, h2⟩ | h1 | ⟨h1, h2⟩)
    · exact .inl ⟨h1, by omega⟩
    · split at h1
      · cases h1
      · rename_i e
        exact .inr ⟨List.mem_singleton.mp h1, e⟩
    · exact .inl ⟨h1, by omega⟩
  · rintro (⟨h1, h2⟩ | ⟨h1, h2⟩)
    · by_cases e : x.1 < a
      · exact .inl ⟨h1, e⟩
      · exact .inr (.inr ⟨h1, by omega⟩)
    · rw [if_neg h2]
      exact .inr (.inl (by rw [h1]; exact List.mem_singleton_self _))
theorem putM_get {mem : List (Int × Int)} (h : MemA mem) {a f : Int} (ha : 0 ≤ a ∧ a < 4096) (hf : isFig f) (x : Int) : getM (putM mem a f) x = if x = a then f else getM mem x := by
  have h2 := putM_A h ha hf
  by_cases e : x = a
  · rw [if_pos e, e]
    by_cases z : f = 0
    · unfold getM
      cases q : getA (putM mem a f) a with
      | none => exact z.symm
      | some g =>
        rcases (putM_mem h _).mp (getA_mem q) with ⟨_, y⟩ | ⟨y, _⟩
        · exact absurd rfl y
        · exact congrArg Prod.snd y
    · have hm : (a, f) ∈ putM mem a f := (putM_mem h _).mpr (.inr ⟨rfl, z⟩)
      unfold getM
      rw [getA_of_mem h2.nd (a := f) hm]
      rfl
  · rw [if_neg e]
    unfold getM
    cases q : getA mem x with
    | none =>
      cases q2 : getA (putM mem a f) x with
      | none => rfl
      | some g =>
        rcases (putM_mem h _).mp (getA_mem q2) with ⟨y, _⟩ | ⟨y, _⟩
        · rw [getA_of_mem h.nd (a := g) y] at q; cases q
        · exact absurd (congrArg Prod.fst y) e
    | some g =>
      have hm : (x, g) ∈ putM mem a f := (putM_mem h _).mpr (.inl ⟨getA_mem q, e⟩)
      rw [getA_of_mem h2.nd (a := g) hm]
/-- the cells kept in a dict -/
structure Kept (kept : AL Int) (mem : List (Int × Int)) : Prop where
  nd : (keysA kept).Nodup
  rg : ∀ c ∈ kept, 0 ≤ c.1 ∧ c.1 < 4096
  ev : ∀ a, (getA kept a).getD 0 = getM mem a
theorem Kept.rows {kept : AL Int} {mem : List (Int × Int)} (h : Kept kept mem) (hm : MemA mem) : rowsL kept = mem := (rowsL_ok h.nd h.rg).uniq hm.ok fun a _ _ => h.ev a
theorem Kept.zero {mem : List (Int × Int)} (h : MemA mem) : Kept mem mem := ⟨h.nd, fun c hc => (h.rg c hc).1, fun a => rfl⟩
theorem Kept.put {kept : AL Int} {mem : List (Int × Int)} (h : Kept kept mem) (hm : MemA mem) {a f : Int} (ha : 0 ≤ a ∧ a < 4096) (hf : isFig f) (n : f ≠ 0) : Kept (putA kept a f) (putM mem a f) := by
  refine ⟨nodup_putA h.nd _ _, fun c hc => ?_, fun x => ?_⟩
  · rcases mem_putA hc with z | z
    · exact h.rg c z
    · rw [z]; exact ha
  · rw [putM_get hm ha hf, getA_putA, ← h.ev x]
    by_cases e : x = a
    · rw [if_pos e, if_pos e]; rfl
    · rw [if_neg e, if_neg e]
theorem Kept.drop {kept : AL Int} {mem : List (Int × Int)} (h : Kept kept mem) (hm : MemA mem) {a : Int} (ha : 0 ≤ a ∧ a < 4096) : Kept (dropA kept a) (putM mem a 0) := by
  refine ⟨nodup_dropA h.nd _, fun c hc => h.rg c (List.mem_filter.mp hc).1, fun x => ?_⟩
  rw [putM_get hm ha ⟨Int.le_refl _, by decide⟩, getA_dropA, ← h.ev x]
  by_cases e : x = a
  · rw [if_pos e, if_pos e]; rfl
  · rw [if_neg e, if_neg e]
theorem Kept.len {kept : AL Int} {mem : List (Int × Int)} (h : Kept kept mem) : kept.length ≤ 4096 := row_cap h.nd h.rg
end Mc

/-! k00: plain facts of turns -/
namespace Mc
open PySem PySem.Spec PyProof.Rows L2 DL Bo Fr Lw Dx Pg
theorem bitAnd_nn {a b : Int} (ha : 0 ≤ a) (hb : 0 ≤ b) : Builtin.bitAnd a b = ((a.toNat &&& b.toNat : Nat) : Int) := by
  unfold Builtin.bitAnd
  rw [decide_eq_true ha, decide_eq_true hb]
theorem bitOr_nn {a b : Int} (ha : 0 ≤ a) (hb : 0 ≤ b) : Builtin.bitOr a b = ((a.toNat ||| b.toNat : Nat) : Int) := by
  unfold Builtin.bitOr Builtin.bitAnd
  have h1 : decide (0 ≤ Builtin.bitNot a) = false := decide_eq_false (by unfold Builtin.bitNot; omega)
  have h2 : decide (0 ≤ Builtin.bitNot b) = false := decide_eq_false (by unfold Builtin.bitNot; omega)
  rw [h1, h2]
  have e1 : ∀ x : Int, Builtin.bitNot (Builtin.bitNot x) = x := fun x => by unfold Builtin.bitNot; omega
  rw [e1, e1, e1]
theorem calc_fig (w : AOp) {a b : Int} (ha : isFig a) (hb : isFig b) : isFig (calcA w a b) := by
  obtain ⟨a0, a1⟩ := ha
  obtain ⟨b0, b1⟩ := hb
  cases w with
  | add => exact ⟨Int.emod_nonneg _ (by decide), by have := Int.emod_lt_of_pos (a + b) (b := 65536) (by decide); show (a + b) % 65536 ≤ 65535; omega⟩
  | sub => exact ⟨Int.emod_nonneg _ (by decide), by have := Int.emod_lt_of_pos (a - b) (b := 65536) (by decide); show (a - b) % 65536 ≤ 65535; omega⟩
  | mul => exact ⟨Int.emod_nonneg _ (by decide), by have := Int.emod_lt_of_pos (a * b) (b := 65536) (by decide); show (a * b) % 65536 ≤ 65535; omega⟩
  | and =>
    show isFig (Builtin.bitAnd a b)
    rw [bitAnd_nn a0 b0]
    have : a.toNat &&& b.toNat ≤ a.toNat := Nat.and_le_left
    exact ⟨by omega, by omega⟩
  | or =>
    show isFig (Builtin.bitOr a b)
    rw [bitOr_nn a0 b0]
    have : a.toNat ||| b.toNat < 2 ^ 16 := Nat.or_lt_two_pow (by omega) (by omega)
    exact ⟨by omega, by omega⟩
  | less =>
    show isFig (if a < b then 1 else 0)
    split <;> exact ⟨by decide, by decide⟩
  | same =>
    show isFig (if a = b then 1 else 0)
    split <;> exact ⟨by decide, by decide⟩
theorem reg_at {n : Nat} {m : Mch} (h : MchOk n m) {i : Int} (hi : isReg i) : m.regs[i.toNat]? = some (reg m i) ∧ isFig (reg m i) := by
  obtain ⟨i0, i1⟩ := hi
  have hl := h.rl
  have e : m.regs[i.toNat]? = some (m.regs[i.toNat]'(by omega)) := List.getElem?_eq_getElem (by omega)
  have e2 : reg m i = m.regs[i.toNat]'(by omega) := by unfold reg; rw [e]; rfl
  rw [e2]
  exact ⟨e, h.rf _ (List.getElem_mem _)⟩
theorem set_ok {n : Nat} {m : Mch} (h : MchOk n m) {i f : Int} (hf : isFig f) : (setR m i f).length = 8 ∧ ∀ x ∈ setR m i f, isFig x := by
  refine ⟨by unfold setR; rw [List.length_set]; exact h.rl, fun x hx => ?_⟩
  rcases List.mem_or_eq_of_mem_set hx with z | z
  · exact h.rf x z
  · rw [z]; exact hf
theorem next_ok {n : Nat} {m : Mch} (h : MchOk n m) {o : Ord} (ok : OrdOk n o) (ha : m.at_ < n) (hh : haltO o m = none) : MchOk n (nextO o m) := by
  have hset : ∀ {i f : Int}, isFig f → MchOk n ⟨m.at_ + 1, setR m i f, m.calls, m.mem⟩ := fun {i f} hf => ⟨by have := h.a0; show 0 ≤ m.at_ + 1; omega, by show m.at_ + 1 ≤ n; omega, (set_ok h hf).1, (set_ok h hf).2, h.cl, h.cr, h.me⟩
  cases o with
  | set r f => exact hset ok.2
  | copy a b => exact hset (reg_at h ok.2).2
  | ar w a b c => exact hset (calc_fig w (reg_at h ok.2.1).2 (reg_at h ok.2.2).2)
  | load a b => exact hset (h.me.get _)
  | store a b =>
    have h1 : ¬ 4096 ≤ reg m a := fun z => by simp [haltO, z] at hh
    have h2 := (reg_at h ok.1).2.1
    exact ⟨by have := h.a0; show 0 ≤ m.at_ + 1; omega, by show m.at_ + 1 ≤ n; omega, h.rl, h.rf, h.cl, h.cr, putM_A h.me ⟨h2, by omega⟩ (reg_at h ok.2).2⟩
  | jump p => exact ⟨ok.1, by have := ok.2; show p ≤ n; omega, h.rl, h.rf, h.cl, h.cr, h.me⟩
  | iff r p =>
    have h1 := h.a0
    have h2 := ok.2
    refine ⟨?_, ?_, h.rl, h.rf, h.cl, h.cr, h.me⟩
    · show 0 ≤ if reg m r = 0 then m.at_ + 1 else p
      split <;> omega
    · show (if reg m r = 0 then m.at_ + 1 else p) ≤ n
      split <;> omega
  | call p =>
    have h1 : ¬ m.calls.length = 32 := fun z => by simp [haltO, z] at hh
    have h2 := h.cl
    have h3 := h.a0
    refine ⟨ok.1, by have := ok.2; show p ≤ n; omega, h.rl, h.rf, by show (m.calls ++ [_]).length ≤ 32; simp; omega, fun c hc => ?_, h.me⟩
    rcases List.mem_append.mp hc with z | z
    · exact h.cr c z
    · rw [List.mem_singleton.mp z]; exact ⟨by omega, by omega⟩
  | back =>
    have h1 : ¬ m.calls.length = 0 := fun z => by simp [haltO, z] at hh
    have hm : m.calls.getLastD 0 ∈ m.calls := by
      cases e : m.calls with
      | nil => rw [e] at h1; exact absurd rfl h1
      | cons a l => rw [List.getLastD_cons, List.getLastD_eq_getLast?]; cases q : l.getLast? with
        | none => simp
        | some z => exact List.mem_cons_of_mem _ (List.mem_of_getLast? q)
    refine ⟨(h.cr _ hm).1, (h.cr _ hm).2, h.rl, h.rf, by show m.calls.dropLast.length ≤ 32; rw [List.length_dropLast]; have := h.cl; omega, fun c hc => h.cr c ((List.dropLast_sublist _).subset hc), h.me⟩
  | ask w => exact h
  | stop => exact h
theorem at_some {code : List Ord} {m : Mch} (h : MchOk code.length m) : (m.at_ = code.length ∧ code[m.at_.toNat]? = none) ∨ (m.at_ < code.length ∧ ∃ o, code[m.at_.toNat]? = some o ∧ o ∈ code) := by
  have h0 := h.a0
  have h1 := h.a1
  by_cases e : m.at_ = code.length
  · exact .inl ⟨e, List.getElem?_eq_none (by omega)⟩
  · have hl : m.at_.toNat < code.length := by omega
    exact .inr ⟨by omega, code[m.at_.toNat], List.getElem?_eq_getElem hl, List.getElem_mem hl⟩
theorem step_ok {code : List Ord} {m m' : Mch} (hc : CodeOk code) (h : MchOk code.length m) (e : stepR code m = .goes m') : MchOk code.length m' ∧ ∃ o, code[m.at_.toNat]? = some o ∧ haltO o m = none ∧ m' = nextO o m ∧ OrdOk code.length o := by
  rcases at_some h with ⟨_, e1⟩ | ⟨hl, o, e1, ho⟩
  · unfold stepR at e
    rw [e1] at e
    cases e
  · unfold stepR at e
    rw [e1] at e
    dsimp only at e
    cases q : haltO o m with
    | none =>
      rw [q] at e
      have e2 : nextO o m = m' := Res.goes.inj e
      rw [← e2]
      exact ⟨next_ok h (hc.ok o ho) hl q, o, e1, q, rfl, hc.ok o ho⟩
    | some r =>
      rw [q] at e
      have e2 : r = .goes m' := e
      rw [e2] at q
      exfalso
      cases o <;> simp only [haltO] at q <;> (try split at q) <;> cases q
/-- a halt is no going on -/
theorem halt_no {o : Ord} {m m' : Mch} : haltO o m ≠ some (.goes m') := fun q => by
  cases o <;> simp only [haltO] at q <;> (try split at q) <;> cases q
theorem haltR_no {code : List Ord} {m m' : Mch} : haltR code m ≠ some (.goes m') := fun q => by
  unfold haltR at q
  cases e : code[m.at_.toNat]? with
  | none => rw [e] at q; cases q
  | some o => rw [e] at q; exact halt_no q
theorem step_halt {code : List Ord} {m : Mch} : (∀ r, haltR code m = some r → stepR code m = r) ∧ (haltR code m = none → ∃ o, code[m.at_.toNat]? = some o ∧ haltO o m = none ∧ stepR code m = .goes (nextO o m)) := by
  unfold haltR stepR
  cases e : code[m.at_.toNat]? with
  | none => exact ⟨fun r q => Option.some.inj q, fun q => (by cases q)⟩
  | some o =>
    dsimp only
    cases z : haltO o m with
    | none => exact ⟨fun r q => (by cases q), fun _ => ⟨o, rfl, z, rfl⟩⟩
    | some r => exact ⟨fun r' q => Option.some.inj q, fun q => (by cases q)⟩
/-! ### running -/
inductive Told where
  | on | ends (r : Res)
def toldD : Told → PyData
  | .on => .tuple [.str "goes on"]
  | .ends r => resD r
def toldOf (code : List Ord) (m : Mch) : Told := match haltR code m with
  | none => .on
  | some r => .ends r
def runD (t : Told) (m : Mch) (many : Nat) : PyData := .tuple [toldD t, machD m, .int many]
/-- so many turns, or fewer -/
def runR (code : List Ord) : Nat → Mch → Nat → Told × Mch × Nat
  | 0, m, many => (toldOf code m, m, many)
  | t + 1, m, many => match stepR code m with
    | .goes m' => runR code t m' (many + 1)
    | r => (.ends r, m, many)
/-- the machine behind so many turns that go -/
inductive Chain (code : List Ord) (m : Mch) : Nat → Mch → Prop where
  | zero : Chain code m 0 m
  | succ {k : Nat} {m1 m2 : Mch} (h : Chain code m k m1) (e : stepR code m1 = .goes m2) : Chain code m (k + 1) m2
theorem Chain.front {code : List Ord} {k : Nat} {m m1 m2 : Mch} (e : stepR code m = .goes m1) (h : Chain code m1 k m2) : Chain code m (k + 1) m2 := by
  induction h with
  | zero => exact .succ .zero e
  | succ h e2 ih => exact .succ ih e2
theorem run_chain {code : List Ord} {k : Nat} {m m2 : Mch} (h : Chain code m k m2) : ∀ (t many : Nat), runR code (k + t) m many = runR code t m2 (many + k) := by
  induction h with
  | zero => intro t many; rw [Nat.zero_add, Nat.add_zero]
  | @succ k m1 m2 h e ih =>
    intro t many
    rw [show k + 1 + t = k + (t + 1) by omega, ih (t + 1) many]
    show (match stepR code m1 with | .goes m' => runR code t m' (many + k + 1) | r => (Told.ends r, m1, many + k)) = _
    rw [e]
    rfl
theorem run_end {code : List Ord} {m : Mch} {r : Res} (h : haltR code m = some r) (t many : Nat) : runR code t m many = (.ends r, m, many) := by
  cases t with
  | zero => show (toldOf code m, m, many) = _; unfold toldOf; rw [h]
  | succ t =>
    show (match stepR code m with | .goes m' => runR code t m' (many + 1) | r => (Told.ends r, m, many)) = _
    rw [step_halt.1 r h]
    cases r with
    | goes m' => exact absurd h haltR_no
    | _ => rfl
/-! ### sizes -/
theorem depth_ints (l : List Int) : PyData.depthAll (l.map PyData.int) = 0 := PySem.W.ke_depthAll l
theorem mach_ok {n : Nat} {m : Mch} (h : MchOk n m) : (machD m).depth ≤ 3 ∧ wid (machD m) = true := by
  have hm := h.me.ok.len
  obtain ⟨d1, d2⟩ := prs_ok (prZ_pairs m.mem) (by rw [List.length_map]; omega)
  have hr := h.rl
  have hc := h.cl
  constructor
  · unfold machD
    have d3 : PyData.depthAll (m.mem.map prZ) ≤ 1 := (pair_lay (prZ_pairs m.mem)).2
    have d4 := depth_ints m.regs
    have d5 := depth_ints m.calls
    generalize m.mem.map prZ = l1 at d3 ⊢
    generalize m.regs.map PyData.int = l2 at d4 ⊢
    generalize m.calls.map PyData.int = l3 at d5 ⊢
    simp only [PyData.depth, PyData.depthAll]
    omega
  · unfold machD
    simp only [wid, widAll, wid_ints, Bool.and_true, Bool.true_and, Bool.and_eq_true, decide_eq_true_iff, List.length_map, List.length_cons, List.length_nil] at d2 ⊢
    simp only [d2]
    repeat (first | (refine ⟨?_, ?_⟩) | omega | exact trivial)
end Mc

/-! k00: values, objects, promises -/
namespace Mc
open PySem PySem.Spec PyProof.Rows L2 DL Bo Fr Lw Dx Pg
/-- a memory as a tuple that has no dict of its own -/
def MemV (F : Hp) (v : V) (mem : List (Int × Int)) : Prop := ∃ a xs, v = .ref a ∧ PTup F a xs ∧ PairsIn F xs mem
section
variable (K : PySem.W.Frag)
abbrev CodeV (F : Hp) (v : V) (code : List Ord) : Prop := Dp K F v (.tuple (code.map ordD))
def MachV (F : Hp) (v : V) (m : Mch) : Prop := ∃ a x1 x2 x3 x4, v = .ref a ∧ SqT K F a [x1, x2, x3, x4] ∧ x1 = .int m.at_ ∧ Dp K F x2 (.tuple (m.regs.map .int)) ∧ Dp K F x3 (.tuple (m.calls.map .int)) ∧ MemV F x4 m.mem
end
theorem pin_dp {K : PySem.W.Frag} {F : Hp} {xs : List V} {ps : List (Int × Int)} (h : PairsIn F xs ps) : DpAll K F xs (ps.map prZ) := by
  have e : DpAll K F xs ((xs.map (pk F)).map prZ) := dp_pairs h.at_
  rw [h.ks] at e
  exact e
theorem MemV.dp {K : PySem.W.Frag} {F : Hp} {v : V} {mem : List (Int × Int)} (h : MemV F v mem) : Dp K F v (.tuple (mem.map prZ)) := by
  obtain ⟨a, xs, rfl, h1, h2⟩ := h
  exact .tup h1.seq (pin_dp h2)
theorem MemV.to {F F' : Hp} {v : V} {mem : List (Int × Int)} (h : MemV F v mem) (e : Same F F') : MemV F' v mem := by
  obtain ⟨a, xs, rfl, h1, h2⟩ := h
  exact ⟨a, xs, rfl, h1.to e, h2.to e⟩
theorem MachV.dp {K : PySem.W.Frag} {F : Hp} {v : V} {m : Mch} (h : MachV K F v m) : Dp K F v (machD m) := by
  obtain ⟨a, x1, x2, x3, x4, rfl, h1, rfl, h3, h4, h5⟩ := h
  exact .tup h1 (.cons (.int _) (.cons h3 (.cons h4 (.cons h5.dp .nil))))
theorem MachV.to {K : PySem.W.Frag} {F F' : Hp} {v : V} {m : Mch} (h : MachV K F v m) (e : Same F F') : MachV K F' v m := by
  obtain ⟨a, x1, x2, x3, x4, rfl, h1, rfl, h3, h4, h5⟩ := h
  exact ⟨a, _, x2, x3, x4, rfl, same_tup e h1, rfl, h3.to e, h4.to e, h5.to e⟩
/-! ### objects -/
def spF (a : Int) (ra ca : Addr) : List (Str × V) := [("at", .int a), ("registers", .ref ra), ("calls", .ref ca)]
theorem lk_at (a : Int) (ra ca : Addr) : (spF a ra ca).lookup ("at" : Str) = some (.int a) := rfl
theorem lk_regs (a : Int) (ra ca : Addr) : (spF a ra ca).lookup ("registers" : Str) = some (.ref ra) := rfl
theorem lk_calls (a : Int) (ra ca : Addr) : (spF a ra ca).lookup ("calls" : Str) = some (.ref ca) := rfl
theorem put_at (a : Int) (ra ca : Addr) (k : Int) : putF "at" (.int k) (spF a ra ca) = spF k ra ca := rfl
structure SpC (K : PySem.W.Frag) (C : Addr) : Prop where
  cl : Cls K C
  n1 : NoAttr K C "at"
  n2 : NoAttr K C "registers"
  n3 : NoAttr K C "calls"
structure PcC (K : PySem.W.Frag) (C : Addr) : Prop where
  cl : Cls K C
  n1 : NoAttr K C "kept"
structure RnC (K : PySem.W.Frag) (C : Addr) : Prop where
  cl : Cls K C
  n1 : NoAttr K C "orders"
  n2 : NoAttr K C "spot"
  n3 : NoAttr K C "cells"
structure SpAt (C : Addr) (F H : Hp) (sp : Addr) (m : Mch) (ra ca : Addr) : Prop where
  ob : ∃ dx, H sp = some (.ins C dx (spF m.at_ ra ca))
  rl : H ra = some (.lst (m.regs.map V.int))
  cl : H ca = some (.lst (m.calls.map V.int))
  nd : [sp, ra, ca].Nodup
  off : ∀ x ∈ [sp, ra, ca], F x = none
structure PcAt (C : Addr) (F H : Hp) (pc kd : Addr) (kept : AL Int) : Prop where
  ob : ∃ dx, H pc = some (.ins C dx [("kept", .ref kd)])
  kp : H kd = some (.dK (kM V.int kept))
  nd : pc ≠ kd
  off : F pc = none ∧ F kd = none
structure RnAt (K : PySem.W.Frag) (C4 C5 C6 : Addr) (F H : Hp) (rn : Addr) (v : V) (code : List Ord) (m : Mch) (kept : AL Int) (sp ra ca pc kd : Addr) : Prop where
  ob : ∃ dx, H rn = some (.ins C5 dx [("orders", v), ("spot", .ref sp), ("cells", .ref pc)])
  cv : CodeV K F v code
  hsp : SpAt C4 F H sp m ra ca
  hpc : PcAt C6 F H pc kd kept
  ke : Kept kept m.mem
  nd : [rn, sp, ra, ca, pc, kd].Nodup
  off : F rn = none
theorem SpAt.live {C : Addr} {F H : Hp} {sp : Addr} {m : Mch} {ra ca : Addr} (h : SpAt C F H sp m ra ca) : ∀ x ∈ [sp, ra, ca], H x ≠ none := fun x hx => by
  simp only [List.mem_cons, List.not_mem_nil, or_false] at hx
  rcases hx with rfl | rfl | rfl
  · obtain ⟨dx, e⟩ := h.ob
    rw [e]; exact fun z => nomatch z
  · rw [h.rl]; exact fun z => nomatch z
  · rw [h.cl]; exact fun z => nomatch z
theorem SpAt.gr {C : Addr} {F H F' H' : Hp} {sp : Addr} {m : Mch} {ra ca : Addr} {X : List Addr} (h : SpAt C F H sp m ra ca) (g : Gr X F H F' H') (n : ∀ x ∈ [sp, ra, ca], x ∉ X) : SpAt C F' H' sp m ra ca := by
  obtain ⟨dx, e⟩ := h.ob
  exact ⟨⟨dx, g.at (n sp (by simp)) e⟩, g.at (n ra (by simp)) h.rl, g.at (n ca (by simp)) h.cl, h.nd, fun x hx => g.own x (h.off x hx) (h.live x hx)⟩
theorem PcAt.live {C : Addr} {F H : Hp} {pc kd : Addr} {kept : AL Int} (h : PcAt C F H pc kd kept) : H pc ≠ none ∧ H kd ≠ none := by
  obtain ⟨dx, e⟩ := h.ob
  exact ⟨by rw [e]; exact (fun z => nomatch z), by rw [h.kp]; exact (fun z => nomatch z)⟩
theorem PcAt.gr {C : Addr} {F H F' H' : Hp} {pc kd : Addr} {kept : AL Int} {X : List Addr} (h : PcAt C F H pc kd kept) (g : Gr X F H F' H') (n : ∀ x ∈ [pc, kd], x ∉ X) : PcAt C F' H' pc kd kept := by
  obtain ⟨dx, e⟩ := h.ob
  exact ⟨⟨dx, g.at (n pc (by simp)) e⟩, g.at (n kd (by simp)) h.kp, h.nd, g.own pc h.off.1 h.live.1, g.own kd h.off.2 h.live.2⟩
theorem RnAt.gr0 {K : PySem.W.Frag} {C4 C5 C6 : Addr} {F H F' H' : Hp} {rn : Addr} {v : V} {code : List Ord} {m : Mch} {kept : AL Int} {sp ra ca pc kd : Addr} (h : RnAt K C4 C5 C6 F H rn v code m kept sp ra ca pc kd) (g : Gr [] F H F' H') : RnAt K C4 C5 C6 F' H' rn v code m kept sp ra ca pc kd := by
  obtain ⟨dx, e⟩ := h.ob
  exact ⟨⟨dx, g.at0 e⟩, h.cv.to g.fs, h.hsp.gr g (fun _ _ z => nomatch z), h.hpc.gr g (fun _ _ z => nomatch z), h.ke, h.nd, g.own rn h.off (by rw [e]; exact fun z => nomatch z)⟩
/-! ### what stands in the modules -/
structure FormsC (K : PySem.W.Frag) (w : World) (d : Addr) : Prop where
  kd : KD K w d
  at_ : ∀ o : Ord, ∃ a, PySem.W.nsIn K d (wordO o) = some (some (.ref a)) ∧ ∀ H, SqT K H a ((kindsO o).map V.str)
def leadL : List Str := ["jump", "if", "call", "back"]
/-- told: none, or what stops -/
def TellH (K : PySem.W.Frag) (F H : Hp) (r : Option Res) (Q : VK) : Prop := match r with
  | none => ∀ F' H', Gr [] F H F' H' → Q .non H'
  | some r => ∀ w F' H', Gr [] F H F' H' → Dp K F' w (resD r) → Q w H'
/-- the figure that an order puts into a register -/
def figO : Ord → Mch → Int
  | .set _ f, _ => f
  | .copy _ b, m => reg m b
  | .ar w _ b c, m => calcA w (reg m b) (reg m c)
  | .load _ b, m => getM m.mem (reg m b)
  | _, _ => 0
def isFigO : Ord → Bool
  | .set _ _ => true | .copy _ _ => true | .ar _ _ _ _ => true | .load _ _ => true | _ => false
section
variable (K : PySem.W.Frag) (C4 C5 C6 : Addr)
def spReg : Sp := fun vs H Q _ => ∃ a : Int, vs = [.int a] ∧ isReg a ∧ Q (.bl true) H
def spMDict : Sp := fun vs H Q _ => ∃ (F : Hp) (v : V) (mem : List (Int × Int)), vs = [v] ∧ Same F H ∧ MemV F v mem ∧ MemA mem ∧ ∀ d H', Gr [] F H F H' → H d = none → F d = none → H' d = some (.dK (kM V.int mem)) → Q (.ref d) H'
def spCellM : Sp := fun vs H Q _ => ∃ (F : Hp) (v : V) (p : Int × Int), vs = [v] ∧ Same F H ∧ Dp K F v (prZ p) ∧ (0 ≤ p.1 ∧ p.1 < 4096) ∧ 1 ≤ p.2 ∧ p.2 ≤ 65535 ∧ Q (.bl true) H
def spIsMem : Sp := fun vs H Q _ => ∃ (F : Hp) (v : V) (mem : List (Int × Int)), vs = [v] ∧ Same F H ∧ Dp K F v (.tuple (mem.map prZ)) ∧ MemA mem ∧ ∀ F' H', Gr [] F H F' H' → Q (.bl true) H'
def spNeedMem : Sp := fun vs H Q _ => ∃ (F : Hp) (v : V) (mem : List (Int × Int)), vs = [v] ∧ Same F H ∧ Dp K F v (.tuple (mem.map prZ)) ∧ MemA mem ∧ ∀ F' H', Gr [] F H F' H' → Q .non H'
def spKinds : Sp := fun vs H Q _ => ∃ (F : Hp) (v : V) (o : Ord) (n : Nat), vs = [v] ∧ Same F H ∧ Dp K F v (ordD o) ∧ OrdOk n o ∧ ∀ a F' H', Gr [] F H F' H' → (∀ H2, SqT K H2 a ((kindsO o).map V.str)) → Q (.ref a) H'
def PartOk (kind : Str) (x : V) : Prop := (kind = "register" ∧ ∃ r, x = .int r ∧ isReg r) ∨ (kind = "figure" ∧ ∃ f, x = .int f ∧ isFig f) ∨ (kind = "word" ∧ ∃ w, x = .str w ∧ w ∈ wordsL)
def spPlainPart : Sp := fun vs H Q _ => ∃ (kind : Str) (x : V), vs = [.str kind, x] ∧ PartOk kind x ∧ Q (.bl true) H
def spIsOrder : Sp := fun vs H Q _ => ∃ (F : Hp) (v : V) (o : Ord) (n : Nat), vs = [v, .int n] ∧ Same F H ∧ Dp K F v (ordD o) ∧ OrdOk n o ∧ ∀ F' H', Gr [] F H F' H' → Q (.bl true) H'
def spIsCode : Sp := fun vs H Q _ => ∃ (F : Hp) (v : V) (code : List Ord), vs = [v] ∧ Same F H ∧ CodeV K F v code ∧ CodeOk code ∧ ∀ F' H', Gr [] F H F' H' → Q (.bl true) H'
def spNeedCode : Sp := fun vs H Q _ => ∃ (F : Hp) (v : V) (code : List Ord), vs = [v] ∧ Same F H ∧ CodeV K F v code ∧ CodeOk code ∧ ∀ F' H', Gr [] F H F' H' → Q .non H'
def spSpotInit : Sp := fun vs H Q _ => ∃ (F : Hp) (sp dx : Addr) (v2 v3 : V) (m : Mch), vs = [.ref sp, .int m.at_, v2, v3] ∧ Same F H ∧ F sp = none ∧ H sp = some (.ins C4 dx []) ∧ Dp K F v2 (.tuple (m.regs.map .int)) ∧ Dp K F v3 (.tuple (m.calls.map .int)) ∧
  ∀ H' ra ca, Gr [sp] F H F H' → H ra = none → H ca = none → SpAt C4 F H' sp m ra ca → Q .non H'
def spAddrIn : Sp := fun vs H Q _ => ∃ (F : Hp) (v : V) (o : Ord) (ra : Addr) (m : Mch) (n : Nat), vs = [v, .ref ra] ∧ Same F H ∧ Dp K F v (ordD o) ∧ MchOk n m ∧ OrdOk n o ∧ H ra = some (.lst (m.regs.map V.int)) ∧ ((∃ a b, o = .load a b ∧ Q (.int (reg m b)) H) ∨ ∃ a b, o = .store a b ∧ Q (.int (reg m a)) H)
def spHalting : Sp := fun vs H Q _ => ∃ (F : Hp) (v : V) (code : List Ord) (sp : Addr) (m : Mch) (ra ca : Addr), vs = [v, .ref sp] ∧ Same F H ∧ CodeV K F v code ∧ CodeOk code ∧ SpAt C4 F H sp m ra ca ∧ MchOk code.length m ∧ TellH K F H (haltR code m) Q
def spJoined : Sp := fun vs H Q _ => ∃ (w : AOp) (a b : Int), vs = [.str w.name, .int a, .int b] ∧ isFig a ∧ isFig b ∧ Q (.int (calcA w a b)) H
def spFigFor : Sp := fun vs H Q _ => ∃ (F : Hp) (v : V) (o : Ord) (ra pc kd : Addr) (m : Mch) (kept : AL Int) (n : Nat), vs = [v, .ref ra, .ref pc] ∧ Same F H ∧ Dp K F v (ordD o) ∧ OrdOk n o ∧ MchOk n m ∧ isFigO o = true ∧ H ra = some (.lst (m.regs.map V.int)) ∧ PcAt C6 F H pc kd kept ∧ Kept kept m.mem ∧ Q (.int (figO o m)) H
def spNextIdx : Sp := fun vs H Q _ => ∃ (F : Hp) (v : V) (o : Ord) (sp ra ca : Addr) (m : Mch) (n : Nat), vs = [v, .ref sp] ∧ Same F H ∧ Dp K F v (ordD o) ∧ OrdOk n o ∧ MchOk n m ∧ (o = .back → m.calls.length ≠ 0) ∧ (∀ w, o ≠ .ask w) ∧ o ≠ .stop ∧ SpAt C4 F H sp m ra ca ∧
  ∀ H', Gr [ca] F H F H' → H' ca = some (.lst ((nextO o m).calls.map V.int)) → Q (.int (nextO o m).at_) H'
def spDoOrder : Sp := fun vs H Q _ => ∃ (F : Hp) (v : V) (o : Ord) (sp ra ca pc kd : Addr) (m : Mch) (kept : AL Int) (n : Nat), vs = [v, .ref sp, .ref pc] ∧ Same F H ∧ Dp K F v (ordD o) ∧ OrdOk n o ∧ MchOk n m ∧ haltO o m = none ∧ SpAt C4 F H sp m ra ca ∧ PcAt C6 F H pc kd kept ∧ Kept kept m.mem ∧ [sp, ra, ca, pc, kd].Nodup ∧
  ∀ H' kept', Gr [sp, ra, ca, kd] F H F H' → SpAt C4 F H' sp (nextO o m) ra ca → PcAt C6 F H' pc kd kept' → Kept kept' (nextO o m).mem → Q .non H'
def spPcInit : Sp := fun vs H Q _ => ∃ (F : Hp) (pc dx : Addr) (v : V) (mem : List (Int × Int)), vs = [.ref pc, v] ∧ Same F H ∧ F pc = none ∧ H pc = some (.ins C6 dx []) ∧ MemV F v mem ∧ MemA mem ∧ ∀ H' kd, Gr [pc] F H F H' → H kd = none → PcAt C6 F H' pc kd mem → Q .non H'
def spPcLoad : Sp := fun vs H Q _ => ∃ (F : Hp) (pc kd : Addr) (a : Int) (kept : AL Int) (mem : List (Int × Int)), vs = [.ref pc, .int a] ∧ PcAt C6 F H pc kd kept ∧ Kept kept mem ∧ Q (.int (getM mem a)) H
def spPcStore : Sp := fun vs H Q _ => ∃ (F : Hp) (pc kd : Addr) (a f : Int) (kept : AL Int) (mem : List (Int × Int)), vs = [.ref pc, .int a, .int f] ∧ Same F H ∧ PcAt C6 F H pc kd kept ∧ Kept kept mem ∧ MemA mem ∧ (0 ≤ a ∧ a < 4096) ∧ isFig f ∧
  ∀ H' kept', Gr [kd] F H F H' → PcAt C6 F H' pc kd kept' → Kept kept' (putM mem a f) → Q .non H'
def spRnInit : Sp := fun vs H Q _ => ∃ (F : Hp) (rn dx : Addr) (v u : V) (code : List Ord) (m : Mch), vs = [.ref rn, v, u] ∧ Same F H ∧ F rn = none ∧ H rn = some (.ins C5 dx []) ∧ CodeV K F v code ∧ MachV K F u m ∧ MchOk code.length m ∧
  ∀ F' H' sp ra ca pc kd, Gr [rn] F H F' H' → RnAt K C4 C5 C6 F' H' rn v code m m.mem sp ra ca pc kd → (∀ x ∈ [sp, ra, ca, pc, kd], H x = none) → Q .non H'
def spAhead : Sp := fun vs H Q _ => ∃ (F : Hp) (rn : Addr) (v : V) (code : List Ord) (m : Mch) (kept : AL Int) (sp ra ca pc kd : Addr), vs = [.ref rn] ∧ Same F H ∧ CodeOk code ∧ MchOk code.length m ∧ RnAt K C4 C5 C6 F H rn v code m kept sp ra ca pc kd ∧ TellH K F H (haltR code m) Q
def spGo : Sp := fun vs H Q _ => ∃ (F : Hp) (rn : Addr) (v : V) (code : List Ord) (m : Mch) (kept : AL Int) (sp ra ca pc kd : Addr) (o : Ord), vs = [.ref rn] ∧ Same F H ∧ CodeOk code ∧ MchOk code.length m ∧ RnAt K C4 C5 C6 F H rn v code m kept sp ra ca pc kd ∧ code[m.at_.toNat]? = some o ∧ haltO o m = none ∧
  ∀ H' kept', Gr [rn, sp, ra, ca, pc, kd] F H F H' → RnAt K C4 C5 C6 F H' rn v code (nextO o m) kept' sp ra ca pc kd → Q .non H'
def spAsMach : Sp := fun vs H Q _ => ∃ (F : Hp) (rn : Addr) (v : V) (code : List Ord) (m : Mch) (kept : AL Int) (sp ra ca pc kd : Addr), vs = [.ref rn] ∧ Same F H ∧ MchOk code.length m ∧ RnAt K C4 C5 C6 F H rn v code m kept sp ra ca pc kd ∧ ∀ w F' H', Gr [] F H F' H' → Dp K F' w (machD m) → Q w H'
def spIsMach : Sp := fun vs H Q _ => ∃ (F : Hp) (v u : V) (code : List Ord) (m : Mch), vs = [v, u] ∧ Same F H ∧ CodeV K F v code ∧ CodeOk code ∧ Dp K F u (machD m) ∧ MchOk code.length m ∧ ∀ F' H', Gr [] F H F' H' → Q (.bl true) H'
def spNeedMach : Sp := fun vs H Q _ => ∃ (F : Hp) (v u : V) (code : List Ord) (m : Mch), vs = [v, u] ∧ Same F H ∧ CodeV K F v code ∧ CodeOk code ∧ Dp K F u (machD m) ∧ MchOk code.length m ∧ ∀ F' H', Gr [] F H F' H' → Q .non H'
def spNeedTurns : Sp := fun vs H Q _ => ∃ t most : Int, vs = [.int t, .int most] ∧ 0 ≤ t ∧ t ≤ most ∧ Q .non H
def firstM (mem : List (Int × Int)) : Mch := ⟨0, [0, 0, 0, 0, 0, 0, 0, 0], [], mem⟩
def spFirst : Sp := fun vs H Q _ => ∃ (F : Hp) (v : V) (mem : List (Int × Int)), vs = [v] ∧ Same F H ∧ MemV F v mem ∧ MemA mem ∧ ∀ w F' H', Gr [] F H F' H' → MachV K F' w (firstM mem) → Q w H'
def spTurn1 : Sp := fun vs H Q _ => ∃ (F : Hp) (v u : V) (code : List Ord) (m : Mch), vs = [v, u] ∧ Same F H ∧ CodeV K F v code ∧ CodeOk code ∧ MachV K F u m ∧ MchOk code.length m ∧ ∀ w F' H', Gr [] F H F' H' → Dp K F' w (resD (stepR code m)) → Q w H'
def runsD (r : Told × Mch × Nat) : PyData := runD r.1 r.2.1 r.2.2
def spRun : Sp := fun vs H Q _ => ∃ (F : Hp) (v u : V) (code : List Ord) (m : Mch) (t : Nat), vs = [v, u, .int t] ∧ Same F H ∧ CodeV K F v code ∧ CodeOk code ∧ MachV K F u m ∧ MchOk code.length m ∧ t ≤ 100000 ∧ ∀ w F' H', Gr [] F H F' H' → Dp K F' w (runsD (runR code t m 0)) → Q w H'
end
end Mc

/-! k00: steps of readings -/
namespace S
open PySem PySem.Spec PyProof.Rows L2 DL Bo Fr Lw Dx
/-- t[:-1] -/
theorem slBut {K : PySem.W.Frag} {F H : Hp} {v : V} {ds : List PyData} {Q : VK} (h : Dp K F v (.tuple ds)) (s : Same F H) (q : ∀ w F' H', Gr [] F H F' H' → Dp K F' w (.tuple ds.dropLast) → Q w H') : rSlU K v none (some (-1)) H Q := by
  obtain ⟨a, xs, rfl, h1, h2⟩ := dp_tuple h
  have hl := dp_len h2
  have es : HT.sIx xs.length xs.length (some (-1)) = xs.length - 1 := by
    show (if (-1 : Int) < 0 then (-1 + (xs.length : Int)).toNat else min (-1 : Int).toNat xs.length) = _
    rw [if_pos (by decide)]
    omega
  refine .inr ⟨a, xs, rfl, same_tup s h1, fun hc => ?_, fun _ p hp => ?_⟩
  · rw [es] at hc
    have h0 : xs.length = 0 := by omega
    have : ds = [] := List.length_eq_zero_iff.mp (by omega)
    exact q _ F H (Gr.refl s) (by rw [this] at h ⊢; exact h)
  · have e1 : cutV xs none (some (-1)) = xs.take (xs.length - 1) := by
      unfold cutV
      rw [es, HT.sIx_none, List.drop_zero, Nat.sub_zero]
    rw [e1]
    have g : Gr [] F H (upd F p (.tup (xs.take (xs.length - 1)))) (upd H p (.tup (xs.take (xs.length - 1)))) := Gr.new s hp
    refine q _ _ _ g (.tup (.inl (.inl upd_same)) ?_)
    rw [List.dropLast_eq_take, ← hl]
    exact (dp_take _ h2).to g.fs
/-- t[:i] with i any int from 0 on -/
theorem slToI {K : PySem.W.Frag} {F H : Hp} {v : V} {ds : List PyData} {i : Int} {Q : VK} (h : Dp K F v (.tuple ds)) (s : Same F H) (h0 : 0 ≤ i) (q : ∀ w F' H', Gr [] F H F' H' → Dp K F' w (.tuple (ds.take i.toNat)) → Q w H') : rSlU K v none (some i) H Q := by
  obtain ⟨n, rfl⟩ := Int.eq_ofNat_of_zero_le h0
  exact slTo h s q
theorem slFromI {K : PySem.W.Frag} {F H : Hp} {v : V} {ds : List PyData} {i : Int} {Q : VK} (h : Dp K F v (.tuple ds)) (s : Same F H) (h0 : 0 ≤ i) (q : ∀ w F' H', Gr [] F H F' H' → Dp K F' w (.tuple (ds.drop i.toNat)) → Q w H') : rSlU K v (some i) none H Q := by
  obtain ⟨n, rfl⟩ := Int.eq_ofNat_of_zero_le h0
  exact slFrom h s q
/-- t + u of tuples -/
theorem catD {K : PySem.W.Frag} {F H : Hp} {v w : V} {ds es : List PyData} {Q : VK} (h : Dp K F v (.tuple ds)) (h' : Dp K F w (.tuple es)) (s : Same F H) (hl : ds.length + es.length ≤ 1000000) (q : ∀ z F' H', Gr [] F H F' H' → Dp K F' z (.tuple (ds ++ es)) → Q z H') : rAddU K v w H Q := by
  obtain ⟨a, xs, rfl, h1, h2⟩ := dp_tuple h
  obtain ⟨b, ys, rfl, h3, h4⟩ := dp_tuple h'
  have l1 := dp_len h2
  have l2 := dp_len h4
  refine .inr (.inl ⟨a, b, xs, ys, rfl, rfl, same_tup s h1, same_tup s h3, Nat.le_of_lt (size1000000 (by omega)), fun e => ?_, fun e e2 => ?_, fun _ _ p hp => ?_⟩)
  · have : ds = [] := List.length_eq_zero_iff.mp (by rw [← l1, e]; rfl)
    exact q _ F H (Gr.refl s) (by rw [this, List.nil_append]; exact h')
  · have : es = [] := List.length_eq_zero_iff.mp (by rw [← l2, e2]; rfl)
    exact q _ F H (Gr.refl s) (by rw [this, List.append_nil]; exact h)
  · have g : Gr [] F H (upd F p (.tup (xs ++ ys))) (upd H p (.tup (xs ++ ys))) := Gr.new s hp
    exact q _ _ _ g (.tup (.inl (.inl upd_same)) ((dp_app h2 h4).to g.fs))
theorem kget {K : PySem.W.Frag} {w : World} {td ty : TE} {σ : L2.St} {H : Hp} {Q : VK} (q : td σ H fun x H1 => ∃ a, x = .ref a ∧ KD K w a ∧ ty σ H1 fun y H2 => ∃ (z : Str) (o : Option Value) (v : V), y = .str z ∧ PySem.W.nsIn K a z = some o ∧ RelV v (o.getD .none) ∧ Q v H2) : tKGet K w td ty σ H Q := q
theorem inV_strs (b : Str) (l : List Str) : inV (.str b) (l.map V.str) = decide (b ∈ l) := by
  unfold inV
  rw [List.any_map]
  by_cases h : b ∈ l
  · rw [decide_eq_true h, List.any_eq_true]
    exact ⟨b, h, by show (b == b) = true; simp⟩
  · rw [decide_eq_false h, List.any_eq_false]
    intro x hx z
    have z' : (x == b) = true := z
    rw [beq_iff_eq] at z'
    exact h (by rw [← z']; exact hx)
/-- x in the tuple of texts that stands there -/
theorem inC {K : PySem.W.Frag} {H : Hp} {x : Str} {p : Addr} {l : List Str} {Q : VK} (h : SqT K H p (l.map V.str)) (q : Q (.bl (decide (x ∈ l))) H) : rIn K false (.str x) (.ref p) H Q :=
  ⟨p, _, rfl, .inr h, rfl, by rw [List.all_map, List.all_eq_true]; intro _ _; rfl, by rw [inV_strs]; exact q⟩
theorem ninC {K : PySem.W.Frag} {H : Hp} {x : Str} {p : Addr} {l : List Str} {Q : VK} (h : SqT K H p (l.map V.str)) (q : Q (.bl (!decide (x ∈ l))) H) : rIn K true (.str x) (.ref p) H Q :=
  ⟨p, _, rfl, .inr h, rfl, by rw [List.all_map, List.all_eq_true]; intro _ _; rfl, by rw [inV_strs]; exact q⟩
end S
namespace Mc
open PySem PySem.Spec PyProof.Rows L2 DL Bo Fr Lw Dx Pg
theorem repl_all (n : Nat) : (List.replicate n true).all id = true := by rw [List.all_eq_true]; intro b hb; rw [(List.mem_replicate.mp hb).2]; rfl
theorem repl_snoc (i : Nat) : (List.replicate i true).map V.bl ++ [V.bl true] = (List.replicate (i + 1) true).map V.bl := by
  rw [show V.bl true = (fun b : Bool => V.bl b) true from rfl]
  simp [List.replicate_succ']
theorem from_ok {i lo hi : Int} (h1 : lo ≤ i) (h2 : i ≤ hi) : isFrom (.int i) lo hi = true := isFrom_of h1 h2
theorem tup_ok {ds : List PyData} {lo hi : Int} (h1 : lo ≤ ds.length) (h2 : (ds.length : Int) ≤ hi) : isTuple (.tuple ds) lo hi = true := by
  show (decide (lo ≤ (ds.length : Int)) && decide ((ds.length : Int) ≤ hi)) = true
  rw [decide_eq_true h1, decide_eq_true h2]; rfl
theorem pairs_dict {K : PySem.W.Frag} {F : Hp} : ∀ {xs : List V} {mem : List (Int × Int)}, DpAll K F xs (mem.map prZ) → ∃ ps : List Addr, xs = ps.map V.ref ∧ Paired (fun p kv => SqT K F p [kV kv.1, kv.2]) ps (kM V.int mem)
  | xs, [], h => by cases h; exact ⟨[], rfl, .nil⟩
  | xs, p :: mem, h => by
    cases h with
    | cons h1 h2 =>
      obtain ⟨ps, rfl, r⟩ := pairs_dict h2
      obtain ⟨a, ys, rfl, h3, h4⟩ := dp_tuple (show Dp K F _ (.tuple [.int p.1, .int p.2]) from h1)
      cases h4 with
      | cons q1 q2 =>
        cases q2 with
        | cons q3 q4 =>
          cases q4
          cases q1
          cases q3
          exact ⟨a :: ps, rfl, .cons h3 r⟩
theorem merge_kM : ∀ (more l : AL Int), (keysA (l ++ more)).Nodup → mergeK (kM V.int l) (kM V.int more) = kM V.int (l ++ more)
  | [], l, _ => by rw [List.append_nil]; rfl
  | p :: more, l, nd => by
    show mergeK (putK (kM V.int l) (Sum.inl p.1) (V.int p.2)) (kM V.int more) = _
    rw [putK_kM]
    have hn : getA l p.1 = none := getA_none.mpr fun z => by
      unfold keysA at nd z
      rw [List.map_append] at nd
      have := (List.nodup_append.mp nd).2.2 p.1 z p.1 (by simp)
      exact this rfl
    rw [putA_new _ hn, merge_kM more (l ++ [(p.1, p.2)]) (by rw [List.append_assoc]; exact nd), List.append_assoc]
    rfl
theorem words_ok : ∀ w ∈ wordsL, PyData.strOk w = true := by decide +kernel
theorem ord_shaped {n : Nat} {o : Ord} (ok : OrdOk n o) : SeqAt.shaped (ordD o) = true := by
  have e1 : PyData.strOk "set" = true := by decide +kernel
  have e2 : PyData.strOk "copy" = true := by decide +kernel
  have e3 : PyData.strOk "load" = true := by decide +kernel
  have e4 : PyData.strOk "store" = true := by decide +kernel
  have e5 : PyData.strOk "jump" = true := by decide +kernel
  have e6 : PyData.strOk "if" = true := by decide +kernel
  have e7 : PyData.strOk "call" = true := by decide +kernel
  have e8 : PyData.strOk "back" = true := by decide +kernel
  have e9 : PyData.strOk "ask" = true := by decide +kernel
  have e10 : PyData.strOk "stop" = true := by decide +kernel
  have e11 : ∀ w : AOp, PyData.strOk w.name = true := fun w => by cases w <;> decide +kernel
  cases o <;> simp [ordD, wordO, argsO, SeqAt.shaped, PyData.canLayAll0, PyData.depth, PyData.depthAll, PyData.canLay0, e1, e2, e3, e4, e5, e6, e7, e8, e9, e10, e11]
  rename_i w
  exact words_ok w ok
theorem ord_nil (o : Ord) : PyData.eqv (ordD o) (.tuple []) = false := by simp [ordD, PyData.eqv, PyData.eqvAll]
theorem args_len (o : Ord) : (argsO o).length = (kindsO o).length := by cases o <;> rfl
theorem args_small (o : Ord) : (argsO o).length ≤ 3 := by cases o <;> simp [argsO]
/-- each part of an order is of its kind -/
theorem part_ok {n : Nat} {o : Ord} (ok : OrdOk n o) {i : Nat} {k : Str} {d : PyData} (hk : (kindsO o)[i]? = some k) (hd : (argsO o)[i]? = some d) :
    (k = "place" ∧ ∃ p, d = .int p ∧ 0 ≤ p ∧ p < n) ∨ (k = "register" ∧ ∃ r, d = .int r ∧ isReg r) ∨ (k = "figure" ∧ ∃ f, d = .int f ∧ isFig f) ∨ (k = "word" ∧ ∃ w, d = .str w ∧ w ∈ wordsL) := by
  have p1 : ∀ {l : List Str} {m : List PyData} {a : Str} {b : PyData}, (a :: l)[i]? = some k → (b :: m)[i]? = some d → (i = 0 ∧ a = k ∧ b = d) ∨ ∃ j, i = j + 1 ∧ l[j]? = some k ∧ m[j]? = some d := fun {l m a b} h1 h2 => by
    cases i with
    | zero => exact .inl ⟨rfl, by simpa using h1, by simpa using h2⟩
    | succ j => exact .inr ⟨j, rfl, by simpa using h1, by simpa using h2⟩
  have key : ∀ (ks : List (Str × PyData)), (∀ z ∈ ks, (z.1 = "place" ∧ ∃ p, z.2 = .int p ∧ 0 ≤ p ∧ p < n) ∨ (z.1 = "register" ∧ ∃ r, z.2 = .int r ∧ isReg r) ∨ (z.1 = "figure" ∧ ∃ f, z.2 = .int f ∧ isFig f) ∨ (z.1 = "word" ∧ ∃ w, z.2 = .str w ∧ w ∈ wordsL)) →
      kindsO o = ks.map (·.1) → argsO o = ks.map (·.2) → (k = "place" ∧ ∃ p, d = .int p ∧ 0 ≤ p ∧ p < n) ∨ (k = "register" ∧ ∃ r, d = .int r ∧ isReg r) ∨ (k = "figure" ∧ ∃ f, d = .int f ∧ isFig f) ∨ (k = "word" ∧ ∃ w, d = .str w ∧ w ∈ wordsL) := fun ks h e1 e2 => by
    rw [e1, List.getElem?_map] at hk
    rw [e2, List.getElem?_map] at hd
    cases q : ks[i]? with
    | none => rw [q] at hk; cases hk
    | some z =>
      rw [q] at hk hd
      have a := h z (List.mem_of_getElem? q)
      rw [show z.1 = k from Option.some.inj hk, show z.2 = d from Option.some.inj hd] at a
      exact a
  have one : ∀ {a b : Str × PyData}, a ∈ [b] → a = b := fun h => List.mem_singleton.mp h
  have reg1 : ∀ {r : Int}, isReg r → ∀ z : Str × PyData, z = ((("register" : Str), PyData.int r) : Str × PyData) → (z.1 = "place" ∧ ∃ p, z.2 = .int p ∧ 0 ≤ p ∧ p < n) ∨ (z.1 = "register" ∧ ∃ r, z.2 = .int r ∧ isReg r) ∨ (z.1 = "figure" ∧ ∃ f, z.2 = .int f ∧ isFig f) ∨ (z.1 = "word" ∧ ∃ w, z.2 = .str w ∧ w ∈ wordsL) := fun {r} hr z e => by rw [e]; exact .inr (.inl ⟨rfl, r, rfl, hr⟩)
  have pl1 : ∀ {r : Int}, (0 ≤ r ∧ r < n) → ∀ z : Str × PyData, z = ((("place" : Str), PyData.int r) : Str × PyData) → (z.1 = "place" ∧ ∃ p, z.2 = .int p ∧ 0 ≤ p ∧ p < n) ∨ (z.1 = "register" ∧ ∃ r, z.2 = .int r ∧ isReg r) ∨ (z.1 = "figure" ∧ ∃ f, z.2 = .int f ∧ isFig f) ∨ (z.1 = "word" ∧ ∃ w, z.2 = .str w ∧ w ∈ wordsL) := fun {r} hr z e => by rw [e]; exact .inl ⟨rfl, r, rfl, hr⟩
  cases o with
  | set r f =>
    refine key [("register", .int r), ("figure", .int f)] (fun z hz => ?_) rfl rfl
    rcases List.mem_cons.mp hz with e | e
    · exact reg1 ok.1 z e
    · rw [one e]; exact .inr (.inr (.inl ⟨rfl, f, rfl, ok.2⟩))
  | copy a b =>
    refine key [("register", .int a), ("register", .int b)] (fun z hz => ?_) rfl rfl
    rcases List.mem_cons.mp hz with e | e
    · exact reg1 ok.1 z e
    · exact reg1 ok.2 z (one e)
  | ar w a b c =>
    refine key [("register", .int a), ("register", .int b), ("register", .int c)] (fun z hz => ?_) rfl rfl
    rcases List.mem_cons.mp hz with e | e
    · exact reg1 ok.1 z e
    · rcases List.mem_cons.mp e with e | e
      · exact reg1 ok.2.1 z e
      · exact reg1 ok.2.2 z (one e)
  | load a b =>
    refine key [("register", .int a), ("register", .int b)] (fun z hz => ?_) rfl rfl
    rcases List.mem_cons.mp hz with e | e
    · exact reg1 ok.1 z e
    · exact reg1 ok.2 z (one e)
  | store a b =>
    refine key [("register", .int a), ("register", .int b)] (fun z hz => ?_) rfl rfl
    rcases List.mem_cons.mp hz with e | e
    · exact reg1 ok.1 z e
    · exact reg1 ok.2 z (one e)
  | jump p => exact key [("place", .int p)] (fun z hz => pl1 ok z (one hz)) rfl rfl
  | iff r p =>
    refine key [("register", .int r), ("place", .int p)] (fun z hz => ?_) rfl rfl
    rcases List.mem_cons.mp hz with e | e
    · exact reg1 ok.1 z e
    · exact pl1 ok.2 z (one e)
  | call p => exact key [("place", .int p)] (fun z hz => pl1 ok z (one hz)) rfl rfl
  | back => exact key [] (fun z hz => by cases hz) rfl rfl
  | ask w => exact key [("word", .str w)] (fun z hz => by rw [one hz]; exact .inr (.inr (.inr ⟨rfl, w, rfl, ok⟩))) rfl rfl
  | stop => exact key [] (fun z hz => by cases hz) rfl rfl
end Mc
namespace Mc
open PySem PySem.Spec PyProof.Rows L2 DL Bo Fr Lw Dx Pg
theorem reg_atI {n : Nat} {m : Mch} (h : MchOk n m) {i : Int} (hi : isReg i) : atI (m.regs.map V.int) i = some (.int (reg m i)) := by
  have e : i = (i.toNat : Int) := by have := hi.1; omega
  rw [e]
  refine S.atI_nat (j := i.toNat) ?_
  rw [List.getElem?_map, (reg_at h hi).1]
  have e2 : reg m ((i.toNat : Nat) : Int) = reg m i := by rw [← e]
  rw [e2]
  rfl
theorem ixR {K : PySem.W.Frag} {H : Hp} {Q : VK} {ra : Addr} {n : Nat} {m : Mch} (h : MchOk n m) (hra : H ra = some (.lst (m.regs.map V.int))) {i : Int} (hi : isReg i) (q : Q (.int (reg m i)) H) : rIx K (.ref ra) (.int i) H Q := S.ixSL (SqL.of hra) (reg_atI h hi) q
end Mc

/-! k00: more steps -/
namespace S
open PySem PySem.Spec PyProof.Rows L2 DL Bo Fr Lw Dx
theorem atI_3 {α : Type} {l : List α} {a b c d : α} : atI (a :: b :: c :: d :: l) 3 = some d := atI_nat (j := 3) rfl
/-- x in (.., ..), x not in (.., ..) where the tuple of texts is written there -/
theorem inX {K : PySem.W.Frag} {F H : Hp} {x : Str} {xs : List V} {Q : VK} (l : List Str) (s : Same F H) (e : xs = l.map V.str) (hl : l.length ≤ 1000) (q : ∀ H', Gr [] F H F H' → Q (.bl (decide (x ∈ l))) H') : xs.length ≤ sizeLine ∧ ∀ p, H p = none → rIn K false (.str x) (.ref p) (upd H p (.tup xs)) Q := by
  subst e
  refine ⟨by rw [List.length_map]; exact Nat.le_of_lt (size1000000 (by omega)), fun p hp => ?_⟩
  exact S.inC (.inl (.inl upd_same)) (q _ (Gr.newOwn s hp))
theorem ninX {K : PySem.W.Frag} {F H : Hp} {x : Str} {xs : List V} {Q : VK} (l : List Str) (s : Same F H) (e : xs = l.map V.str) (hl : l.length ≤ 1000) (q : ∀ H', Gr [] F H F H' → Q (.bl (!decide (x ∈ l))) H') : xs.length ≤ sizeLine ∧ ∀ p, H p = none → rIn K true (.str x) (.ref p) (upd H p (.tup xs)) Q := by
  subst e
  refine ⟨by rw [List.length_map]; exact Nat.le_of_lt (size1000000 (by omega)), fun p hp => ?_⟩
  exact S.ninC (.inl (.inl upd_same)) (q _ (Gr.newOwn s hp))
theorem gTupT {K : PySem.W.Frag} {H : Hp} {a : Addr} {xs : List V} {n : Nat} {t : TGs} {σ : L2.St} {Q : L2.St → Hp → Prop} (h : SqT K H a xs) (e : xs.length = n) (q : t xs σ H Q) : gTup K n t (.ref a) σ H Q := ⟨a, xs, rfl, h, e, q⟩
theorem popO {a : Addr} {xs : List V} {y : V} {H : Hp} {Q : VK} (h : H a = some (.lst xs)) (e : xs[xs.length - 1]? = some y) (q : Q y (upd H a (.lst xs.dropLast))) : rPop (.ref a) [] H Q := ⟨a, xs, y, rfl, rfl, h, e, q⟩
end S
namespace Mc
open PySem PySem.Spec PyProof.Rows L2 DL Bo Fr Lw Dx Pg
theorem TellH.gr {K : PySem.W.Frag} {F H F1 H1 : Hp} {r : Option Res} {Q : VK} (h : TellH K F H r Q) (g : Gr [] F H F1 H1) : TellH K F1 H1 r Q := by
  cases r with
  | none => exact fun F' H' g' => h F' H' (g.trans g')
  | some r => exact fun w F' H' g' => h w F' H' (g.trans g')
theorem ord_at {K : PySem.W.Frag} {code : List Ord} {m : Mch} {o : Ord} (h0 : 0 ≤ m.at_) (e : code[m.at_.toNat]? = some o) : atI (code.map ordD) m.at_ = some (ordD o) := by
  have e2 : m.at_ = ((m.at_.toNat : Nat) : Int) := by omega
  rw [e2]
  refine S.atI_nat ?_
  rw [List.getElem?_map, e]
  rfl
end Mc
namespace S
open PySem PySem.Spec PyProof.Rows L2 DL Bo Fr Lw Dx
/-- a join where what follows is not looked at -/
theorem seqK {s1 s3 : TS} {D : Ends} {σ : L2.St} {H : Hp} (P : L2.St → Hp → Prop) (hr : ∀ σ' H', P σ' H' → s3 D σ' H') (h : ∀ N : L2.St → Hp → Prop, (∀ σ' H', P σ' H' → N σ' H') → s1 { D with nx := N } σ H) : tSeq s1 s3 D σ H := h _ hr
/-- a while by a measure m -/
theorem whileS {c : TT} {tb : TS} {D : Ends} {σ : L2.St} {H : Hp} (Pv : Nat → L2.St → Hp → Prop) (m0 : Nat) (h0 : Pv m0 σ H)
    (hs : ∀ m σ H, Pv m σ H → c σ H fun b H1 => if b = true then ∃ N : L2.St → Hp → Prop, (∀ σ' H', N σ' H' → ∃ m', m' < m ∧ Pv m' σ' H') ∧ tb { D with nx := N, ct := N, bk := D.nx } σ H1 else D.nx σ H1) : tWhile c tb D σ H := ⟨Pv, ⟨m0, h0⟩, hs⟩
end S
namespace Mc
open PySem PySem.Spec PyProof.Rows L2 DL Bo Fr Lw Dx Pg
def destO : Ord → Int
  | .set r _ => r | .copy a _ => a | .ar _ a _ _ => a | .load a _ => a | _ => 0
theorem fig_dest {o : Ord} (h : isFigO o = true) : atI (PyData.str (wordO o) :: argsO o) 1 = some (.int (destO o)) := by
  cases o <;> first | exact S.atI_1 | cases h
theorem fig_next {o : Ord} (h : isFigO o = true) (m : Mch) : nextO o m = ⟨m.at_ + 1, setR m (destO o) (figO o m), m.calls, m.mem⟩ := by
  cases o <;> first | rfl | cases h
theorem fig_reg {n : Nat} {o : Ord} (h : isFigO o = true) (ok : OrdOk n o) : isReg (destO o) := by
  cases o <;> first | exact ok.1 | cases h
theorem fig_fig {n : Nat} {o : Ord} (h : isFigO o = true) (ok : OrdOk n o) {m : Mch} (mok : MchOk n m) : isFig (figO o m) := by
  cases o <;> first | exact ok.2 | exact (reg_at mok ok.2).2 | exact calc_fig _ (reg_at mok ok.2.1).2 (reg_at mok ok.2.2).2 | exact mok.me.get _ | cases h
theorem fig_word {o : Ord} (h : isFigO o = true) : decide (wordO o = "store") = false ∧ decide (wordO o ∈ leadL) = false := by
  cases o <;> first | exact ⟨rfl, rfl⟩ | (rename_i z _ _ _; cases z <;> exact ⟨rfl, rfl⟩) | cases h
theorem reg_ix {i : Int} (h : isReg i) : ixN 8 i = some i.toNat := by
  obtain ⟨h0, h1⟩ := h
  have e : i = ((i.toNat : Nat) : Int) := by omega
  conv => lhs; rw [e]
  exact S.ixN_nat (by omega)
structure Mid (C4 C6 : Addr) (F H : Hp) (o : Ord) (n : Nat) (m : Mch) (sp ra ca pc kd : Addr) (H1 : Hp) (m1 : Mch) (kept1 : AL Int) : Prop where
  g : Gr [ra, kd] F H F H1
  hS : SpAt C4 F H1 sp m1 ra ca
  hP : PcAt C6 F H1 pc kd kept1
  hK : Kept kept1 (nextO o m).mem
  ok : MchOk n m1
  e1 : m1.regs = (nextO o m).regs
  e2 : (nextO o m1).calls = (nextO o m).calls
  e3 : (nextO o m1).at_ = (nextO o m).at_
  e4 : m1.calls = m.calls
end Mc
namespace S
open PySem PySem.Spec PyProof.Rows L2 DL Bo Fr Lw Dx Mc
/-- [t(x) for x in xs] over a tuple of data where each turn tells True and leaves what stands -/
theorem lc_true {K : PySem.W.Frag} {F H : Hp} {va : Addr} {ds : List PyData} {g : TG} {te : TE} {vs : List Nat} {σ : L2.St} {D : Addr} {Qd : Hp → Prop} (sm : Same F H) (hv : Dp K F (.ref va) (.tuple ds)) (hl : ds.length ≤ 100000) (hD : H D = none)
    (ht : ∀ (d : PyData) (x : V) (F1 H1 : Hp) (QE : VK), d ∈ ds → Gr [] F H F1 H1 → Dp K F1 x d → (∀ F2 H2, Gr [] F1 H1 F2 H2 → QE (.bl true) H2) → g x (wipe σ vs) H1 fun σ2 H2 => wipe σ2 vs = wipe σ vs ∧ te σ2 H2 QE)
    (k : ∀ F1 H1, Gr [] F H F1 H1 → SqL K H1 D ((List.replicate ds.length true).map V.bl) → Qd H1) :
    ∃ W : Nat → Nat → Hp → Prop, (∃ m, W 0 m (upd H D (.lst []))) ∧ ∀ i m H, W i m H →
      ((Itt K va).stop i H ∧ Qd H) ∨ ((Itt K va).go i H ∧ ∃ Nx : Hp → Prop, (∀ H', Nx H' → ∃ m', m' < m ∧ W (i + 1) m' H') ∧ ∀ x H', (Itt K va).yld i H x H' → g x (wipe σ vs) H' fun σ2 H2 => wipe σ2 vs = wipe σ vs ∧ tYes σ2 H2 fun b H3 =>
        if b = true then te σ2 H3 fun y H4 => ∃ acc, H4 D = some (.lst acc) ∧ acc.length < sizeLine ∧ Nx (upd H4 D (.lst (acc ++ [y]))) else Nx H3) := by
  obtain ⟨va', xs, e, hva, hds⟩ := dp_tuple hv
  cases e
  have hxl := dp_len hds
  have fD := sub_free sm hD
  refine lc_it (walk_tup (K := K) (a := va) (xs := xs)) (fun i H' => ∃ F', Gr [] F H F' H' ∧ F' D = none ∧ H' D = some (.lst ((List.replicate i true).map V.bl))) ⟨F, Gr.newOwn sm hD, fD, upd_same⟩ ?_ ?_ ?_
  · rintro i H' _ ⟨F', g, _⟩
    exact same_tup (g.fs.trans g.sub) hva
  · rintro i x H' H'' hi ⟨F', g1, fD', hDD⟩ ⟨rfl, hx⟩
    obtain ⟨dy, hdy, hyd⟩ := dp_getV hds hx
    refine ht dy x F' _ _ (List.mem_of_getElem? hdy) g1 (hyd.to g1.fs) fun F2 H2 g2 => ?_
    have hD2 := g2.at0 hDD
    have fD2 : F2 D = none := g2.own D fD' (by rw [hDD]; exact fun z => nomatch z)
    refine ⟨_, hD2, by rw [List.length_map, List.length_replicate]; exact size1000000 (by omega), F2, (g1.trans g2).poke hD fD2, fD2, ?_⟩
    rw [upd_same, repl_snoc]
  · rintro H1 ⟨F1, g1, fD1, hD1⟩
    rw [hxl] at hD1
    exact k F1 H1 g1 (SqL.of hD1)
end S
namespace Mc
open PySem PySem.Spec PyProof.Rows L2 DL Bo Fr Lw Dx Pg
def TellV (K : PySem.W.Frag) (F : Hp) (w : V) : Option Res → Prop
  | none => w = .non
  | some r => w ≠ .non ∧ Dp K F w (resD r)
theorem res_nn {K : PySem.W.Frag} {F : Hp} {w : V} {r : Res} (h : Dp K F w (resD r)) : w ≠ .non := fun e => by
  rw [e] at h
  cases r <;> cases h
theorem tellH_of {K : PySem.W.Frag} {F H : Hp} {r : Option Res} {Q : VK} (h : ∀ w F' H', Gr [] F H F' H' → TellV K F' w r → Q w H') : TellH K F H r Q := by
  cases r with
  | none => exact fun F' H' g => h _ F' H' g rfl
  | some r => exact fun w F' H' g hw => h w F' H' g ⟨res_nn hw, hw⟩
theorem run_none {code : List Ord} {m m1 : Mch} {t : Nat} (h : Chain code m t m1) (e : haltR code m1 = none) : runR code t m 0 = (.on, m1, t) := by
  have := run_chain h 0 0
  rw [Nat.add_zero, Nat.zero_add] at this
  rw [this]
  show (toldOf code m1, m1, t) = _
  unfold toldOf
  rw [e]
theorem run_some {code : List Ord} {m m1 : Mch} {j t : Nat} {r : Res} (h : Chain code m j m1) (hj : j ≤ t) (e : haltR code m1 = some r) : runR code t m 0 = (.ends r, m1, j) := by
  have := run_chain h (t - j) 0
  rw [show j + (t - j) = t by omega, Nat.zero_add] at this
  rw [this, run_end e]
end Mc

/-! k00: the law's defs: promises and plain facts -/
namespace Mc
open PySem PySem.Spec PyProof.Rows L2 DL Bo Fr Lw Dx Pg
theorem dp_strs {K : PySem.W.Frag} {F : Hp} : ∀ (l : List Str), DpAll K F (l.map V.str) (l.map PyData.str)
  | [] => .nil
  | x :: l => .cons (.str x) (dp_strs l)
theorem dp_strs_inv {K : PySem.W.Frag} {F : Hp} : ∀ {vs : List V} {l : List Str}, DpAll K F vs (l.map PyData.str) → vs = l.map V.str
  | _, [], h => by cases h; rfl
  | _, n :: ns, h => by
    cases h with
    | cons h1 h2 => cases h1; rw [dp_strs_inv h2]; rfl
/-- the words of orders, as the law draws them -/
def drawnL : List Str := ["set", "copy", "add", "sub", "mul", "and", "or", "less", "same", "load", "store", "load", "store", "jump", "if", "if", "call", "back", "ask", "stop"]
def WordOk (w : Str) : Prop := w = "back" ∨ w = "stop" ∨ w = "ask" ∨ w = "jump" ∨ w = "call" ∨ w = "if" ∨ w = "set" ∨ w = "copy" ∨ w = "load" ∨ w = "store" ∨ ∃ z : AOp, w = z.name
theorem drawn_ok {w : Str} (h : w ∈ drawnL) : WordOk w := by
  have ar : ∀ z : AOp, WordOk z.name := fun z => .inr (.inr (.inr (.inr (.inr (.inr (.inr (.inr (.inr (.inr ⟨z, rfl⟩)))))))))
  unfold drawnL at h
  simp only [List.mem_cons, List.not_mem_nil, or_false] at h
  rcases h with rfl | rfl | rfl | rfl | rfl | rfl | rfl | rfl | rfl | rfl | rfl | rfl | rfl | rfl | rfl | rfl | rfl | rfl | rfl | rfl
  · simp [WordOk]
  · simp [WordOk]
  · exact ar .add
  · exact ar .sub
  · exact ar .mul
  · exact ar .and
  · exact ar .or
  · exact ar .less
  · exact ar .same
  all_goals simp [WordOk]
/-- what an own turn tells: the machine in it has a memory without a dict of its own -/
def ResV (K : PySem.W.Frag) (F : Hp) (w : V) : Res → Prop
  | .goes m => ∃ a y, w = .ref a ∧ SqT K F a [.str "goes", y] ∧ MachV K F y m
  | r => Dp K F w (resD r)
theorem ResV.dp {K : PySem.W.Frag} {F : Hp} {w : V} {r : Res} (h : ResV K F w r) : Dp K F w (resD r) := by
  cases r with
  | goes m =>
    obtain ⟨a, y, rfl, h1, h2⟩ := h
    exact .tup h1 (.cons (.str _) (.cons h2.dp .nil))
  | _ => exact h
section
variable (K : PySem.W.Frag)
def spWords (l : List Str) : Sp := fun vs H Q _ => vs = [] ∧ ∃ F, Same F H ∧ ∀ a F' H', Gr [] F H F' H' → SqL K F' a (l.map V.str) → Q (.ref a) H'
def spLFig : Sp := fun vs H Q _ => ∃ (F : Hp) (q : Addr) (m : Nat), vs = [.ref q] ∧ Same F H ∧ F q = none ∧ DkAt H q m ∧ m ≤ 200000 ∧ ∀ f H', Gr [q] F H F H' → DkAt H' q (m + 2) → isFig f → Q (.int f) H'
def spLOrd : Sp := fun vs H Q _ => ∃ (F : Hp) (q pl : Addr) (wd : Str) (n : Nat) (few : Int) (m : Nat), vs = [.ref q, .str wd, .ref pl, .int few] ∧ Same F H ∧ F q = none ∧ DkAt H q m ∧ m ≤ 100000 ∧ WordOk wd ∧ SqL K F pl ((List.range n).map fun i : Nat => V.int (i : Int)) ∧ 1 ≤ n ∧ n ≤ 1000 ∧ 1 ≤ few ∧ few ≤ 8 ∧
  ∀ o w F' H', Gr [q] F H F' H' → DkAt H' q (m + 6) → OrdOk n o → Dp K F' w (ordD o) → Q w H'
def spReck : Sp := fun vs H Q _ => ∃ (F : Hp) (v u : V) (o : Ord) (m : Mch) (n : Nat), vs = [v, u] ∧ Same F H ∧ Dp K F v (ordD o) ∧ Dp K F u (.tuple (m.regs.map .int)) ∧ OrdOk n o ∧ MchOk n m ∧ isFigO o = true ∧ (∀ a b, o ≠ .load a b) ∧ Q (.int (figO o m)) H
def spLCells : Sp := fun vs H Q _ => ∃ (F : Hp) (v : V) (mem : List (Int × Int)) (a f : Int), vs = [v, .int a, .int f] ∧ Same F H ∧ MemV F v mem ∧ MemA mem ∧ (0 ≤ a ∧ a < 4096) ∧ isFig f ∧ ∀ w F' H', Gr [] F H F' H' → MemV F' w (putM mem a f) → Q w H'
def spLAt : Sp := fun vs H Q _ => ∃ (F : Hp) (v : V) (mem : List (Int × Int)) (a : Int), vs = [v, .int a] ∧ Same F H ∧ MemV F v mem ∧ Q (.int (getM mem a)) H
def spLNext : Sp := fun vs H Q _ => ∃ (F : Hp) (v u : V) (code : List Ord) (m : Mch), vs = [v, u] ∧ Same F H ∧ CodeV K F v code ∧ CodeOk code ∧ MachV K F u m ∧ MchOk code.length m ∧ ∀ w F' H', Gr [] F H F' H' → ResV K F' w (stepR code m) → Q w H'
def spLMem : Sp := fun vs H Q _ => ∃ (F : Hp) (q : Addr) (m : Nat), vs = [.ref q] ∧ Same F H ∧ F q = none ∧ DkAt H q m ∧ m ≤ 100000 ∧ ∀ mem w F' H', Gr [q] F H F' H' → DkAt H' q (m + 20) → MemV F' w mem → MemA mem → Q w H'
def spLMach : Sp := fun vs H Q _ => ∃ (F : Hp) (q : Addr) (m n : Nat), vs = [.ref q, .int n] ∧ Same F H ∧ F q = none ∧ DkAt H q m ∧ m ≤ 90000 ∧ n ≤ 1000 ∧ ∀ mc w F' H', Gr [q] F H F' H' → DkAt H' q (m + 90) → MachV K F' w mc → MchOk n mc → Q w H'
def spFollow : Sp := fun vs H Q _ => ∃ (F : Hp) (v u : V) (code : List Ord) (m : Mch), vs = [v, u] ∧ Same F H ∧ CodeV K F v code ∧ CodeOk code ∧ MachV K F u m ∧ MchOk code.length m ∧ ∀ F' H', Gr [] F H F' H' → Q (.bl true) H'
def spLawK00 : Sp := fun vs H Q _ => ∃ (a : Addr) (ns : List Int), vs = [.ref a] ∧ SqL K H a (ns.map V.int) ∧ ns.length ≤ 63 ∧ ∀ H', Q (.bl true) H'
end
/-! ### memories, sorted anew -/
theorem putM_perm {mem : List (Int × Int)} (h : MemA mem) (a f : Int) : (putM mem a f).Perm ((mem.filter fun p => !decide (p.1 = a)) ++ if f = 0 then [] else [(a, f)]) := by
  have split : ∀ l : List (Int × Int), (l.filter fun p => !decide (p.1 = a)).Perm ((l.filter fun p => decide (p.1 < a)) ++ l.filter fun p => decide (a < p.1)) := fun l => by
    induction l with
    | nil => exact .nil
    | cons p l ih =>
      rcases Int.lt_trichotomy p.1 a with c | c | c
      · rw [List.filter_cons_of_pos (by simp; omega), List.filter_cons_of_pos (by simp; omega), List.filter_cons_of_neg (by simp; omega)]
        exact ih.cons p
      · rw [List.filter_cons_of_neg (by simp; omega), List.filter_cons_of_neg (by simp; omega), List.filter_cons_of_neg (by simp; omega)]
        exact ih
      · rw [List.filter_cons_of_pos (by simp; omega), List.filter_cons_of_neg (by simp; omega), List.filter_cons_of_pos (by simp; omega)]
        exact (ih.cons p).trans List.perm_middle.symm
  unfold putM
  refine List.Perm.trans ?_ ((split mem).append_right _).symm
  rw [List.append_assoc]
  exact List.Perm.append_left _ List.perm_append_comm
theorem putM_uniq {mem l : List (Int × Int)} (h : MemA mem) {a f : Int} (ha : 0 ≤ a ∧ a < 4096) (hf : isFig f) (p : l.Perm ((mem.filter fun p => !decide (p.1 = a)) ++ if f = 0 then [] else [(a, f)])) (s : l.Pairwise leP) : l = putM mem a f :=
  perm_uniq leP_anti (p.trans (putM_perm h a f).symm) s ((putM_A h ha hf).asc.imp fun z => leP_fst z)
theorem pairsIn_of {F : Hp} : ∀ {ys : List V}, (∀ y ∈ ys, ∃ t, y = .ref t ∧ F t = some (.tup [.int (pk F y).1, .int (pk F y).2])) → PairsIn F ys (ys.map (pk F))
  | [], _ => trivial
  | y :: ys, h => ⟨h y List.mem_cons_self, pairsIn_of fun z hz => h z (List.mem_cons_of_mem _ hz)⟩
theorem PairsIn.get {F : Hp} : ∀ {xs : List V} {ps : List (Int × Int)} {i : Nat} {x : V}, PairsIn F xs ps → xs[i]? = some x → ∃ p t, ps[i]? = some p ∧ x = .ref t ∧ F t = some (.tup [.int p.1, .int p.2])
  | [], [], i, x, _, hx => by simp at hx
  | y :: xs, p :: ps, 0, x, ⟨⟨t, h1, h2⟩, h⟩, hx => by
    simp at hx; subst hx
    exact ⟨p, t, rfl, h1, h2⟩
  | y :: xs, p :: ps, i + 1, x, ⟨_, h⟩, hx => by
    obtain ⟨q, t, e1, e2, e3⟩ := PairsIn.get h (i := i) (x := x) (by simpa using hx)
    exact ⟨q, t, by simpa using e1, e2, e3⟩
  | [], _ :: _, _, _, h, _ => h.elim
  | _ :: _, [], _, _, h, _ => h.elim
theorem PairsIn.len {F : Hp} : ∀ {xs : List V} {ps : List (Int × Int)}, PairsIn F xs ps → xs.length = ps.length
  | [], [], _ => rfl
  | y :: xs, p :: ps, ⟨_, h⟩ => by rw [List.length_cons, List.length_cons, PairsIn.len h]
  | [], _ :: _, h => h.elim
  | _ :: _, [], h => h.elim
theorem getM_take {mem : List (Int × Int)} {a : Int} {i : Nat} {p : Int × Int} (h : ∀ q ∈ mem.take i, q.1 ≠ a) (hp : mem[i]? = some p) (e : p.1 = a) : getM mem a = p.2 := by
  have es : mem = mem.take i ++ p :: mem.drop (i + 1) := by
    have hl : i < mem.length := (List.getElem?_eq_some_iff.mp hp).1
    have e1 : mem[i] = p := (List.getElem?_eq_some_iff.mp hp).2
    conv => lhs; rw [← List.take_append_drop i mem, List.drop_eq_getElem_cons hl, e1]
  unfold getM
  rw [es, getA_app]
  have h0 : getA (mem.take i) a = none := getA_none.mpr fun z => by
    obtain ⟨q, hq, eq⟩ := List.mem_map.mp z
    exact h q hq eq
  rw [h0, getA_cons, if_pos e]
  rfl
theorem getM_none {mem : List (Int × Int)} {a : Int} (h : ∀ q ∈ mem, q.1 ≠ a) : getM mem a = 0 := by
  unfold getM
  have h0 : getA mem a = none := getA_none.mpr fun z => by
    obtain ⟨q, hq, eq⟩ := List.mem_map.mp z
    exact h q hq eq
  rw [h0]
  rfl
end Mc
namespace S
open PySem PySem.Spec PyProof.Rows L2 DL Bo Fr Lw Dx Mc
theorem listRg {te : L2.St → Hp → (Int → Int → Hp → Prop) → Prop} {σ : L2.St} {H : Hp} {Q : VK} (q : te σ H fun a b H1 => RgOk a b ∧ ∀ q, H1 q = none → Q (.ref q) (upd H1 q (.lst (rgV a b)))) : tLstRg te σ H Q := q
theorem rg1 {ta : TE} {σ : L2.St} {H : Hp} {R : Int → Int → Hp → Prop} (q : ta σ H fun x H1 => ∃ n : Int, x = .int n ∧ R 0 n H1) : tRg1 ta σ H R := q
/-- the item of a list of ints that stands there -/
theorem ixI {K : PySem.W.Frag} {H : Hp} {a : Addr} {l : List Int} {i : Int} {Q : VK} (h : H a = some (.lst (l.map V.int))) (h0 : 0 ≤ i) (h1 : i < l.length) (q : ∀ f, f ∈ l → Q (.int f) H) : rIx K (.ref a) (.int i) H Q := by
  have e : i = ((i.toNat : Nat) : Int) := by omega
  have hl : i.toNat < l.length := by omega
  refine S.ixO h (w := .int l[i.toNat]) ?_ (q _ (List.getElem_mem hl))
  conv => lhs; rw [e]
  refine S.atI_nat ?_
  rw [List.getElem?_map, List.getElem?_eq_getElem hl]
  rfl
end S
namespace S
open PySem PySem.Spec PyProof.Rows L2 DL Bo Fr Lw Dx Mc
theorem tupF {t : TA} {σ : L2.St} {H : Hp} {Q : VK} (q : t σ H fun xs H1 => xs.length ≤ sizeLine ∧ ∀ p o, H1 p = none → o.dict = none → Q (.ref p) (upd H1 p (.frz o (.tup xs)))) : tTupF t σ H Q := q
end S
namespace S
open PySem PySem.Spec PyProof.Rows L2 DL Bo Fr Lw Dx Mc
theorem atI_last {α : Type} {l : List α} {a : α} (h : l.getLast? = some a) : atI l (-1) = some a := by
  have hl : l ≠ [] := fun z => by rw [z] at h; cases h
  have hp : 0 < l.length := List.length_pos_iff.mpr hl
  unfold atI
  have e : ixN l.length (-1) = some (l.length - 1) := by
    unfold ixN
    rw [if_neg (by decide), if_pos (by omega), show (-1 + (l.length : Int)).toNat = l.length - 1 by omega]
  rw [e]
  show l[l.length - 1]? = some a
  rw [← List.getLast?_eq_getElem?]
  exact h
end S
namespace Mc
open PySem PySem.Spec PyProof.Rows L2 DL Bo Fr Lw Dx Pg
theorem tints_shaped (l : List Int) : SeqAt.shaped (.tuple (l.map PyData.int)) = true := PySem.W.ke_shaped_ints l
theorem tints_nil (l : List Int) : PyData.eqv (.tuple (l.map PyData.int)) (.tuple []) = decide (l.length = 0) := by
  cases l with
  | nil => rfl
  | cons a l => simp [PyData.eqv, PyData.eqvAll]
theorem set_parts {l : List Int} {i : Nat} (f : Int) (h : i < l.length) : (l.take i ++ [f]) ++ l.drop (i + 1) = l.set i f := by
  rw [List.set_eq_take_append_cons_drop, if_pos h, List.append_assoc]
  rfl
end Mc
namespace S
open PySem PySem.Spec PyProof.Rows L2 DL Bo Fr Lw Dx Mc
/-- [t for x in range(..)] where each turn draws an int -/
theorem lc_drawn {F H : Hp} {q : Addr} {lo : Int} {n m c : Nat} {P : Int → Prop} {g : TG} {te : TE} {vs : List Nat} {σ : L2.St} {D : Addr} {Qd : Hp → Prop} (sm : Same F H) (hq : DkAt H q m) (hD : H D = none) (hn : n ≤ 100000)
    (ht : ∀ (i : Nat) (H1 : Hp) (QE : VK), i < n → Gr [q] F H F H1 → DkAt H1 q (m + c * i) → (∀ y H2, Gr [q] F H1 F H2 → DkAt H2 q (m + c * (i + 1)) → P y → QE (.int y) H2) → g (.int (lo + (i : Int))) (wipe σ vs) H1 fun σ2 H2 => wipe σ2 vs = wipe σ vs ∧ te σ2 H2 QE)
    (k : ∀ (cs : List Int) H1, Gr [q] F H F H1 → DkAt H1 q (m + c * n) → H1 D = some (.lst (cs.map V.int)) → cs.length = n → (∀ y ∈ cs, P y) → Qd H1) :
    ∃ W : Nat → Nat → Hp → Prop, (∃ m, W 0 m (upd H D (.lst []))) ∧ ∀ i m H, W i m H →
      ((Itr lo n).stop i H ∧ Qd H) ∨ ((Itr lo n).go i H ∧ ∃ Nx : Hp → Prop, (∀ H', Nx H' → ∃ m', m' < m ∧ W (i + 1) m' H') ∧ ∀ x H', (Itr lo n).yld i H x H' → g x (wipe σ vs) H' fun σ2 H2 => wipe σ2 vs = wipe σ vs ∧ tYes σ2 H2 fun b H3 =>
        if b = true then te σ2 H3 fun y H4 => ∃ acc, H4 D = some (.lst acc) ∧ acc.length < sizeLine ∧ Nx (upd H4 D (.lst (acc ++ [y]))) else Nx H3) := by
  have nD : D ≠ q := fun z => hq.live (by rw [← z]; exact hD)
  have fD := sub_free sm hD
  refine lc_it (walk_range (lo := lo) (n := n)) (fun i H' => ∃ cs : List Int, Gr [q] F H F H' ∧ DkAt H' q (m + c * i) ∧ H' D = some (.lst (cs.map V.int)) ∧ cs.length = i ∧ ∀ y ∈ cs, P y) ⟨[], Gr.newOwn sm hD, hq.poke nD.symm, upd_same, rfl, fun _ h => nomatch h⟩ ?_ ?_ ?_
  · intros; trivial
  · rintro i x H' H'' hi ⟨cs, g5, hq5, hD5, hcl, hcs⟩ ⟨rfl, rfl⟩
    refine ht i _ _ hi g5 hq5 fun y H6 g6 hq6 hy => ?_
    have hD6 := g6.at (by simp [nD]) hD5
    refine ⟨_, hD6, by rw [List.length_map]; exact size1000000 (by omega), cs ++ [y], (g5.trans g6).poke hD fD, hq6.poke nD.symm, by rw [upd_same]; simp, by simp [hcl], fun c hc => ?_⟩
    rcases List.mem_append.mp hc with hc | hc
    · exact hcs c hc
    · rw [List.mem_singleton.mp hc]; exact hy
  · rintro H5 ⟨cs, g5, hq5, hD5, hcl, hcs⟩
    exact k cs H5 g5 hq5 hD5 hcl hcs
end S
namespace Mc
open PySem PySem.Spec PyProof.Rows L2 DL Bo Fr Lw Dx Pg
theorem res_dw {n : Nat} {r : Res} (h : ∀ m, r = .goes m → MchOk n m) : (resD r).depth ≤ 4 ∧ wid (resD r) = true := by
  cases r with
  | goes m =>
    obtain ⟨d, w⟩ := mach_ok (h m rfl)
    constructor
    · show (PyData.tuple [.str "goes", machD m]).depth ≤ 4
      generalize machD m = x at d ⊢
      simp only [PyData.depth, PyData.depthAll]
      omega
    · show wid (PyData.tuple [.str "goes", machD m]) = true
      simp only [wid, widAll, w, List.length_cons, List.length_nil, Bool.and_true, Bool.true_and, Bool.and_eq_true, decide_eq_true_iff]
      decide
  | fault w => exact ⟨by simp [resD, PyData.depth, PyData.depthAll], by simp [resD, wid, widAll]⟩
  | stops w => exact ⟨by simp [resD, PyData.depth, PyData.depthAll], by simp [resD, wid, widAll]⟩
  | asks w => exact ⟨by simp [resD, PyData.depth, PyData.depthAll], by simp [resD, wid, widAll]⟩
theorem told_dw {n : Nat} {m : Mch} (h : MchOk n m) {t : Told} (ht : ∀ r, t = .ends r → ∀ m, r ≠ .goes m) (i : Nat) : (runD t m i).depth ≤ 4 ∧ wid (runD t m i) = true := by
  obtain ⟨d, w⟩ := mach_ok h
  have d2 : (toldD t).depth ≤ 3 ∧ wid (toldD t) = true := by
    cases t with
    | on => exact ⟨by simp [toldD, PyData.depth, PyData.depthAll], by simp [toldD, wid, widAll]⟩
    | ends r =>
      cases r with
      | goes m => exact absurd rfl (ht _ rfl m)
      | fault w => exact ⟨by simp [toldD, resD, PyData.depth, PyData.depthAll], by simp [toldD, resD, wid, widAll]⟩
      | stops w => exact ⟨by simp [toldD, resD, PyData.depth, PyData.depthAll], by simp [toldD, resD, wid, widAll]⟩
      | asks w => exact ⟨by simp [toldD, resD, PyData.depth, PyData.depthAll], by simp [toldD, resD, wid, widAll]⟩
  unfold runD
  obtain ⟨d3, w3⟩ := d2
  generalize machD m = x at d w ⊢
  generalize toldD t = y at d3 w3 ⊢
  constructor
  · simp only [PyData.depth, PyData.depthAll]
    omega
  · simp only [wid, widAll, w, w3, List.length_cons, List.length_nil, Bool.and_true, Bool.true_and, Bool.and_eq_true, decide_eq_true_iff]
    decide
theorem three_dw {x : PyData} (h : x.depth ≤ 4 ∧ wid x = true) : (PyData.list [x, x, x]).depth < 6 ∧ wid (.list [x, x, x]) = true := by
  obtain ⟨d, w⟩ := h
  constructor
  · simp only [PyData.depth, PyData.depthAll]
    omega
  · simp only [wid, widAll, w, List.length_cons, List.length_nil, Bool.and_true, Bool.true_and, Bool.and_eq_true, decide_eq_true_iff]
    decide
end Mc
namespace S
open PySem PySem.Spec PyProof.Rows L2 DL Bo Fr Lw Dx Mc
theorem neS {K : PySem.W.Frag} {H : Hp} {Q : VK} {a b : Str} (q : Q (.bl (!decide (a = b))) H) : rNeU K (.str a) (.str b) H Q := .inl ⟨rfl, by
  have e : decide ((V.str a) = V.str b) = decide (a = b) := by
    by_cases h : a = b
    · subst h; simp
    · rw [decide_eq_false h, decide_eq_false (fun z => h (V.str.inj z))]
  rw [e]; exact q⟩
end S
namespace Mc
open PySem PySem.Spec PyProof.Rows L2 DL Bo Fr Lw Dx Pg
def resW : Res → Str
  | .fault _ => "fault" | .stops _ => "stops" | .asks _ => "asks" | .goes _ => "goes"
theorem res_word {r : Res} : ∃ d, resD r = .tuple [.str (resW r), d] := by cases r <;> exact ⟨_, rfl⟩
end Mc

/-! k00: what the modules hold: tuples of texts, a dict of such tuples -/
namespace Mc
open PySem PySem.Spec PyProof.Rows L2 DL Bo Fr Lw Dx Pg
def strsOf : List Value → Option (List Str)
  | [] => some []
  | .str x _ :: r => match strsOf r with
    | some l => some (x :: l)
    | none => none
  | _ => none
theorem strsOf_vals : ∀ {vs : List Value} {l : List Str}, strsOf vs = some l → Vals (l.map V.str) vs
  | [], l, h => by cases h; exact .nil
  | v :: r, l, h => by
    cases v with
    | str x t =>
      have h' : (match strsOf r with | some l => some (x :: l) | none => none) = some l := h
      cases q : strsOf r with
      | none => rw [q] at h'; cases h'
      | some l2 =>
        rw [q] at h'
        cases h'
        exact .cons ⟨t, rfl⟩ (strsOf_vals q)
    | _ => cases h
theorem tup_at {K : PySem.W.Frag} {a : Addr} {od : Option Addr} {its : Array Value} {n : Nat} {sl : Array (Option Value)} {l : List Str} (hl : K.lookup a = some ⟨.type "tuple", od, .seq its n, sl⟩) (h : strsOf its.toList = some l) (hs : l.length ≤ 1000) : ∀ H, SqT K H a (l.map V.str) := fun H => by
  have v := strsOf_vals h
  have e := v.length
  rw [List.length_map] at e
  have e2 : its.toList.length = its.size := Array.length_toList
  exact .inr ⟨_, its, n, hl, rfl, rfl, Nat.le_of_lt (size1000000 (by omega)), v⟩
def keyT (e : DictEntry) : Option (Str × Int) := match e.key with
  | .str x _ => some (x, e.hash)
  | _ => none
theorem keysLit {P : Params} : ∀ {l : List DictEntry} {ks : List Str}, l.map keyT = ks.map (fun k => some (k, PyData.keyHash P k)) → PySem.W.KeysLit P l
  | [], _, _ => trivial
  | e :: r, [], h => by cases h
  | e :: r, k :: ks, h => by
    have h1 : keyT e :: r.map keyT = some (k, PyData.keyHash P k) :: ks.map (fun k => some (k, PyData.keyHash P k)) := h
    injection h1 with h2 h3
    refine ⟨?_, keysLit h3⟩
    unfold keyT at h2
    split at h2
    · rename_i x t q
      have h4 := Option.some.inj h2
      obtain ⟨h5, h6⟩ := Prod.mk.inj h4
      exact ⟨x, t, q, by rw [h6, h5]⟩
    · cases h2
theorem kd_at {K : PySem.W.Frag} {w : World} {a : Addr} {es : Array DictEntry} {n : Nat} {ks : List Str} (hl : K.lookup a = some ⟨.type "dict", none, .dict es n, #[]⟩) (hk : es.toList.map keyT = ks.map (fun k => some (k, PyData.keyHash w.params k))) (low : (a == sysModules) = false) : KD K w a := ⟨⟨es, n, hl, keysLit hk⟩, low⟩
/-- a row of the dict of forms -/
structure FRow (K : PySem.W.Frag) (d : Addr) (x : Str) (l : List Str) : Prop where
  ex : ∃ a, PySem.W.nsIn K d x = some (some (.ref a)) ∧ ∀ H, SqT K H a (l.map V.str)
theorem frow_at {K : PySem.W.Frag} {d a : Addr} {x : Str} {od : Option Addr} {its : Array Value} {n : Nat} {sl : Array (Option Value)} {l : List Str} (e : PySem.W.nsIn K d x = some (some (.ref a))) (hl : K.lookup a = some ⟨.type "tuple", od, .seq its n, sl⟩) (h : strsOf its.toList = some l) (hs : l.length ≤ 1000) : FRow K d x l := ⟨a, e, tup_at hl h hs⟩
theorem forms_at {K : PySem.W.Frag} {w : World} {d : Addr} (kd : KD K w d)
    (r1 : FRow K d "set" ["register", "figure"]) (r2 : FRow K d "copy" ["register", "register"])
    (r3 : FRow K d "add" ["register", "register", "register"]) (r4 : FRow K d "sub" ["register", "register", "register"]) (r5 : FRow K d "mul" ["register", "register", "register"]) (r6 : FRow K d "and" ["register", "register", "register"]) (r7 : FRow K d "or" ["register", "register", "register"]) (r8 : FRow K d "less" ["register", "register", "register"]) (r9 : FRow K d "same" ["register", "register", "register"])
    (r10 : FRow K d "load" ["register", "register"]) (r11 : FRow K d "store" ["register", "register"]) (r12 : FRow K d "jump" ["place"]) (r13 : FRow K d "if" ["register", "place"]) (r14 : FRow K d "call" ["place"]) (r15 : FRow K d "back" []) (r16 : FRow K d "ask" ["word"]) (r17 : FRow K d "stop" []) : FormsC K w d := by
  refine ⟨kd, fun o => ?_⟩
  cases o with
  | set r f => exact r1.ex
  | copy a b => exact r2.ex
  | ar z a b c =>
    cases z with
    | add => exact r3.ex
    | sub => exact r4.ex
    | mul => exact r5.ex
    | and => exact r6.ex
    | or => exact r7.ex
    | less => exact r8.ex
    | same => exact r9.ex
  | load a b => exact r10.ex
  | store a b => exact r11.ex
  | jump p => exact r12.ex
  | iff r p => exact r13.ex
  | call p => exact r14.ex
  | back => exact r15.ex
  | ask w => exact r16.ex
  | stop => exact r17.ex
theorem gv_ref {K : PySem.W.Frag} {h : Heap} {mg : Str → Option Value} {x : Str} {a : Addr} (X : K.In h) (G : h.Ns PySem.mainGlobals mg) (e : PySem.W.nsIn K PySem.mainGlobals x = some (some (.ref a))) : GV mg x (.ref a) := ⟨_, PySem.W.mg_of X G e, rfl⟩
end Mc

namespace K00
open PySem PySem.Spec PyProof.Rows L2 DL
def topS (i : Nat) : Stmt := PySem.Challenge.pw_tasksapart_k00_turns_of_orders.main.body.getD i (.Pass ⟨0, 0, 0, 0⟩)
abbrev s_is_from : Stmt := topS 8
abbrev N_is_from : List Str := ["value", "low", "high"]
abbrev P_is_from : List Str := ["value", "low", "high"]
theorem sc_is_from : FnScope N_is_from P_is_from (defScope s_is_from) := ⟨rfl, rfl, rfl, by decide +kernel, rfl, by decide +kernel, by decide +kernel⟩
abbrev s_is_tuple : Stmt := topS 9
abbrev N_is_tuple : List Str := ["value", "low", "high"]
abbrev P_is_tuple : List Str := ["value", "low", "high"]
theorem sc_is_tuple : FnScope N_is_tuple P_is_tuple (defScope s_is_tuple) := ⟨rfl, rfl, rfl, by decide +kernel, rfl, by decide +kernel, by decide +kernel⟩
abbrev s_is_figure : Stmt := topS 15
abbrev N_is_figure : List Str := ["value"]
abbrev P_is_figure : List Str := ["value"]
theorem sc_is_figure : FnScope N_is_figure P_is_figure (defScope s_is_figure) := ⟨rfl, rfl, rfl, by decide +kernel, rfl, by decide +kernel, by decide +kernel⟩
abbrev s_is_address : Stmt := topS 16
abbrev N_is_address : List Str := ["value"]
abbrev P_is_address : List Str := ["value"]
theorem sc_is_address : FnScope N_is_address P_is_address (defScope s_is_address) := ⟨rfl, rfl, rfl, by decide +kernel, rfl, by decide +kernel, by decide +kernel⟩
abbrev s_is_register : Stmt := topS 17
abbrev N_is_register : List Str := ["value"]
abbrev P_is_register : List Str := ["value"]
theorem sc_is_register : FnScope N_is_register P_is_register (defScope s_is_register) := ⟨rfl, rfl, rfl, by decide +kernel, rfl, by decide +kernel, by decide +kernel⟩
abbrev s_memory_dict : Stmt := topS 18
abbrev N_memory_dict : List Str := ["memory"]
abbrev P_memory_dict : List Str := ["memory"]
theorem sc_memory_dict : FnScope N_memory_dict P_memory_dict (defScope s_memory_dict) := ⟨rfl, rfl, rfl, by decide +kernel, rfl, by decide +kernel, by decide +kernel⟩
abbrev s_memory_tuple : Stmt := topS 19
abbrev N_memory_tuple : List Str := ["cells", "address"]
abbrev P_memory_tuple : List Str := ["cells"]
theorem sc_memory_tuple : FnScope N_memory_tuple P_memory_tuple (defScope s_memory_tuple) := ⟨rfl, rfl, rfl, by decide +kernel, rfl, by decide +kernel, by decide +kernel⟩
abbrev s_is_cell : Stmt := topS 20
abbrev N_is_cell : List Str := ["value"]
abbrev P_is_cell : List Str := ["value"]
theorem sc_is_cell : FnScope N_is_cell P_is_cell (defScope s_is_cell) := ⟨rfl, rfl, rfl, by decide +kernel, rfl, by decide +kernel, by decide +kernel⟩
abbrev s_is_a_memory : Stmt := topS 21
abbrev N_is_a_memory : List Str := ["value", "cell", "one", "other"]
abbrev P_is_a_memory : List Str := ["value"]
theorem sc_is_a_memory : FnScope N_is_a_memory P_is_a_memory (defScope s_is_a_memory) := ⟨rfl, rfl, rfl, by decide +kernel, rfl, by decide +kernel, by decide +kernel⟩
abbrev s_need_memory : Stmt := topS 22
abbrev N_need_memory : List Str := ["memory"]
abbrev P_need_memory : List Str := ["memory"]
theorem sc_need_memory : FnScope N_need_memory P_need_memory (defScope s_need_memory) := ⟨rfl, rfl, rfl, by decide +kernel, rfl, by decide +kernel, by decide +kernel⟩
abbrev s_kinds_behind : Stmt := topS 30
abbrev N_kinds_behind : List Str := ["value", "kinds"]
abbrev P_kinds_behind : List Str := ["value"]
theorem sc_kinds_behind : FnScope N_kinds_behind P_kinds_behind (defScope s_kinds_behind) := ⟨rfl, rfl, rfl, by decide +kernel, rfl, by decide +kernel, by decide +kernel⟩
abbrev s_is_plain_part : Stmt := topS 31
abbrev N_is_plain_part : List Str := ["kind", "value"]
abbrev P_is_plain_part : List Str := ["kind", "value"]
theorem sc_is_plain_part : FnScope N_is_plain_part P_is_plain_part (defScope s_is_plain_part) := ⟨rfl, rfl, rfl, by decide +kernel, rfl, by decide +kernel, by decide +kernel⟩
abbrev s_is_order : Stmt := topS 32
abbrev N_is_order : List Str := ["value", "many", "kinds", "kind", "part", "is_right"]
abbrev P_is_order : List Str := ["value", "many"]
theorem sc_is_order : FnScope N_is_order P_is_order (defScope s_is_order) := ⟨rfl, rfl, rfl, by decide +kernel, rfl, by decide +kernel, by decide +kernel⟩
abbrev s_is_a_code : Stmt := topS 33
abbrev N_is_a_code : List Str := ["value", "order"]
abbrev P_is_a_code : List Str := ["value"]
theorem sc_is_a_code : FnScope N_is_a_code P_is_a_code (defScope s_is_a_code) := ⟨rfl, rfl, rfl, by decide +kernel, rfl, by decide +kernel, by decide +kernel⟩
abbrev s_need_code : Stmt := topS 34
abbrev N_need_code : List Str := ["code", "index", "order"]
abbrev P_need_code : List Str := ["code"]
theorem sc_need_code : FnScope N_need_code P_need_code (defScope s_need_code) := ⟨rfl, rfl, rfl, by decide +kernel, rfl, by decide +kernel, by decide +kernel⟩
abbrev s_Spot___init__ : Stmt := inClass (topS 39) 0
abbrev N_Spot___init__ : List Str := ["self", "at", "registers", "calls"]
abbrev P_Spot___init__ : List Str := ["self", "at", "registers", "calls"]
theorem sc_Spot___init__ : FnScope N_Spot___init__ P_Spot___init__ (defScope s_Spot___init__) := ⟨rfl, rfl, rfl, by decide +kernel, rfl, by decide +kernel, by decide +kernel⟩
abbrev s_address_in : Stmt := topS 40
abbrev N_address_in : List Str := ["order", "registers"]
abbrev P_address_in : List Str := ["order", "registers"]
theorem sc_address_in : FnScope N_address_in P_address_in (defScope s_address_in) := ⟨rfl, rfl, rfl, by decide +kernel, rfl, by decide +kernel, by decide +kernel⟩
abbrev s_halting : Stmt := topS 41
abbrev N_halting : List Str := ["code", "spot", "order", "word"]
abbrev P_halting : List Str := ["code", "spot"]
theorem sc_halting : FnScope N_halting P_halting (defScope s_halting) := ⟨rfl, rfl, rfl, by decide +kernel, rfl, by decide +kernel, by decide +kernel⟩
abbrev s_joined : Stmt := topS 42
abbrev N_joined : List Str := ["word", "one", "other"]
abbrev P_joined : List Str := ["word", "one", "other"]
theorem sc_joined : FnScope N_joined P_joined (defScope s_joined) := ⟨rfl, rfl, rfl, by decide +kernel, rfl, by decide +kernel, by decide +kernel⟩
abbrev s_figure_for : Stmt := topS 43
abbrev N_figure_for : List Str := ["order", "registers", "cells", "word"]
abbrev P_figure_for : List Str := ["order", "registers", "cells"]
theorem sc_figure_for : FnScope N_figure_for P_figure_for (defScope s_figure_for) := ⟨rfl, rfl, rfl, by decide +kernel, rfl, by decide +kernel, by decide +kernel⟩
abbrev s_next_index : Stmt := topS 44
abbrev N_next_index : List Str := ["order", "spot", "word"]
abbrev P_next_index : List Str := ["order", "spot"]
theorem sc_next_index : FnScope N_next_index P_next_index (defScope s_next_index) := ⟨rfl, rfl, rfl, by decide +kernel, rfl, by decide +kernel, by decide +kernel⟩
abbrev s_do_order : Stmt := topS 45
abbrev N_do_order : List Str := ["order", "spot", "cells", "word"]
abbrev P_do_order : List Str := ["order", "spot", "cells"]
theorem sc_do_order : FnScope N_do_order P_do_order (defScope s_do_order) := ⟨rfl, rfl, rfl, by decide +kernel, rfl, by decide +kernel, by decide +kernel⟩
abbrev s_PlainCells___init__ : Stmt := inClass (topS 46) 0
abbrev N_PlainCells___init__ : List Str := ["self", "memory"]
abbrev P_PlainCells___init__ : List Str := ["self", "memory"]
theorem sc_PlainCells___init__ : FnScope N_PlainCells___init__ P_PlainCells___init__ (defScope s_PlainCells___init__) := ⟨rfl, rfl, rfl, by decide +kernel, rfl, by decide +kernel, by decide +kernel⟩
abbrev s_PlainCells_load : Stmt := inClass (topS 46) 1
abbrev N_PlainCells_load : List Str := ["self", "address"]
abbrev P_PlainCells_load : List Str := ["self", "address"]
theorem sc_PlainCells_load : FnScope N_PlainCells_load P_PlainCells_load (defScope s_PlainCells_load) := ⟨rfl, rfl, rfl, by decide +kernel, rfl, by decide +kernel, by decide +kernel⟩
abbrev s_PlainCells_store : Stmt := inClass (topS 46) 2
abbrev N_PlainCells_store : List Str := ["self", "address", "figure"]
abbrev P_PlainCells_store : List Str := ["self", "address", "figure"]
theorem sc_PlainCells_store : FnScope N_PlainCells_store P_PlainCells_store (defScope s_PlainCells_store) := ⟨rfl, rfl, rfl, by decide +kernel, rfl, by decide +kernel, by decide +kernel⟩
abbrev s_Running___init__ : Stmt := inClass (topS 47) 0
abbrev N_Running___init__ : List Str := ["self", "code", "machine", "at", "registers", "calls", "memory"]
abbrev P_Running___init__ : List Str := ["self", "code", "machine"]
theorem sc_Running___init__ : FnScope N_Running___init__ P_Running___init__ (defScope s_Running___init__) := ⟨rfl, rfl, rfl, by decide +kernel, rfl, by decide +kernel, by decide +kernel⟩
abbrev s_Running_ahead : Stmt := inClass (topS 47) 1
abbrev N_Running_ahead : List Str := ["self"]
abbrev P_Running_ahead : List Str := ["self"]
theorem sc_Running_ahead : FnScope N_Running_ahead P_Running_ahead (defScope s_Running_ahead) := ⟨rfl, rfl, rfl, by decide +kernel, rfl, by decide +kernel, by decide +kernel⟩
abbrev s_Running_go : Stmt := inClass (topS 47) 2
abbrev N_Running_go : List Str := ["self"]
abbrev P_Running_go : List Str := ["self"]
theorem sc_Running_go : FnScope N_Running_go P_Running_go (defScope s_Running_go) := ⟨rfl, rfl, rfl, by decide +kernel, rfl, by decide +kernel, by decide +kernel⟩
abbrev s_Running_as_machine : Stmt := inClass (topS 47) 3
abbrev N_Running_as_machine : List Str := ["self"]
abbrev P_Running_as_machine : List Str := ["self"]
theorem sc_Running_as_machine : FnScope N_Running_as_machine P_Running_as_machine (defScope s_Running_as_machine) := ⟨rfl, rfl, rfl, by decide +kernel, rfl, by decide +kernel, by decide +kernel⟩
abbrev s_is_code : Stmt := topS 50
abbrev N_is_code : List Str := ["value"]
abbrev P_is_code : List Str := ["value"]
theorem sc_is_code : FnScope N_is_code P_is_code (defScope s_is_code) := ⟨rfl, rfl, rfl, by decide +kernel, rfl, by decide +kernel, by decide +kernel⟩
abbrev s_is_memory : Stmt := topS 51
abbrev N_is_memory : List Str := ["value"]
abbrev P_is_memory : List Str := ["value"]
theorem sc_is_memory : FnScope N_is_memory P_is_memory (defScope s_is_memory) := ⟨rfl, rfl, rfl, by decide +kernel, rfl, by decide +kernel, by decide +kernel⟩
abbrev s_is_a_machine : Stmt := topS 52
abbrev N_is_a_machine : List Str := ["code", "value", "at", "registers", "calls", "memory", "figure", "index"]
abbrev P_is_a_machine : List Str := ["code", "value"]
theorem sc_is_a_machine : FnScope N_is_a_machine P_is_a_machine (defScope s_is_a_machine) := ⟨rfl, rfl, rfl, by decide +kernel, rfl, by decide +kernel, by decide +kernel⟩
abbrev s_is_machine : Stmt := topS 53
abbrev N_is_machine : List Str := ["code", "value"]
abbrev P_is_machine : List Str := ["code", "value"]
theorem sc_is_machine : FnScope N_is_machine P_is_machine (defScope s_is_machine) := ⟨rfl, rfl, rfl, by decide +kernel, rfl, by decide +kernel, by decide +kernel⟩
abbrev s_need_machine : Stmt := topS 54
abbrev N_need_machine : List Str := ["code", "machine"]
abbrev P_need_machine : List Str := ["code", "machine"]
theorem sc_need_machine : FnScope N_need_machine P_need_machine (defScope s_need_machine) := ⟨rfl, rfl, rfl, by decide +kernel, rfl, by decide +kernel, by decide +kernel⟩
abbrev s_need_turns : Stmt := topS 55
abbrev N_need_turns : List Str := ["turns", "most"]
abbrev P_need_turns : List Str := ["turns", "most"]
theorem sc_need_turns : FnScope N_need_turns P_need_turns (defScope s_need_turns) := ⟨rfl, rfl, rfl, by decide +kernel, rfl, by decide +kernel, by decide +kernel⟩
abbrev s_first_machine : Stmt := topS 56
abbrev N_first_machine : List Str := ["memory"]
abbrev P_first_machine : List Str := ["memory"]
theorem sc_first_machine : FnScope N_first_machine P_first_machine (defScope s_first_machine) := ⟨rfl, rfl, rfl, by decide +kernel, rfl, by decide +kernel, by decide +kernel⟩
abbrev s_turned : Stmt := topS 57
abbrev N_turned : List Str := ["code", "machine", "running", "told"]
abbrev P_turned : List Str := ["code", "machine"]
theorem sc_turned : FnScope N_turned P_turned (defScope s_turned) := ⟨rfl, rfl, rfl, by decide +kernel, rfl, by decide +kernel, by decide +kernel⟩
abbrev s_run : Stmt := topS 58
abbrev N_run : List Str := ["code", "machine", "turns", "running", "many", "told"]
abbrev P_run : List Str := ["code", "machine", "turns"]
theorem sc_run : FnScope N_run P_run (defScope s_run) := ⟨rfl, rfl, rfl, by decide +kernel, rfl, by decide +kernel, by decide +kernel⟩
abbrev s__law_deck : Stmt := topS 60
abbrev N__law_deck : List Str := ["script", "k", "cell", "state", "number"]
abbrev P__law_deck : List Str := ["script", "k"]
theorem sc__law_deck : FnScope N__law_deck P__law_deck (defScope s__law_deck) := ⟨rfl, rfl, rfl, by decide +kernel, rfl, by decide +kernel, by decide +kernel⟩
abbrev s__law_draw : Stmt := topS 61
abbrev N__law_draw : List Str := ["deck", "many", "digit", "mixed"]
abbrev P__law_draw : List Str := ["deck", "many"]
theorem sc__law_draw : FnScope N__law_draw P__law_draw (defScope s__law_draw) := ⟨rfl, rfl, rfl, by decide +kernel, rfl, by decide +kernel, by decide +kernel⟩
abbrev s__law_pick : Stmt := topS 62
abbrev N__law_pick : List Str := ["deck", "items"]
abbrev P__law_pick : List Str := ["deck", "items"]
theorem sc__law_pick : FnScope N__law_pick P__law_pick (defScope s__law_pick) := ⟨rfl, rfl, rfl, by decide +kernel, rfl, by decide +kernel, by decide +kernel⟩
abbrev s__law_same : Stmt := topS 63
abbrev N__law_same : List Str := ["told", "due", "one", "other"]
abbrev P__law_same : List Str := ["told", "due"]
theorem sc__law_same : FnScope N__law_same P__law_same (defScope s__law_same) := ⟨rfl, rfl, rfl, by decide +kernel, rfl, by decide +kernel, by decide +kernel⟩
abbrev s__law_calls : Stmt := topS 64
abbrev N__law_calls : List Str := ["words"]
abbrev P__law_calls : List Str := []
theorem sc__law_calls : FnScope N__law_calls P__law_calls (defScope s__law_calls) := ⟨rfl, rfl, rfl, by decide +kernel, rfl, by decide +kernel, by decide +kernel⟩
abbrev s__law_figure : Stmt := topS 65
abbrev N__law_figure : List Str := ["deck", "way"]
abbrev P__law_figure : List Str := ["deck"]
theorem sc__law_figure : FnScope N__law_figure P__law_figure (defScope s__law_figure) := ⟨rfl, rfl, rfl, by decide +kernel, rfl, by decide +kernel, by decide +kernel⟩
abbrev s__law_order : Stmt := topS 66
abbrev N__law_order : List Str := ["deck", "word", "places", "few", "one", "other"]
abbrev P__law_order : List Str := ["deck", "word", "places", "few"]
theorem sc__law_order : FnScope N__law_order P__law_order (defScope s__law_order) := ⟨rfl, rfl, rfl, by decide +kernel, rfl, by decide +kernel, by decide +kernel⟩
abbrev s__law_reckoned : Stmt := topS 67
abbrev N__law_reckoned : List Str := ["order", "registers", "one", "other"]
abbrev P__law_reckoned : List Str := ["order", "registers"]
theorem sc__law_reckoned : FnScope N__law_reckoned P__law_reckoned (defScope s__law_reckoned) := ⟨rfl, rfl, rfl, by decide +kernel, rfl, by decide +kernel, by decide +kernel⟩
abbrev s__law_cells : Stmt := topS 68
abbrev N__law_cells : List Str := ["memory", "address", "figure", "rows", "cell"]
abbrev P__law_cells : List Str := ["memory", "address", "figure"]
theorem sc__law_cells : FnScope N__law_cells P__law_cells (defScope s__law_cells) := ⟨rfl, rfl, rfl, by decide +kernel, rfl, by decide +kernel, by decide +kernel⟩
abbrev s__law_at : Stmt := topS 69
abbrev N__law_at : List Str := ["memory", "address", "cell"]
abbrev P__law_at : List Str := ["memory", "address"]
theorem sc__law_at : FnScope N__law_at P__law_at (defScope s__law_at) := ⟨rfl, rfl, rfl, by decide +kernel, rfl, by decide +kernel, by decide +kernel⟩
abbrev s__law_next : Stmt := topS 70
abbrev N__law_next : List Str := ["code", "machine", "at", "registers", "calls", "memory", "order", "word", "place", "figure", "got"]
abbrev P__law_next : List Str := ["code", "machine"]
theorem sc__law_next : FnScope N__law_next P__law_next (defScope s__law_next) := ⟨rfl, rfl, rfl, by decide +kernel, rfl, by decide +kernel, by decide +kernel⟩
abbrev s__law_words : Stmt := topS 71
abbrev N__law_words : List Str := ["words"]
abbrev P__law_words : List Str := []
theorem sc__law_words : FnScope N__law_words P__law_words (defScope s__law_words) := ⟨rfl, rfl, rfl, by decide +kernel, rfl, by decide +kernel, by decide +kernel⟩
abbrev s__law_memory : Stmt := topS 72
abbrev N__law_memory : List Str := ["deck", "memory", "turn", "address"]
abbrev P__law_memory : List Str := ["deck"]
theorem sc__law_memory : FnScope N__law_memory P__law_memory (defScope s__law_memory) := ⟨rfl, rfl, rfl, by decide +kernel, rfl, by decide +kernel, by decide +kernel⟩
abbrev s__law_machine : Stmt := topS 73
abbrev N__law_machine : List Str := ["deck", "many", "registers", "calls", "turn"]
abbrev P__law_machine : List Str := ["deck", "many"]
theorem sc__law_machine : FnScope N__law_machine P__law_machine (defScope s__law_machine) := ⟨rfl, rfl, rfl, by decide +kernel, rfl, by decide +kernel, by decide +kernel⟩
abbrev s__law_followed : Stmt := topS 74
abbrev N__law_followed : List Str := ["code", "first", "machine", "many", "due", "told"]
abbrev P__law_followed : List Str := ["code", "first"]
theorem sc__law_followed : FnScope N__law_followed P__law_followed (defScope s__law_followed) := ⟨rfl, rfl, rfl, by decide +kernel, rfl, by decide +kernel, by decide +kernel⟩
abbrev s_law : Stmt := topS 75
abbrev N_law : List Str := ["script", "k", "deck", "turn", "many", "few", "places", "code", "machine", "begin", "at"]
abbrev P_law : List Str := ["script"]
theorem sc_law : FnScope N_law P_law (defScope s_law) := ⟨rfl, rfl, rfl, by decide +kernel, rfl, by decide +kernel, by decide +kernel⟩
end K00

namespace K00
open PySem PySem.Spec PyProof.Rows L2 DL Bo Fr Lw Dx Pg Mc
local macro_rules | `(tactic| walk_at "g0") => `(tactic| first
  | ((with_reducible refine S.var (v := ?v) ?hv ?_); case hv => exact rfl)
  | (with_reducible refine S.c ?_) | (with_reducible refine S.nil ?_) | (with_reducible refine S.cons ?_) | (with_reducible refine S.cb ?_) | (with_reducible refine S.op ?_) | (with_reducible refine S.un ?_)
  | (with_reducible refine S.test ?_) | (with_reducible refine S.tbT ?_) | (with_reducible refine S.bl ?_) | (with_reducible refine S.and ?_) | (with_reducible refine S.or ?_) | (with_reducible refine S.not ?_)
  | (with_reducible refine S.andV ?_) | (with_reducible refine S.orV ?_) | (with_reducible refine S.notV ?_) | (with_reducible refine S.ifE ?_) | (with_reducible refine S.chain ?_)
  | (with_reducible refine S.tup ?_) | (with_reducible refine S.lst ?_) | (with_reducible refine S.call ?_) | (with_reducible refine S.callS ?_) | (with_reducible refine S.meth ?_) | (with_reducible refine S.make ?_)
  | (with_reducible refine S.fld ?_) | (with_reducible refine S.sl ?_) | (with_reducible refine S.noPart ?_) | (with_reducible refine S.part ?_) | (with_reducible refine S.intI ?_)
  | (with_reducible refine S.dget ?_) | (with_reducible refine S.din ?_) | (with_reducible refine S.dnotin ?_) | (with_reducible refine S.dget1 ?_) | (with_reducible refine S.bm0 ?_) | (with_reducible refine S.bm ?_)
  | (with_reducible refine S.ret ?_) | (with_reducible refine S.retN ?_) | (with_reducible refine S.drop ?_) | (with_reducible refine S.ifS ?_) | (with_reducible refine S.next ?_) | (with_reducible refine S.cont ?_)
  | (with_reducible refine S.asg ?_) | (with_reducible refine S.name ?_) | (with_reducible refine S.gsub ?_) | (with_reducible refine S.par ?_) | (with_reducible refine S.par3 ?_) | (with_reducible refine S.sfld ?_) | (with_reducible refine S.dput ?_) | (with_reducible refine S.daug ?_)
  | (with_reducible refine S.fldaug ?_) | (with_reducible refine S.dpop1 ?_) | (with_reducible refine S.dpop2 ?_) | (with_reducible refine S.sview ?_) | (with_reducible refine S.gCons ?_) | (with_reducible refine S.gNil ?_) | (with_reducible refine S.i0 ?_) | (with_reducible refine S.neg ?_) | (with_reducible refine S.addI ?_) | (with_reducible refine S.eqI ?_) | (with_reducible refine S.neI ?_) | (with_reducible refine S.eqS ?_)
  | (with_reducible refine S.isN ?_) | (with_reducible refine S.isNotN ?_) | (with_reducible refine S.isB ?_) | (with_reducible refine S.isNotB ?_)
  | (with_reducible refine S.vs1 ?_) | (with_reducible refine S.vs2 ?_))
local macro_rules | `(tactic| walk_at "g1") => `(tactic| first | walk_at "g0" | (with_reducible refine S.seq ?_))
local macro_rules | `(tactic| walk_at "gs") => `(tactic| repeat (walk_at "g0"))
local macro_rules | `(tactic| walk_at "go") => `(tactic| repeat (walk_at "g1"))

local macro_rules | `(tactic| walk_at "sq") => `(tactic| with_reducible refine S.seq ?_)
local macro_rules | `(tactic| walk_at "gt") => `(tactic| first
  | ((with_reducible refine S.iteF (b := ?b) ?hb ?_); case hb => rfl)
  | ((with_reducible refine S.iteT (b := ?b) ?hb ?_); case hb => rfl))
local macro_rules | `(tactic| walk_at "gd") => `(tactic| repeat (first | walk_at "g1" | walk_at "gt"))
theorem ok_is_from {P : Program} {w : World} {K : PySem.W.Frag} {mg : Str → Option Value} {base : Heap} {f : Addr} {fd : FuncData} (F : Fun K "is_from" "is_from" s_is_from f fd) (B : Blt mg)
    : FnOk P w K mg base CX0 (0 + 1) f fd P_is_from (spIsFrom K) := by
  refine F.ok sc_is_from (fun vs H Q E h => ?_) (fun cdv A outer s H vs Q E hr h => ?_)
  · obtain ⟨F, v, d, lo, hi, rfl, _⟩ := h; rfl
  · have hu := hu_of hr
    have hu64 := Room.units hr
    obtain ⟨F, v, d, lo, hi, rfl, s, hd, k⟩ := h
    refine ⟨_, (pss_one (ps_ret (pe_and (pe_callB call_isi rfl B.m_isinstance (by first | exact PySem.boot_isinstance | decide +kernel) (pa_cons (pv 0) (pa_cons (pe_bltn (v := V.ty "int") rfl B.m_int (by decide +kernel : bootBuiltins "int" = some (.type "int")) rfl) pa_nil))) (pe_and (pe_not (pe_callB call_isi rfl B.m_isinstance (by first | exact PySem.boot_isinstance | decide +kernel) (pa_cons (pv 0) (pa_cons (pe_bltn (v := V.ty "bool") rfl B.m_bool (by decide +kernel : bootBuiltins "bool" = some (.type "bool")) rfl) pa_nil)))) (pe_one (pe_chain op_le op_le (pv 1) (pv 0) (pv 2))))))), ?_⟩
    try dsimp only [cxOf, Cx.nox, Cx.wish]
    walk_at "go"
    refine isi_int hd s ?_
    walk_at "go"
    cases hd with
    | int i =>
      refine S.iteT rfl ?_
      walk_at "go"
      refine isi_bool (.int i) s ?_
      walk_at "go"
      refine S.iteT rfl ?_
      walk_at "go"
      refine S.ite (fun e => ?_) (fun e => ?_)
      · walk_at "go"
        simpa [isFrom, e] using k
      · simpa [isFrom, e] using k
    | bl b =>
      refine S.iteT rfl ?_
      walk_at "go"
      refine isi_bool (.bl b) s ?_
      walk_at "go"
      exact S.iteF rfl k
    | non => exact S.iteF rfl k
    | str x => exact S.iteF rfl k
    | lst _ _ => exact S.iteF rfl k
    | tup _ _ => exact S.iteF rfl k

theorem ok_is_tuple {P : Program} {w : World} {K : PySem.W.Frag} {mg : Str → Option Value} {base : Heap} {f : Addr} {fd : FuncData} (F : Fun K "is_tuple" "is_tuple" s_is_tuple f fd) (B : Blt mg)
    : FnOk P w K mg base CX0 (0 + 1) f fd P_is_tuple (spIsTuple K) := by
  refine F.ok sc_is_tuple (fun vs H Q E h => ?_) (fun cdv A outer s H vs Q E hr h => ?_)
  · obtain ⟨F, v, d, lo, hi, rfl, _⟩ := h; rfl
  · have hu := hu_of hr
    have hu64 := Room.units hr
    obtain ⟨F, v, d, lo, hi, rfl, s, hd, k⟩ := h
    refine ⟨_, (pss_one (ps_ret (pe_and (pe_callB call_isi rfl B.m_isinstance (by first | exact PySem.boot_isinstance | decide +kernel) (pa_cons (pv 0) (pa_cons (pe_bltn (v := V.ty "tuple") rfl B.m_tuple (by decide +kernel : bootBuiltins "tuple" = some (.type "tuple")) rfl) pa_nil))) (pe_one (pe_chain op_le op_le (pv 1) (pe_callB call_lenU rfl B.m_len (by first | exact PySem.boot_len | decide +kernel) (pa_cons (pv 0) pa_nil)) (pv 2)))))), ?_⟩
    try dsimp only [cxOf, Cx.nox, Cx.wish]
    walk_at "go"
    refine isi_tup hd s ?_
    walk_at "go"
    cases d with
    | tuple ds =>
      refine S.iteT rfl ?_
      walk_at "go"
      refine S.lenT hd s ?_
      walk_at "go"
      refine S.ite (fun e => ?_) (fun e => ?_)
      · walk_at "go"
        simpa [isTuple, e] using k
      · simpa [isTuple, e] using k
    | _ => exact S.iteF rfl k

theorem ok_is_figure {P : Program} {w : World} {K : PySem.W.Frag} {mg : Str → Option Value} {base : Heap} {f : Addr} {fd : FuncData} (F : Fun K "is_figure" "is_figure" s_is_figure f fd) (B : Blt mg)
    (c_is_from : Cal P w K mg base CX0 1 "is_from" P_is_from (spIsFrom K)) (g_MOST_FIGURE : GV mg "MOST_FIGURE" (.int 65535))
    : FnOk P w K mg base CX0 (1 + 1) f fd P_is_figure (spFig) := by
  refine F.ok sc_is_figure (fun vs H Q E h => ?_) (fun cdv A outer s H vs Q E hr h => ?_)
  · obtain ⟨a, rfl, _⟩ := h; rfl
  · have hu := hu_of hr
    have hu64 := Room.units hr
    obtain ⟨a, rfl, h0, h1, k⟩ := h
    refine ⟨_, (pss_one (ps_ret (pe_cal c_is_from (hr.mono (by first | decide | omega)) pass0 (pa_cons (pv 0) (pa_cons (pe_int) (pa_cons (pe_gv g_MOST_FIGURE) pa_nil)))))), ?_⟩
    try dsimp only [cxOf, Cx.nox, Cx.wish]
    walk_at "go"
    refine ⟨fun _ => none, _, .int a, 0, 65535, rfl, (fun _ _ z => by cases z), .int a, ?_⟩
    rw [isFrom_of h0 h1]
    exact k

theorem ok_is_address {P : Program} {w : World} {K : PySem.W.Frag} {mg : Str → Option Value} {base : Heap} {f : Addr} {fd : FuncData} (F : Fun K "is_address" "is_address" s_is_address f fd) (B : Blt mg)
    (c_is_from : Cal P w K mg base CX0 1 "is_from" P_is_from (spIsFrom K)) (g_CELLS : GV mg "CELLS" (.int 4096))
    : FnOk P w K mg base CX0 (1 + 1) f fd P_is_address (spAdr) := by
  refine F.ok sc_is_address (fun vs H Q E h => ?_) (fun cdv A outer s H vs Q E hr h => ?_)
  · obtain ⟨a, rfl, _⟩ := h; rfl
  · have hu := hu_of hr
    have hu64 := Room.units hr
    obtain ⟨a, rfl, h0, h1, k⟩ := h
    refine ⟨_, (pss_one (ps_ret (pe_cal c_is_from (hr.mono (by first | decide | omega)) pass0 (pa_cons (pv 0) (pa_cons (pe_int) (pa_cons (pe_op op_sub (pe_gv g_CELLS) (pe_int)) pa_nil)))))), ?_⟩
    try dsimp only [cxOf, Cx.nox, Cx.wish]
    walk_at "go"
    refine ⟨fun _ => none, _, .int a, 0, 4096 - 1, rfl, (fun _ _ z => by cases z), .int a, ?_⟩
    rw [isFrom_of h0 (by omega)]
    exact k

theorem ok_is_register {P : Program} {w : World} {K : PySem.W.Frag} {mg : Str → Option Value} {base : Heap} {f : Addr} {fd : FuncData} (F : Fun K "is_register" "is_register" s_is_register f fd) (B : Blt mg)
    (c_is_from : Cal P w K mg base CX0 1 "is_from" P_is_from (spIsFrom K)) (g_REGISTERS : GV mg "REGISTERS" (.int 8))
    : FnOk P w K mg base CX0 (1 + 1) f fd P_is_register (spReg) := by
  refine F.ok sc_is_register (fun vs H Q E h => ?_) (fun cdv A outer s H vs Q E hr h => ?_)
  · obtain ⟨a, rfl, _⟩ := h; rfl
  · have hu := hu_of hr
    have hu64 := Room.units hr
    obtain ⟨a, rfl, ⟨h0, h1⟩, k⟩ := h
    refine ⟨_, (pss_one (ps_ret (pe_cal c_is_from (hr.mono (by first | decide | omega)) pass0 (pa_cons (pv 0) (pa_cons (pe_int) (pa_cons (pe_op op_sub (pe_gv g_REGISTERS) (pe_int)) pa_nil)))))), ?_⟩
    try dsimp only [cxOf, Cx.nox, Cx.wish]
    walk_at "go"
    refine ⟨fun _ => none, _, .int a, 0, 8 - 1, rfl, (fun _ _ z => by cases z), .int a, ?_⟩
    rw [isFrom_of h0 (by omega)]
    exact k

theorem ok_memory_dict {P : Program} {w : World} {K : PySem.W.Frag} {mg : Str → Option Value} {base : Heap} {f : Addr} {fd : FuncData} (F : Fun K "memory_dict" "memory_dict" s_memory_dict f fd) (B : Blt mg)
    : FnOk P w K mg base CX0 (0 + 1) f fd P_memory_dict (spMDict) := by
  refine F.ok sc_memory_dict (fun vs H Q E h => ?_) (fun cdv A outer s H vs Q E hr h => ?_)
  · obtain ⟨F, v, mem, rfl, _⟩ := h; rfl
  · have hu := hu_of hr
    have hu64 := Room.units hr
    obtain ⟨F, v, mem, rfl, sm, ⟨a, xs, rfl, hp, hx⟩, hm, k⟩ := h
    obtain ⟨ps, rfl, hps⟩ := pairs_dict (K := K) (pin_dp (hx.to sm))
    refine ⟨_, (pss_one (ps_ret (pe_callTy (call_dictPT rfl) rfl B.m_dict (by decide +kernel) (pa_cons (pv 0) pa_nil)))), ?_⟩
    try dsimp only [cxOf, Cx.nox, Cx.wish]
    walk_at "go"
    refine ⟨a, ps, _, rfl, hp.to sm, hps, fun d hd => ?_⟩
    rw [show kM V.int mem = kM V.int ([] ++ mem) from rfl, show ([] : List (L2.Key × V)) = kM V.int ([] : AL Int) from rfl]
    rw [show mergeK (kM V.int ([] : AL Int)) (kM V.int ([] ++ mem)) = kM V.int mem from merge_kM mem [] hm.nd]
    exact k d _ (Gr.newOwn sm hd) hd (sub_free sm hd) upd_same

theorem ok_memory_tuple {P : Program} {w : World} {K : PySem.W.Frag} {mg : Str → Option Value} {base : Heap} {f : Addr} {fd : FuncData} (F : Fun K "memory_tuple" "memory_tuple" s_memory_tuple f fd) (B : Blt mg)
    : FnOk P w K mg base CX0 (0 + 1) f fd P_memory_tuple (spRowsL K) := by
  refine F.ok sc_memory_tuple (fun vs H Q E h => ?_) (fun cdv A outer s H vs Q E hr h => ?_)
  · obtain ⟨F, d, cells, rfl, _⟩ := h; rfl
  · have hu := hu_of hr
    have hu64 := Room.units hr
    obtain ⟨F, d, cells, rfl, sm, hd, nd, hl, k⟩ := h
    refine ⟨_, (pss_one (ps_ret (pe_callTy call_tuple_of rfl B.m_tuple (by decide +kernel) (pa_cons (pe_lc (own := [("address", 1)]) rfl sc_memory_tuple.nd (pi_seq (pe_callB (call_sortedKeys rfl) rfl B.m_sorted (by first | exact PySem.boot_sorted | decide +kernel) (pa_cons (pv 0) pa_nil))) (blkOk_by (N := N_memory_tuple) (sc := defScope s_memory_tuple) (by decide +kernel)) (fun _ _ _ _ _ => (pg_name (i := 1) sc_memory_tuple.nd rfl (Or.inl rfl))) (fun _ _ _ _ _ => pts_one (pt_cmpR (op_neUK (K := K) rfl hu64) (pe_dget hu (pv 0) (pv 1) (fun _ _ => rfl)) (pe_int) (nomark _))) (fun _ _ _ _ _ => (pe_tup (pa_cons (pv 1) (pa_cons (pe_dget hu (pv 0) (pv 1) (fun _ _ => rfl)) pa_nil))))) pa_nil)))), ?_⟩
    try dsimp only [cxOf, Cx.nox, Cx.wish]
    walk_at "gs"
    refine S.lcS (S.iSeqL ?_)
    walk_at "gs"
    refine ⟨d, _, keysA cells, rfl, hd, ?_, fun ys L hperm hpw hL => ?_⟩
    · unfold kM keysA; rw [List.map_map, List.map_map]; rfl
    obtain rfl := sortI_uniq hperm hpw
    have g2 : Gr [] F H F _ := Gr.newOwn (o := .lst ((sortI (keysA cells)).map V.int)) sm hL
    have hLL : upd H L (.lst ((sortI (keysA cells)).map V.int)) L = _ := upd_same
    have hd2 := g2.at0 hd
    generalize upd H L _ = H2 at *
    refine ⟨L, rfl, ⟨_, SqL.of hLL⟩, fun D hD => ?_⟩
    have fD := sub_free g2.sub hD
    have hkl : (sortI (keysA cells)).length ≤ 4096 := by rw [(sortI_perm _).length_eq]; simpa [keysA] using hl
    refine lc_it (walk_list (K := K) (a := L) (xs := (sortI (keysA cells)).map V.int)) (fun j H5 => ∃ F5 acc, Gr [] F H2 F5 H5 ∧ F5 D = none ∧ H5 D = some (.lst acc) ∧ DpAll K F5 acc (((((sortI (keysA cells)).take j).filter fun a => !decide ((getA cells a).getD 0 = 0)).map fun a => (a, (getA cells a).getD 0)).map prZ) ∧ acc.length ≤ j)
      ⟨F, [], Gr.newOwn g2.sub hD, fD, upd_same, .nil, Nat.le_refl _⟩ ?_ ?_ ?_
    · rintro j H5 _ ⟨F5, acc, g5, _⟩
      exact SqL.of (g5.at0 hLL)
    · rintro j w H5 H6 hj ⟨F5, acc, g5, fD5, hD5, hacc, hal⟩ ⟨rfl, hw⟩
      rw [List.getElem?_map] at hw
      obtain ⟨s, hs⟩ : ∃ s, (sortI (keysA cells))[j]? = some s := by
        cases q : (sortI (keysA cells))[j]? with
        | none => rw [q] at hw; cases hw
        | some t => exact ⟨t, rfl⟩
      rw [hs] at hw
      obtain rfl : V.int s = w := Option.some.inj hw
      obtain ⟨own, hown⟩ := getA_isSome_of_mem ((sortI_perm _).subset (List.mem_of_getElem? hs))
      have hrow5 := g5.at0 hd2
      have hfil : ((sortI (keysA cells)).take (j + 1)).filter (fun a => !decide ((getA cells a).getD 0 = 0)) = if own = 0 then ((sortI (keysA cells)).take j).filter (fun a => !decide ((getA cells a).getD 0 = 0)) else ((sortI (keysA cells)).take j).filter (fun a => !decide ((getA cells a).getD 0 = 0)) ++ [s] := by
        rw [take_succ_get hs, filter_snoc, hown]
        by_cases e : own = 0 <;> simp [e]
      rw [hfil]
      rw [List.length_map] at hj
      walk_at "gs"
      refine ⟨rfl, ?_⟩
      walk_at "gs"
      refine dget_of (k := Sum.inl s) hrow5 (by rw [valV_kM, hown]; rfl) ?_
      walk_at "gs"
      refine S.ite (fun e => ?_) (fun e => ?_)
      · have e' : ¬ own = 0 := by simpa using e
        rw [if_neg e']
        walk_at "gs"
        refine dget_of (k := Sum.inl s) hrow5 (by rw [valV_kM, hown]; rfl) ?_
        refine new_tupG (K := K) g5.sub (ds := [.int s, .int own]) (.cons (.int _) (.cons (.int _) .nil)) (by show 2 ≤ sizeLine; decide) fun z F7 g7 hz hvz => ?_
        have hD7 := g7.at0 hD5
        have fD7 : F7 D = none := g7.own D fD5 (by rw [hD5]; exact fun z => nomatch z)
        generalize upd H6 z _ = H7 at *
        refine ⟨acc, hD7, size1000000 (by omega), F7, acc ++ [.ref z], (g5.trans g7).poke hD fD7, fD7, upd_same, ?_, by simp; omega⟩
        rw [List.map_append, List.map_append]
        refine dp_app (hacc.to g7.fs) (.cons ?_ .nil)
        show Dp K F7 (.ref z) (.tuple [.int s, .int ((getA cells s).getD 0)])
        rw [hown]
        exact hvz
      · have e' : own = 0 := by simpa using e
        rw [if_pos e']
        exact ⟨F5, acc, g5, fD5, hD5, hacc, by omega⟩
    · rintro H5 ⟨F5, acc, g5, fD5, hD5, hacc, hal⟩
      rw [List.length_map, List.take_length] at hacc
      walk_at "gs"
      refine ⟨D, acc, rfl, .inl ⟨SqL.of hD5, made_tupG (K := K) g5.sub hacc fun l F8 g8 hl2 hv => ?_⟩⟩
      exact k _ F8 _ ((g2.trans g5).trans g8) hv

theorem ok_is_cell {P : Program} {w : World} {K : PySem.W.Frag} {mg : Str → Option Value} {base : Heap} {f : Addr} {fd : FuncData} (F : Fun K "is_cell" "is_cell" s_is_cell f fd) (B : Blt mg)
    (c_is_from : Cal P w K mg base CX0 1 "is_from" P_is_from (spIsFrom K)) (c_is_tuple : Cal P w K mg base CX0 1 "is_tuple" P_is_tuple (spIsTuple K)) (c_is_address : Cal P w K mg base CX0 2 "is_address" P_is_address spAdr) (g_MOST_FIGURE : GV mg "MOST_FIGURE" (.int 65535))
    : FnOk P w K mg base CX0 (2 + 1) f fd P_is_cell (spCellM K) := by
  refine F.ok sc_is_cell (fun vs H Q E h => ?_) (fun cdv A outer s H vs Q E hr h => ?_)
  · obtain ⟨F, v, p, rfl, _⟩ := h; rfl
  · have hu := hu_of hr
    have hu64 := Room.units hr
    obtain ⟨F, v, p, rfl, sm, hd, ha, f1, f2, k⟩ := h
    refine ⟨_, (pss_one (ps_ret (pe_and (pe_cal c_is_tuple (hr.mono (by first | decide | omega)) pass0 (pa_cons (pv 0) (pa_cons (pe_int) (pa_cons (pe_int) pa_nil)))) (pe_and (pe_cal c_is_address (hr.mono (by first | decide | omega)) pass0 (pa_cons (pe_ix ix_seq (pv 0) (pe_int) (fun _ _ => rfl)) pa_nil)) (pe_one (pe_cal c_is_from (hr.mono (by first | decide | omega)) pass0 (pa_cons (pe_ix ix_seq (pv 0) (pe_int) (fun _ _ => rfl)) (pa_cons (pe_int) (pa_cons (pe_gv g_MOST_FIGURE) pa_nil))))))))), ?_⟩
    try dsimp only [cxOf, Cx.nox, Cx.wish]
    walk_at "go"
    refine ⟨F, v, _, 2, 2, rfl, sm, hd, ?_⟩
    rw [show isTuple (prZ p) 2 2 = true from tup_ok (ds := [.int p.1, .int p.2]) (by simp) (by simp)]
    walk_at "go"
    refine S.iteT rfl ?_
    walk_at "go"
    refine S.ixT (K := K) (ds := [.int p.1, .int p.2]) hd sm (d := .int p.1) S.atI_0 fun w0 hw0 => ?_
    obtain rfl := dp_int hw0
    refine ⟨p.1, rfl, ha.1, ha.2, ?_⟩
    walk_at "go"
    refine S.iteT rfl ?_
    walk_at "go"
    refine S.ixT (K := K) (ds := [.int p.1, .int p.2]) hd sm (d := .int p.2) S.atI_1 fun w0 hw0 => ?_
    obtain rfl := dp_int hw0
    walk_at "go"
    refine ⟨F, _, .int p.2, 1, 65535, rfl, sm, .int _, ?_⟩
    rw [from_ok f1 f2]
    exact k

theorem ok_is_a_memory {P : Program} {w : World} {K : PySem.W.Frag} {mg : Str → Option Value} {base : Heap} {f : Addr} {fd : FuncData} (F : Fun K "is_a_memory" "is_a_memory" s_is_a_memory f fd) (B : Blt mg)
    (c_is_cell : Cal P w K mg base CX0 3 "is_cell" P_is_cell (spCellM K))
    : FnOk P w K mg base CX0 (3 + 1) f fd P_is_a_memory (spIsMem K) := by
  refine F.ok sc_is_a_memory (fun vs H Q E h => ?_) (fun cdv A outer s H vs Q E hr h => ?_)
  · obtain ⟨F, v, mem, rfl, _⟩ := h; rfl
  · have hu := hu_of hr
    have hu64 := Room.units hr
    obtain ⟨F, v, mem, rfl, sm, hv, hm, k⟩ := h
    have hml := hm.ok.len
    refine ⟨_, (pss_cons (ps_if (PW.pt (pw_or (pt_not (pt_val (pe_callB call_isi rfl B.m_isinstance (by first | exact PySem.boot_isinstance | decide +kernel) (pa_cons (pv 0) (pa_cons (pe_bltn (v := V.ty "tuple") rfl B.m_tuple (by decide +kernel : bootBuiltins "tuple" = some (.type "tuple")) rfl) pa_nil))))) (pw_or1 (pt_not (pt_val (pe_callB (cr_all rfl) rfl B.m_all (by first | exact PySem.boot_all | decide +kernel) (pa_cons (pe_lc (own := [("cell", 1)]) rfl sc_is_a_memory.nd (pi_seq (pv 0)) (blkOk_by (N := N_is_a_memory) (sc := defScope s_is_a_memory) (by decide +kernel)) (fun _ _ _ _ _ => (pg_name (i := 1) sc_is_a_memory.nd rfl (Or.inl rfl))) (fun _ _ _ _ _ => pts_nil) (fun _ _ _ _ _ => (pe_cal c_is_cell (hr.mono (by first | decide | omega)) pass0 (pa_cons (pv 1) pa_nil)))) pa_nil))))))) (pss_one (ps_ret (pe_bl))) pss_nil)
      (pss_one (ps_ret (pe_callB (cr_all rfl) rfl B.m_all (by first | exact PySem.boot_all | decide +kernel) (pa_cons (pe_lc (own := [("one", 2), ("other", 3)]) rfl sc_is_a_memory.nd (RZ.pi_zipA rfl B.m_zip (pa_cons (pv 0) (pa_cons (pe_slice sl_U (pv 0) (po_some (pe_int)) po_none) pa_nil))) (blkOk_by (N := N_is_a_memory) (sc := defScope s_is_a_memory) (by decide +kernel)) (fun _ _ _ _ _ => (pg_tupK (K := K) (n := 2) rfl rfl (pgs_cons (pg_name (i := 2) sc_is_a_memory.nd rfl (Or.inl rfl) (by first | exact Or.inl rfl | exact Or.inr rfl)) (pgs_cons (pg_name (i := 3) sc_is_a_memory.nd rfl (Or.inl rfl) (by first | exact Or.inl rfl | exact Or.inr rfl)) pgs_nil)))) (fun _ _ _ _ _ => pts_nil) (fun _ _ _ _ _ => (pe_cmpR op_lt (pe_ix (ix_seqK (K := K) rfl) (pv 2) (pe_int) (fun _ _ => rfl)) (pe_ix (ix_seqK (K := K) rfl) (pv 3) (pe_int) (fun _ _ => rfl)) (nomark _)))) pa_nil))))), ?_⟩
    try dsimp only [cxOf, Cx.nox, Cx.wish]
    walk_at "sq"
    walk_at "gs"
    refine isi_tup hv sm ?_
    walk_at "gs"
    refine S.iteF rfl ?_
    walk_at "gs"
    refine S.lcS (S.iSeqT ?_)
    walk_at "gs"
    obtain ⟨va, xs, rfl, hva, hds⟩ := dp_tuple hv
    have hxl := dp_len hds
    rw [List.length_map] at hxl
    refine ⟨va, rfl, ⟨_, same_tup sm hva⟩, fun D hD => ?_⟩
    have g0 : Gr [] F H F (upd H D (.lst [])) := Gr.newOwn sm hD
    refine lc_it (walk_tup (K := K) (a := va) (xs := xs)) (fun i H' => H' = upd H D (.lst ((List.replicate i true).map V.bl))) rfl ?_ ?_ ?_
    · rintro i H' _ rfl
      exact same_tup (Gr.newOwn (W := []) sm hD).sub hva
    · rintro i x H' H'' hi rfl ⟨rfl, hx⟩
      obtain ⟨dy, hdy, hyd⟩ := dp_getV hds hx
      rw [List.getElem?_map] at hdy
      obtain ⟨p, hp⟩ : ∃ p, mem[i]? = some p := by
        cases q : mem[i]? with
        | none => rw [q] at hdy; cases hdy
        | some p => exact ⟨p, rfl⟩
      rw [hp] at hdy
      obtain rfl : prZ p = dy := Option.some.inj hdy
      obtain ⟨r1, r2, r3⟩ := hm.rg p (List.mem_of_getElem? hp)
      walk_at "gs"
      refine ⟨rfl, ?_⟩
      refine S.yes (S.iteT rfl ?_)
      walk_at "gs"
      refine ⟨F, x, p, rfl, (Gr.newOwn (W := []) sm hD).sub, hyd, r1, r2, r3, ?_⟩
      refine ⟨_, upd_same, by rw [List.length_map, List.length_replicate]; exact size1000000 (by omega), ?_⟩
      rw [upd_upd, repl_snoc]
    rintro H1 rfl
    have g1 : Gr [] F H F (upd H D (.lst ((List.replicate xs.length true).map V.bl))) := Gr.newOwn sm hD
    have hD1 : upd H D (.lst ((List.replicate xs.length true).map V.bl)) D = _ := upd_same
    generalize upd H D _ = H1 at *
    walk_at "gs"
    refine ⟨D, List.replicate xs.length true, rfl, SqL.of hD1, ?_⟩
    rw [repl_all]
    walk_at "gs"
    refine S.iteF rfl ?_
    walk_at "gs"
    refine S.lcS (S.iZipT ?_)
    walk_at "gs"
    refine S.slFrom (e := 1) (K := K) hv g1.sub fun w F2 H2 g2 hw => ?_
    obtain ⟨wa, ys, rfl, hwa, hwd⟩ := dp_tuple hw
    have g12 := g1.trans g2
    walk_at "gs"
    refine ⟨va, wa, xs, ys, rfl, .inr ⟨same_tup (g12.fs.trans g2.sub) hva, same_tup g2.sub hwa, fun D2 hD2 => ?_⟩⟩
    have hyl := dp_len hwd
    rw [List.length_drop, List.length_map] at hyl
    have fD2 := sub_free g2.sub hD2
    refine lc_it (walk_zipT (K := K) (a := va) (b := wa) (xs := xs) (ys := ys) (n := mem.length - 1) (by omega)) (fun i H' => Gr [] F2 H2 F2 H' ∧ H' D2 = some (.lst ((List.replicate i true).map V.bl))) ⟨Gr.newOwn g2.sub hD2, upd_same⟩ ?_ ?_ ?_
    · rintro i H' _ ⟨g, _⟩
      exact ⟨same_tup (g12.fs.trans g.sub) hva, same_tup g.sub hwa⟩
    · rintro i x H' H'' hi ⟨g, hDD⟩ ⟨T, x1, y1, rfl, hT, rfl, ex, ey⟩
      obtain ⟨dx, hdx, hx⟩ := dp_getV hds ex
      obtain ⟨dy, hdy, hy⟩ := dp_getV hwd ey
      rw [List.getElem?_map] at hdx
      rw [List.getElem?_drop, List.getElem?_map] at hdy
      have hi1 : i < mem.length := by omega
      have hi2 : 1 + i < mem.length := by omega
      rw [List.getElem?_eq_getElem hi1] at hdx
      rw [List.getElem?_eq_getElem hi2] at hdy
      obtain rfl : prZ mem[i] = dx := Option.some.inj hdx
      obtain rfl : prZ mem[1 + i] = dy := Option.some.inj hdy
      have hlt : (mem[i]).1 < (mem[1 + i]).1 := List.pairwise_iff_getElem.mp hm.asc i (1 + i) hi1 hi2 (by omega)
      have g4 : Gr [] F2 H' F2 _ := Gr.newOwn (o := .tup [x1, y1]) g.sub hT
      have hTT : upd H' T (.tup [x1, y1]) T = _ := upd_same
      have hD4 := g4.at0 hDD
      generalize upd H' T _ = H4 at *
      refine S.gTupO hTT rfl ?_
      walk_at "gs"
      refine ⟨rfl, ?_⟩
      refine S.yes (S.iteT rfl ?_)
      walk_at "gs"
      refine S.ixT (K := K) (ds := [.int (mem[i]).1, .int (mem[i]).2]) (hx.to g12.fs) g4.sub (d := .int (mem[i]).1) S.atI_0 fun w0 hw0 => ?_
      obtain rfl := dp_int hw0
      walk_at "gs"
      refine S.ixT (K := K) (ds := [.int (mem[1 + i]).1, .int (mem[1 + i]).2]) hy g4.sub (d := .int (mem[1 + i]).1) S.atI_0 fun w0 hw0 => ?_
      obtain rfl := dp_int hw0
      walk_at "gs"
      rw [decide_eq_true hlt]
      refine ⟨_, hD4, by rw [List.length_map, List.length_replicate]; exact size1000000 (by omega), ?_, ?_⟩
      · exact (g.trans g4).poke hD2 fD2
      · rw [upd_same, repl_snoc]
    rintro H3 ⟨g3, hD3⟩
    walk_at "gs"
    refine ⟨D2, List.replicate (mem.length - 1) true, rfl, SqL.of hD3, ?_⟩
    rw [repl_all]
    exact k F2 H3 (g12.trans g3)

theorem ok_need_memory {P : Program} {w : World} {K : PySem.W.Frag} {mg : Str → Option Value} {base : Heap} {f : Addr} {fd : FuncData} (F : Fun K "need_memory" "need_memory" s_need_memory f fd) (B : Blt mg)
    (c_is_a_memory : Cal P w K mg base CX0 4 "is_a_memory" P_is_a_memory (spIsMem K))
    : FnOk P w K mg base CX0 (4 + 1) f fd P_need_memory (spNeedMem K) := by
  refine F.ok sc_need_memory (fun vs H Q E h => ?_) (fun cdv A outer s H vs Q E hr h => ?_)
  · obtain ⟨F, v, mem, rfl, _⟩ := h; rfl
  · have hu := hu_of hr
    have hu64 := Room.units hr
    obtain ⟨F, v, mem, rfl, sm, hv, hm, k⟩ := h
    refine ⟨_, (pss_one (ps_if (pt_not (pt_val (pe_cal c_is_a_memory (hr.mono (by first | decide | omega)) pass0 (pa_cons (pv 0) pa_nil)))) (pss_one (ps_never)) pss_nil)), ?_⟩
    try dsimp only [cxOf, Cx.nox, Cx.wish]
    walk_at "go"
    refine ⟨F, v, mem, rfl, sm, hv, hm, fun F1 H1 g1 => ?_⟩
    walk_at "go"
    exact S.iteF rfl (S.next (k F1 H1 g1))

theorem ok_kinds_behind {P : Program} {w : World} {K : PySem.W.Frag} {mg : Str → Option Value} {base : Heap} {f : Addr} {fd : FuncData} (F : Fun K "kinds_behind" "kinds_behind" s_kinds_behind f fd) (B : Blt mg)
    {dF : Addr} (FC : FormsC K w dF) (g_FORMS : GV mg "FORMS" (.ref dF))
    : FnOk P w K mg base CX0 (0 + 1) f fd P_kinds_behind (spKinds K) := by
  refine F.ok sc_kinds_behind (fun vs H Q E h => ?_) (fun cdv A outer s H vs Q E hr h => ?_)
  · obtain ⟨F, v, o, n, rfl, _⟩ := h; rfl
  · have hu := hu_of hr
    have hu64 := Room.units hr
    obtain ⟨F, v, o, n, rfl, sm, hd, ok, k⟩ := h
    obtain ⟨ka, hka, hks⟩ := FC.at_ o
    refine ⟨_, (pss_cons (ps_if (PW.pt (pw_or (pt_not (pt_val (pe_callB call_isi rfl B.m_isinstance (by first | exact PySem.boot_isinstance | decide +kernel) (pa_cons (pv 0) (pa_cons (pe_bltn (v := V.ty "tuple") rfl B.m_tuple (by decide +kernel : bootBuiltins "tuple" = some (.type "tuple")) rfl) pa_nil))))) (pw_or (pt_cmpR (op_eqU hu64) (pv 0) (pe_tup pa_nil) (nomark _)) (pw_or1 (pt_not (pt_val (pe_callB call_isi rfl B.m_isinstance (by first | exact PySem.boot_isinstance | decide +kernel) (pa_cons (pe_ix ix_seq (pv 0) (pe_int) (fun _ _ => rfl)) (pa_cons (pe_bltn (v := V.ty "str") rfl B.m_str (by decide +kernel : bootBuiltins "str" = some (.type "str")) rfl) pa_nil))))))))) (pss_one (ps_ret (pe_non))) pss_nil)
      (pss_cons (ps_set (i := 1) sc_kinds_behind.nd rfl (Or.inl rfl) (pe_kget (pe_gv g_FORMS) (pe_ix ix_seq (pv 0) (pe_int) (fun _ _ => rfl)) ⟨rfl, rfl, rfl, rfl⟩))
      (pss_one (ps_ret (pe_ifExp (PW.pt (pw_and (pt_cmpR op_isNotU (pv 1) (pe_non) (nomark _)) (pw_and1 (pt_cmpR (op_eqU hu64) (pe_callB call_lenU rfl B.m_len (by first | exact PySem.boot_len | decide +kernel) (pa_cons (pv 1) pa_nil)) (pe_op op_sub (pe_callB call_lenU rfl B.m_len (by first | exact PySem.boot_len | decide +kernel) (pa_cons (pv 0) pa_nil)) (pe_int)) (nomark _))))) (pv 1) (pe_non)))))), ?_⟩
    try dsimp only [cxOf, Cx.nox, Cx.wish]
    walk_at "sq"
    walk_at "gs"
    refine isi_tup hd sm ?_
    walk_at "gs"
    refine S.iteF rfl ?_
    walk_at "gs"
    refine new_tupG (K := K) (ds := []) sm .nil (by show 0 ≤ sizeLine; decide) fun e0 F1 g1 he0 hv0 => ?_
    generalize upd H e0 _ = H1 at *
    have hd1 := hd.to g1.fs
    refine S.eqD (F := F1) hd1 hv0 g1.sub (ord_shaped ok) (by decide) ?_
    rw [ord_nil]
    walk_at "gs"
    refine S.iteF rfl ?_
    walk_at "gs"
    refine S.ixT (K := K) (ds := .str (wordO o) :: argsO o) hd1 g1.sub (d := .str (wordO o)) S.atI_0 fun w0 hw0 => ?_
    obtain rfl := dp_str hw0
    walk_at "gs"
    refine isi_str (F := F1) (.str _) g1.sub ?_
    walk_at "gs"
    refine S.iteF rfl ?_
    walk_at "go"
    refine S.kget ?_
    walk_at "go"
    refine ⟨dF, rfl, FC.kd, ?_⟩
    walk_at "go"
    refine S.ixT (K := K) (ds := .str (wordO o) :: argsO o) hd1 g1.sub (d := .str (wordO o)) S.atI_0 fun w0 hw0 => ?_
    obtain rfl := dp_str hw0
    refine ⟨wordO o, _, .ref ka, rfl, hka, rfl, ?_⟩
    walk_at "go"
    refine S.iteT rfl ?_
    walk_at "go"
    refine S.lenST (hks _) ?_
    walk_at "go"
    refine S.lenT (K := K) (ds := .str (wordO o) :: argsO o) hd1 g1.sub ?_
    walk_at "go"
    refine S.iteT ?_ ?_
    · rw [decide_eq_true_iff, List.length_map, List.length_cons, args_len]
      omega
    walk_at "go"
    exact k ka F1 H1 g1 hks

theorem ok_is_plain_part {P : Program} {w : World} {K : PySem.W.Frag} {mg : Str → Option Value} {base : Heap} {f : Addr} {fd : FuncData} (F : Fun K "is_plain_part" "is_plain_part" s_is_plain_part f fd) (B : Blt mg)
    {aW : Addr} (hW : ∀ H, SqT K H aW (wordsL.map V.str)) (c_is_register : Cal P w K mg base CX0 2 "is_register" P_is_register spReg) (c_is_figure : Cal P w K mg base CX0 2 "is_figure" P_is_figure spFig) (g_REGISTER : GV mg "REGISTER" (.str "register")) (g_FIGURE : GV mg "FIGURE" (.str "figure")) (g_WORDS : GV mg "WORDS" (.ref aW))
    : FnOk P w K mg base CX0 (2 + 1) f fd P_is_plain_part (spPlainPart) := by
  refine F.ok sc_is_plain_part (fun vs H Q E h => ?_) (fun cdv A outer s H vs Q E hr h => ?_)
  · obtain ⟨kind, x, rfl, _⟩ := h; rfl
  · have hu := hu_of hr
    have hu64 := Room.units hr
    obtain ⟨kind, x, rfl, hp, k⟩ := h
    refine ⟨_, (pss_cons (ps_if (pt_cmpR (op_eqU hu64) (pv 0) (pe_gv g_REGISTER) (nomark _)) (pss_one (ps_ret (pe_cal c_is_register (hr.mono (by first | decide | omega)) pass0 (pa_cons (pv 1) pa_nil)))) pss_nil)
      (pss_cons (ps_if (pt_cmpR (op_eqU hu64) (pv 0) (pe_gv g_FIGURE) (nomark _)) (pss_one (ps_ret (pe_cal c_is_figure (hr.mono (by first | decide | omega)) pass0 (pa_cons (pv 1) pa_nil)))) pss_nil)
      (pss_one (ps_ret (pe_and (pe_callB call_isi rfl B.m_isinstance (by first | exact PySem.boot_isinstance | decide +kernel) (pa_cons (pv 1) (pa_cons (pe_bltn (v := V.ty "str") rfl B.m_str (by decide +kernel : bootBuiltins "str" = some (.type "str")) rfl) pa_nil))) (pe_one (pe_cmpR op_in_seq (pv 1) (pe_gv g_WORDS) (by first | rfl | exact nomark _)))))))), ?_⟩
    try dsimp only [cxOf, Cx.nox, Cx.wish]
    rcases hp with ⟨rfl, r, rfl, hr2⟩ | ⟨rfl, f, rfl, hf⟩ | ⟨rfl, z, rfl, hz⟩
    · walk_at "go"
      refine S.iteT rfl ?_
      walk_at "go"
      exact ⟨r, rfl, hr2, k⟩
    · walk_at "go"
      refine S.iteF rfl ?_
      walk_at "go"
      refine S.iteT rfl ?_
      walk_at "go"
      exact ⟨f, rfl, hf.1, hf.2, k⟩
    · walk_at "go"
      refine S.iteF rfl ?_
      walk_at "go"
      refine S.iteF rfl ?_
      walk_at "go"
      refine isi_str (F := fun _ => none) (.str z) (fun _ _ z => by cases z) ?_
      walk_at "go"
      refine S.iteT rfl ?_
      walk_at "go"
      refine S.inC (hW _) ?_
      rw [decide_eq_true hz]
      exact k

theorem ok_is_order {P : Program} {w : World} {K : PySem.W.Frag} {mg : Str → Option Value} {base : Heap} {f : Addr} {fd : FuncData} (F : Fun K "is_order" "is_order" s_is_order f fd) (B : Blt mg)
    (c_is_from : Cal P w K mg base CX0 1 "is_from" P_is_from (spIsFrom K)) (c_kinds_behind : Cal P w K mg base CX0 1 "kinds_behind" P_kinds_behind (spKinds K)) (c_is_plain_part : Cal P w K mg base CX0 3 "is_plain_part" P_is_plain_part spPlainPart) (g_PLACE : GV mg "PLACE" (.str "place"))
    : FnOk P w K mg base CX0 (3 + 1) f fd P_is_order (spIsOrder K) := by
  refine F.ok sc_is_order (fun vs H Q E h => ?_) (fun cdv A outer s H vs Q E hr h => ?_)
  · obtain ⟨F, v, o, n, rfl, _⟩ := h; rfl
  · have hu := hu_of hr
    have hu64 := Room.units hr
    obtain ⟨F, v, o, n, rfl, sm, hd, ok, k⟩ := h
    refine ⟨_, (pss_cons (ps_set (i := 2) sc_is_order.nd rfl (Or.inl rfl) (pe_cal c_kinds_behind (hr.mono (by first | decide | omega)) pass0 (pa_cons (pv 0) pa_nil)))
      (pss_cons (ps_if (pt_cmpR op_isU (pv 2) (pe_non) (nomark _)) (pss_one (ps_ret (pe_bl))) pss_nil)
      (pss_cons (ps_for PassesOwn.never rfl (RZ.pi_zipA rfl B.m_zip (pa_cons (pv 2) (pa_cons (pe_slice sl_U (pv 0) (po_some (pe_int)) po_none) pa_nil))) (pg_tup rfl (pgs_cons (pg_name (i := 3) sc_is_order.nd rfl (Or.inl rfl) (by first | exact Or.inl rfl | exact Or.inr rfl)) (pgs_cons (pg_name (i := 4) sc_is_order.nd rfl (Or.inl rfl) (by first | exact Or.inl rfl | exact Or.inr rfl)) pgs_nil))) (pss_cons (ps_set (i := 5) sc_is_order.nd rfl (Or.inl rfl) (pe_ifExp (pt_cmpR (op_eqU hu64) (pv 3) (pe_gv g_PLACE) (nomark _)) (pe_cal c_is_from (hr.mono (by first | decide | omega)) pass0 (pa_cons (pv 4) (pa_cons (pe_int) (pa_cons (pe_op op_sub (pv 1) (pe_int)) pa_nil)))) (pe_cal c_is_plain_part (hr.mono (by first | decide | omega)) pass0 (pa_cons (pv 3) (pa_cons (pv 4) pa_nil)))))
      (pss_one (ps_if (pt_not (pt_val (pv 5))) (pss_one (ps_ret (pe_bl))) pss_nil))))
      (pss_one (ps_ret (pe_bl)))))), ?_⟩
    try dsimp only [cxOf, Cx.nox, Cx.wish]
    walk_at "go"
    refine ⟨F, v, o, n, rfl, sm, hd, ok, fun ka F1 H1 g1 hks => ?_⟩
    have hd1 := hd.to g1.fs
    walk_at "go"
    refine S.iteF rfl ?_
    walk_at "go"
    refine S.forS (S.iZipT ?_)
    walk_at "go"
    refine S.slFrom (e := 1) (K := K) (ds := .str (wordO o) :: argsO o) hd1 g1.sub fun u F2 H2 g2 hu2 => ?_
    obtain ⟨ua, ys, rfl, hua, hys⟩ := dp_tuple hu2
    have hyl := dp_len hys
    have hyl2 : ys.length = (argsO o).length := hyl
    have hal := args_len o
    have has := args_small o
    have g12 := g1.trans g2
    walk_at "go"
    refine ⟨ka, ua, _, ys, rfl, .inr ⟨hks _, same_tup g2.sub hua, ?_⟩⟩
    refine for_it (walk_zipT (K := K) (a := ka) (b := ua) (xs := (kindsO o).map V.str) (ys := ys) (n := (argsO o).length) (by rw [List.length_map]; omega)) (fun i σ H' => ∃ o3 o4 o5, Gr [] F2 H2 F2 H' ∧ σ = [some v, some (V.int n), some (V.ref ka), o3, o4, o5]) ?_ ?_ ?_ ?_
    · exact ⟨_, _, _, Gr.refl g2.sub, rfl⟩
    · rintro i σ H' _ ⟨o3, o4, o5, g, _⟩
      exact ⟨hks _, same_tup g.sub hua⟩
    · rintro i x σ H' H'' hi ⟨o3, o4, o5, g, rfl⟩ ⟨T, x1, y1, rfl, hT, rfl, ex, ey⟩
      replace ex : ((kindsO o).map V.str)[i]? = some x1 := ex
      rw [List.getElem?_map] at ex
      obtain ⟨kd, hkd⟩ : ∃ kd, (kindsO o)[i]? = some kd := by
        cases q : (kindsO o)[i]? with
        | none => rw [q] at ex; cases ex
        | some kd => exact ⟨kd, rfl⟩
      rw [hkd] at ex
      obtain rfl : V.str kd = x1 := Option.some.inj ex
      obtain ⟨d, hdd, hy⟩ := dp_getV hys ey
      have hdd2 : (argsO o)[i]? = some d := by simpa using hdd
      have g4 : Gr [] F2 H' F2 _ := Gr.newOwn (o := .tup [V.str kd, y1]) g.sub hT
      have hTT : upd H' T (.tup [V.str kd, y1]) T = _ := upd_same
      have gg := g.trans g4
      generalize upd H' T _ = H4 at *
      refine S.gTupO hTT rfl ?_
      walk_at "go"
      rcases part_ok ok hkd hdd2 with ⟨rfl, p, rfl, p0, p1⟩ | hrest
      · obtain rfl := dp_int hy
        refine S.iteT rfl ?_
        walk_at "go"
        refine ⟨F2, _, .int p, 0, (n : Int) - 1, rfl, gg.sub, .int p, ?_⟩
        rw [from_ok p0 (by omega)]
        walk_at "go"
        refine S.iteF rfl ?_
        exact S.next ⟨_, _, _, gg, rfl⟩
      · have hpl : kd ≠ "place" ∧ PartOk kd y1 := by
          rcases hrest with ⟨rfl, r, rfl, hr2⟩ | ⟨rfl, f, rfl, hf⟩ | ⟨rfl, z, rfl, hz⟩
          · obtain rfl := dp_int hy
            exact ⟨by decide, .inl ⟨rfl, r, rfl, hr2⟩⟩
          · obtain rfl := dp_int hy
            exact ⟨by decide, .inr (.inl ⟨rfl, f, rfl, hf⟩)⟩
          · obtain rfl := dp_str hy
            exact ⟨by decide, .inr (.inr ⟨rfl, z, rfl, hz⟩)⟩
        refine S.iteF (decide_eq_false hpl.1) ?_
        walk_at "go"
        refine ⟨kd, y1, rfl, hpl.2, ?_⟩
        walk_at "go"
        refine S.iteF rfl ?_
        exact S.next ⟨_, _, _, gg, rfl⟩
    · rintro σ H' ⟨o3, o4, o5, g, rfl⟩
      walk_at "go"
      exact k F2 H' (g12.trans g)

theorem ok_is_a_code {P : Program} {w : World} {K : PySem.W.Frag} {mg : Str → Option Value} {base : Heap} {f : Addr} {fd : FuncData} (F : Fun K "is_a_code" "is_a_code" s_is_a_code f fd) (B : Blt mg)
    (c_is_tuple : Cal P w K mg base CX0 1 "is_tuple" P_is_tuple (spIsTuple K)) (c_is_order : Cal P w K mg base CX0 4 "is_order" P_is_order (spIsOrder K)) (g_MOST_ORDERS : GV mg "MOST_ORDERS" (.int 4000))
    : FnOk P w K mg base CX0 (4 + 1) f fd P_is_a_code (spIsCode K) := by
  refine F.ok sc_is_a_code (fun vs H Q E h => ?_) (fun cdv A outer s H vs Q E hr h => ?_)
  · obtain ⟨F, v, code, rfl, _⟩ := h; rfl
  · have hu := hu_of hr
    have hu64 := Room.units hr
    obtain ⟨F, v, code, rfl, sm, hd, ok, k⟩ := h
    have hl1 := ok.l1
    have hl2 := ok.l2
    refine ⟨_, (pss_one (ps_ret (pe_and (pe_cal c_is_tuple (hr.mono (by first | decide | omega)) pass0 (pa_cons (pv 0) (pa_cons (pe_int) (pa_cons (pe_gv g_MOST_ORDERS) pa_nil)))) (pe_one (pe_callB (cr_all rfl) rfl B.m_all (by first | exact PySem.boot_all | decide +kernel) (pa_cons (pe_lc (own := [("order", 1)]) rfl sc_is_a_code.nd (pi_seq (pv 0)) (blkOk_by (N := N_is_a_code) (sc := defScope s_is_a_code) (by decide +kernel)) (fun _ _ _ _ _ => (pg_name (i := 1) sc_is_a_code.nd rfl (Or.inl rfl))) (fun _ _ _ _ _ => pts_nil) (fun _ _ _ _ _ => (pe_cal c_is_order (hr.mono (by first | decide | omega)) pass0 (pa_cons (pv 1) (pa_cons (pe_callB (call_lenUK (K := K) rfl) rfl B.m_len (by first | exact PySem.boot_len | decide +kernel) (pa_cons (pv 0) pa_nil)) pa_nil))))) pa_nil)))))), ?_⟩
    try dsimp only [cxOf, Cx.nox, Cx.wish]
    walk_at "go"
    refine ⟨F, v, _, 1, 4000, rfl, sm, hd, ?_⟩
    rw [tup_ok (by rw [List.length_map]; omega) (by rw [List.length_map]; omega)]
    walk_at "go"
    refine S.iteT rfl ?_
    walk_at "go"
    refine S.lcS (S.iSeqT ?_)
    walk_at "go"
    obtain ⟨va, xs, rfl, hva, hds⟩ := dp_tuple hd
    have hxl := dp_len hds
    rw [List.length_map] at hxl
    refine ⟨va, rfl, ⟨_, same_tup sm hva⟩, fun D hD => ?_⟩
    have fD := sub_free sm hD
    refine lc_it (walk_tup (K := K) (a := va) (xs := xs)) (fun i H' => ∃ F', Gr [] F H F' H' ∧ F' D = none ∧ H' D = some (.lst ((List.replicate i true).map V.bl))) ⟨F, Gr.newOwn sm hD, fD, upd_same⟩ ?_ ?_ ?_
    · rintro i H' _ ⟨F', g, _⟩
      exact same_tup (g.fs.trans g.sub) hva
    · rintro i x H' H'' hi ⟨F', g, fD', hDD⟩ ⟨rfl, hx⟩
      obtain ⟨dy, hdy, hyd⟩ := dp_getV hds hx
      rw [List.getElem?_map] at hdy
      obtain ⟨o, ho⟩ : ∃ p, code[i]? = some p := by
        cases q : code[i]? with
        | none => rw [q] at hdy; cases hdy
        | some p => exact ⟨p, rfl⟩
      rw [ho] at hdy
      obtain rfl : ordD o = dy := Option.some.inj hdy
      walk_at "go"
      refine ⟨rfl, ?_⟩
      refine S.yes (S.iteT rfl ?_)
      walk_at "go"
      refine S.lenST (same_tup (g.fs.trans g.sub) hva) ?_
      rw [hxl]
      refine ⟨F', x, o, code.length, rfl, g.sub, hyd.to g.fs, ok.ok o (List.mem_of_getElem? ho), fun F2 H2 g2 => ?_⟩
      have hD2 := g2.at0 hDD
      have fD2 : F2 D = none := g2.own D fD' (by rw [hDD]; exact fun z => nomatch z)
      refine ⟨_, hD2, by rw [List.length_map, List.length_replicate]; exact size1000000 (by omega), F2, (g.trans g2).poke hD fD2, fD2, ?_⟩
      rw [upd_same, repl_snoc]
    rintro H1 ⟨F1, g1, fD1, hD1⟩
    walk_at "go"
    refine ⟨D, List.replicate xs.length true, rfl, SqL.of hD1, ?_⟩
    rw [repl_all]
    exact k F1 H1 g1

theorem ok_need_code {P : Program} {w : World} {K : PySem.W.Frag} {mg : Str → Option Value} {base : Heap} {f : Addr} {fd : FuncData} (F : Fun K "need_code" "need_code" s_need_code f fd) (B : Blt mg)
    (c_is_tuple : Cal P w K mg base CX0 1 "is_tuple" P_is_tuple (spIsTuple K)) (c_is_order : Cal P w K mg base CX0 4 "is_order" P_is_order (spIsOrder K)) (g_MOST_ORDERS : GV mg "MOST_ORDERS" (.int 4000))
    : FnOk P w K mg base CX0 (4 + 1) f fd P_need_code (spNeedCode K) := by
  refine F.ok sc_need_code (fun vs H Q E h => ?_) (fun cdv A outer s H vs Q E hr h => ?_)
  · obtain ⟨F, v, code, rfl, _⟩ := h; rfl
  · have hu := hu_of hr
    have hu64 := Room.units hr
    obtain ⟨F, v, code, rfl, sm, hd, ok, k⟩ := h
    have hl1 := ok.l1
    have hl2 := ok.l2
    refine ⟨_, (pss_cons (ps_if (pt_not (pt_val (pe_cal c_is_tuple (hr.mono (by first | decide | omega)) pass0 (pa_cons (pv 0) (pa_cons (pe_int) (pa_cons (pe_gv g_MOST_ORDERS) pa_nil)))))) (pss_one (ps_never)) pss_nil)
      (pss_one (ps_for PassesOwn.never rfl (pi_enumT rfl B.m_enumerate (pa_cons (pv 0) pa_nil)) (pg_tup rfl (pgs_cons (pg_name (i := 1) sc_need_code.nd rfl (Or.inl rfl) (by first | exact Or.inl rfl | exact Or.inr rfl)) (pgs_cons (pg_name (i := 2) sc_need_code.nd rfl (Or.inl rfl) (by first | exact Or.inl rfl | exact Or.inr rfl)) pgs_nil))) (pss_one (ps_if (pt_not (pt_val (pe_cal c_is_order (hr.mono (by first | decide | omega)) pass0 (pa_cons (pv 2) (pa_cons (pe_callB call_lenU rfl B.m_len (by first | exact PySem.boot_len | decide +kernel) (pa_cons (pv 0) pa_nil)) pa_nil))))) (pss_one (ps_never)) pss_nil))))), ?_⟩
    try dsimp only [cxOf, Cx.nox, Cx.wish]
    walk_at "go"
    refine ⟨F, v, _, 1, 4000, rfl, sm, hd, ?_⟩
    rw [tup_ok (by rw [List.length_map]; omega) (by rw [List.length_map]; omega)]
    walk_at "go"
    refine S.iteF rfl ?_
    walk_at "go"
    dsimp only
    refine S.forS (S.iEnumT ?_)
    walk_at "go"
    obtain ⟨va, xs, rfl, hva, hds⟩ := dp_tuple hd
    have hxl := dp_len hds
    rw [List.length_map] at hxl
    refine ⟨va, xs, rfl, same_tup sm hva, ?_⟩
    refine for_it (walk_enumT (K := K) (a := va) (xs := xs)) (fun i σ H' => ∃ F' o1 o2, Gr [] F H F' H' ∧ σ = [some (V.ref va), o1, o2]) ?_ ?_ ?_ ?_
    · exact ⟨F, none, none, Gr.refl sm, rfl⟩
    · rintro i σ H' _ ⟨F', o1, o2, g, _⟩
      exact same_tup (g.fs.trans g.sub) hva
    · rintro i x σ H' H'' hi ⟨F', o1, o2, g, rfl⟩ ⟨T, x1, y1, rfl, hT, rfl, ex, ey⟩
      obtain rfl : V.int (i : Nat) = x1 := Option.some.inj ex
      obtain ⟨dy, hdy, hyd⟩ := dp_getV hds ey
      rw [List.getElem?_map] at hdy
      obtain ⟨o, ho⟩ : ∃ p, code[i]? = some p := by
        cases q : code[i]? with
        | none => rw [q] at hdy; cases hdy
        | some p => exact ⟨p, rfl⟩
      rw [ho] at hdy
      obtain rfl : ordD o = dy := Option.some.inj hdy
      have g4 : Gr [] F' H' F' _ := Gr.newOwn (o := .tup [V.int (i : Nat), y1]) g.sub hT
      have hTT : upd H' T (.tup [V.int (i : Nat), y1]) T = _ := upd_same
      have gg := g.trans g4
      generalize upd H' T _ = H4 at *
      refine S.gTupO hTT rfl ?_
      walk_at "go"
      refine S.lenST (same_tup (gg.fs.trans gg.sub) hva) ?_
      rw [hxl]
      refine ⟨F', y1, o, code.length, rfl, gg.sub, hyd.to gg.fs, ok.ok o (List.mem_of_getElem? ho), fun F2 H2 g2 => ?_⟩
      walk_at "go"
      refine S.iteF rfl ?_
      exact S.next ⟨F2, _, _, gg.trans g2, rfl⟩
    · rintro σ H' ⟨F', o1, o2, g, rfl⟩
      exact k F' H' g

theorem ok_Spot___init__ {P : Program} {w : World} {K : PySem.W.Frag} {mg : Str → Option Value} {base : Heap} {f : Addr} {fd : FuncData} (F : Fun K "__init__" "Spot.__init__" s_Spot___init__ f fd) (B : Blt mg)
    {C4 : Addr} (TS : SpC K C4)
    : FnOk P w K mg base CX0 (0 + 1) f fd P_Spot___init__ (spSpotInit K C4) := by
  refine F.ok sc_Spot___init__ (fun vs H Q E h => ?_) (fun cdv A outer s H vs Q E hr h => ?_)
  · obtain ⟨F, sp, dx, v2, v3, m, rfl, _⟩ := h; rfl
  · have hu := hu_of hr
    have hu64 := Room.units hr
    have cl_Spot := TS.cl
    obtain ⟨F, sp, dx, v2, v3, m, rfl, sm, fsp, hsp, h2, h3, k⟩ := h
    obtain ⟨a2, xs2, rfl, ha2, hx2⟩ := dp_tuple h2
    obtain ⟨a3, xs3, rfl, ha3, hx3⟩ := dp_tuple h3
    obtain rfl := dp_ints_inv hx2
    obtain rfl := dp_ints_inv hx3
    refine ⟨_, (pss_cons (ps_fld (pv 0) (pv 1) rfl)
      (pss_cons (ps_fld (pv 0) (pe_callTy call_list_of rfl B.m_list (by decide +kernel) (pa_cons (pv 2) pa_nil)) rfl)
      (pss_one (ps_fld (pv 0) (pe_callTy call_list_of rfl B.m_list (by decide +kernel) (pa_cons (pv 3) pa_nil)) rfl)))), ?_⟩
    try dsimp only [cxOf, Cx.nox, Cx.wish]
    walk_at "go"
    refine ⟨sp, C4, dx, _, rfl, hsp, TS.cl, TS.n1, (by show 0 < 1000; decide), ?_⟩
    rw [show putF "at" (V.int m.at_) [] = [(("at" : Str), V.int m.at_)] from rfl]
    have g1 : Gr [sp] F H F _ := gr_put (o := .ins C4 dx [(("at" : Str), V.int m.at_)]) sm fsp
    have hsp1 : upd H sp (.ins C4 dx [(("at" : Str), V.int m.at_)]) sp = _ := upd_same
    generalize upd H sp _ = H1 at *
    walk_at "go"
    refine ⟨a2, _, rfl, .inr (same_tup g1.sub ha2), fun ra hra => ?_⟩
    have fra := sub_free g1.sub hra
    have g2 : Gr [sp] F H F _ := g1.trans (Gr.newOwn (o := .lst (m.regs.map V.int)) g1.sub hra)
    have nrs : ra ≠ sp := fun z => by rw [z, hsp1] at hra; cases hra
    have hsp2 := (upd_ne (o := .lst (m.regs.map V.int)) (H := H1) nrs.symm).trans hsp1
    have hra2 : upd H1 ra (.lst (m.regs.map V.int)) ra = _ := upd_same
    have hHra := g1.free hra
    generalize upd H1 ra _ = H2 at *
    walk_at "go"
    refine ⟨sp, C4, dx, _, rfl, hsp2, TS.cl, TS.n2, (by show 1 < 1000; decide), ?_⟩
    rw [show putF "registers" (V.ref ra) [(("at" : Str), V.int m.at_)] = [(("at" : Str), V.int m.at_), (("registers" : Str), V.ref ra)] from rfl]
    have g3 := g2.put (q := sp) (o := .ins C4 dx [(("at" : Str), V.int m.at_), (("registers" : Str), V.ref ra)]) (by simp) fsp
    have hsp3 : upd H2 sp (.ins C4 dx [(("at" : Str), V.int m.at_), (("registers" : Str), V.ref ra)]) sp = _ := upd_same
    have hra3 := (upd_ne (o := .ins C4 dx [(("at" : Str), V.int m.at_), (("registers" : Str), V.ref ra)]) (H := H2) nrs).trans hra2
    generalize upd H2 sp _ = H3 at *
    walk_at "go"
    refine ⟨a3, _, rfl, .inr (same_tup g3.sub ha3), fun ca hca => ?_⟩
    have fca := sub_free g3.sub hca
    have g4 : Gr [sp] F H F _ := g3.trans (Gr.newOwn (o := .lst (m.calls.map V.int)) g3.sub hca)
    have ncs : ca ≠ sp := fun z => by rw [z, hsp3] at hca; cases hca
    have ncr : ca ≠ ra := fun z => by rw [z, hra3] at hca; cases hca
    have hsp4 := (upd_ne (o := .lst (m.calls.map V.int)) (H := H3) ncs.symm).trans hsp3
    have hra4 := (upd_ne (o := .lst (m.calls.map V.int)) (H := H3) ncr.symm).trans hra3
    have hca4 : upd H3 ca (.lst (m.calls.map V.int)) ca = _ := upd_same
    have hHca := g3.free hca
    generalize upd H3 ca _ = H4 at *
    walk_at "go"
    refine ⟨sp, C4, dx, _, rfl, hsp4, TS.cl, TS.n3, (by show 2 < 1000; decide), ?_⟩
    rw [show putF "calls" (V.ref ca) [(("at" : Str), V.int m.at_), (("registers" : Str), V.ref ra)] = spF m.at_ ra ca from rfl]
    have g5 := g4.put (q := sp) (o := .ins C4 dx (spF m.at_ ra ca)) (by simp) fsp
    have hra5 := (upd_ne (o := .ins C4 dx (spF m.at_ ra ca)) (H := H4) nrs).trans hra4
    have hca5 := (upd_ne (o := .ins C4 dx (spF m.at_ ra ca)) (H := H4) ncs).trans hca4
    refine S.next (k _ ra ca g5 hHra hHca ⟨⟨dx, upd_same⟩, hra5, hca5, by simp [nrs.symm, ncs.symm, ncr.symm], fun x hx => ?_⟩)
    simp only [List.mem_cons, List.not_mem_nil, or_false] at hx
    rcases hx with rfl | rfl | rfl
    · exact fsp
    · exact fra
    · exact fca

theorem ok_address_in {P : Program} {w : World} {K : PySem.W.Frag} {mg : Str → Option Value} {base : Heap} {f : Addr} {fd : FuncData} (F : Fun K "address_in" "address_in" s_address_in f fd) (B : Blt mg)
    : FnOk P w K mg base CX0 (0 + 1) f fd P_address_in (spAddrIn K) := by
  refine F.ok sc_address_in (fun vs H Q E h => ?_) (fun cdv A outer s H vs Q E hr h => ?_)
  · obtain ⟨F, v, o, ra, m, n, rfl, _⟩ := h; rfl
  · have hu := hu_of hr
    have hu64 := Room.units hr
    obtain ⟨F, v, o, ra, m, n, rfl, sm, hd, hm, ok, hra, k⟩ := h
    refine ⟨_, (pss_one (ps_ret (pe_ifExp (pt_cmpR (op_eqU hu64) (pe_ix ix_seq (pv 0) (pe_int) (fun _ _ => rfl)) (pe_str) (nomark _)) (pe_ix ix_seq (pv 1) (pe_ix ix_seq (pv 0) (pe_int) (fun _ _ => rfl)) (fun _ _ => rfl)) (pe_ix ix_seq (pv 1) (pe_ix ix_seq (pv 0) (pe_int) (fun _ _ => rfl)) (fun _ _ => rfl))))), ?_⟩
    try dsimp only [cxOf, Cx.nox, Cx.wish]
    rcases k with ⟨a, b, rfl, k⟩ | ⟨a, b, rfl, k⟩
    · walk_at "go"
      refine S.ixT (K := K) (ds := [.str "load", .int a, .int b]) hd sm (d := .str "load") S.atI_0 fun w0 hw0 => ?_
      obtain rfl := dp_str hw0
      walk_at "go"
      refine S.iteT rfl ?_
      walk_at "go"
      refine S.ixT (K := K) (ds := [.str "load", .int a, .int b]) hd sm (d := .int b) S.atI_2 fun w0 hw0 => ?_
      obtain rfl := dp_int hw0
      exact ixR hm hra ok.2 k
    · walk_at "go"
      refine S.ixT (K := K) (ds := [.str "store", .int a, .int b]) hd sm (d := .str "store") S.atI_0 fun w0 hw0 => ?_
      obtain rfl := dp_str hw0
      walk_at "go"
      refine S.iteF rfl ?_
      walk_at "go"
      refine S.ixT (K := K) (ds := [.str "store", .int a, .int b]) hd sm (d := .int a) S.atI_1 fun w0 hw0 => ?_
      obtain rfl := dp_int hw0
      exact ixR hm hra ok.1 k

theorem ok_halting {P : Program} {w : World} {K : PySem.W.Frag} {mg : Str → Option Value} {base : Heap} {f : Addr} {fd : FuncData} (F : Fun K "halting" "halting" s_halting f fd) (B : Blt mg)
    {C4 : Addr} (TS : SpC K C4) (c_address_in : Cal P w K mg base CX0 1 "address_in" P_address_in (spAddrIn K)) (g_MOST_NUMBER : GV mg "MOST_NUMBER" (.int 256)) (g_MOST_CALLS : GV mg "MOST_CALLS" (.int 32)) (g_CELLS : GV mg "CELLS" (.int 4096))
    : FnOk P w K mg base CX0 (1 + 1) f fd P_halting (spHalting K C4) := by
  refine F.ok sc_halting (fun vs H Q E h => ?_) (fun cdv A outer s H vs Q E hr h => ?_)
  · obtain ⟨F, v, code, sp, m, ra, ca, rfl, _⟩ := h; rfl
  · have hu := hu_of hr
    have hu64 := Room.units hr
    obtain ⟨F, v, code, sp, m, ra, ca, rfl, sm, hc, ok, hS, mok, k⟩ := h
    obtain ⟨dx, hsp⟩ := hS.ob
    have a0 := mok.a0
    refine ⟨_, (pss_cons (ps_if (pt_cmpR (op_eqU hu64) (pe_fld (pv 1) rfl) (pe_callB call_lenU rfl B.m_len (by first | exact PySem.boot_len | decide +kernel) (pa_cons (pv 0) pa_nil)) (nomark _)) (pss_one (ps_ret (pe_tup (pa_cons (pe_str) (pa_cons (pe_str) pa_nil))))) pss_nil)
      (pss_cons (ps_set (i := 2) sc_halting.nd rfl (Or.inl rfl) (pe_ix ix_seq (pv 0) (pe_fld (pv 1) rfl) (fun _ _ => rfl)))
      (pss_cons (ps_set (i := 3) sc_halting.nd rfl (Or.inl rfl) (pe_ix ix_seq (pv 2) (pe_int) (fun _ _ => rfl)))
      (pss_cons (ps_if (pt_cmpR (op_eqU hu64) (pv 3) (pe_str) (nomark _)) (pss_one (ps_ret (pe_tup (pa_cons (pe_str) (pa_cons (pe_op op_mod (pe_callTy call_int1 rfl B.m_int (by decide +kernel) (pa_cons (pe_ix ix_seq (pe_fld (pv 1) rfl) (pe_int) (fun _ _ => rfl)) pa_nil)) (pe_gv g_MOST_NUMBER)) pa_nil))))) pss_nil)
      (pss_cons (ps_if (pt_cmpR (op_eqU hu64) (pv 3) (pe_str) (nomark _)) (pss_one (ps_ret (pe_tup (pa_cons (pe_str) (pa_cons (pe_ix ix_seq (pv 2) (pe_int) (fun _ _ => rfl)) pa_nil))))) pss_nil)
      (pss_cons (ps_if (PW.pt (pw_or (PW.pt (pw_and (pt_cmpR (op_eqU hu64) (pv 3) (pe_str) (nomark _)) (pw_and1 (pt_cmpR (op_eqU hu64) (pe_callB call_lenU rfl B.m_len (by first | exact PySem.boot_len | decide +kernel) (pa_cons (pe_fld (pv 1) rfl) pa_nil)) (pe_gv g_MOST_CALLS) (nomark _))))) (pw_or1 (PW.pt (pw_and (pt_cmpR (op_eqU hu64) (pv 3) (pe_str) (nomark _)) (pw_and1 (pt_cmpR (op_eqU hu64) (pe_callB call_lenU rfl B.m_len (by first | exact PySem.boot_len | decide +kernel) (pa_cons (pe_fld (pv 1) rfl) pa_nil)) (pe_int) (nomark _)))))))) (pss_one (ps_ret (pe_tup (pa_cons (pe_str) (pa_cons (pe_str) pa_nil))))) pss_nil)
      (pss_cons (ps_if (PW.pt (pw_and (pt_cmpR op_in_seq (pv 3) (pe_tup (pa_cons (pe_str) (pa_cons (pe_str) pa_nil))) (by first | rfl | exact nomark _)) (pw_and1 (pt_cmpR op_ge (pe_cal c_address_in (hr.mono (by first | decide | omega)) pass0 (pa_cons (pv 2) (pa_cons (pe_fld (pv 1) rfl) pa_nil))) (pe_gv g_CELLS) (nomark _))))) (pss_one (ps_ret (pe_tup (pa_cons (pe_str) (pa_cons (pe_str) pa_nil))))) pss_nil)
      (pss_one (ps_ret (pe_non)))))))))), ?_⟩
    try dsimp only [cxOf, Cx.nox, Cx.wish]
    walk_at "go"
    refine fld_of hsp TS.cl TS.n1 (lk_at ..) ?_
    walk_at "go"
    refine S.lenT (K := K) (ds := code.map ordD) hc sm ?_
    walk_at "go"
    rcases at_some mok with ⟨e1, e2⟩ | ⟨hl, o, e2, ho⟩
    · refine S.iteT (by rw [decide_eq_true_iff, List.length_map]; exact e1) ?_
      have eh : haltR code m = some (.fault "order") := by unfold haltR; rw [e2]
      rw [eh] at k
      walk_at "go"
      refine new_tupG (K := K) (ds := [.str "fault", .str "order"]) sm (.cons (.str _) (.cons (.str _) .nil)) (by show 2 ≤ sizeLine; decide) fun t F1 g1 ht hv => ?_
      exact k _ F1 _ g1 hv
    · refine S.iteF (by rw [decide_eq_false_iff_not, List.length_map]; omega) ?_
      have eh : haltR code m = haltO o m := by unfold haltR; rw [e2]
      rw [eh] at k
      have oko := ok.ok o ho
      walk_at "go"
      refine fld_of hsp TS.cl TS.n1 (lk_at ..) ?_
      refine S.ixT (K := K) (ds := code.map ordD) hc sm (d := ordD o) (ord_at (K := K) a0 e2) fun w0 hw0 => ?_
      walk_at "go"
      refine S.ixT (K := K) (ds := .str (wordO o) :: argsO o) hw0 sm (d := .str (wordO o)) S.atI_0 fun w1 hw1 => ?_
      obtain rfl := dp_str hw1
      walk_at "go"
      have fault : ∀ {s : Str} {H' : Hp}, Gr [] F H F H' → haltO o m = some (.fault s) → ([V.str "fault", V.str s].length ≤ sizeLine ∧ ∀ p, H' p = none → Q (.ref p) (upd H' p (.tup [V.str "fault", V.str s]))) := fun {s H'} g e => by
        rw [e] at k
        refine new_tupG (K := K) (ds := [.str "fault", .str s]) g.sub (.cons (.str _) (.cons (.str _) .nil)) (by show 2 ≤ sizeLine; decide) fun t F1 g1 ht hv => ?_
        exact k _ F1 _ (g.trans g1) hv
      cases o
      case stop =>
        walk_at "gd"
        refine fld_of hsp TS.cl TS.n2 (lk_regs ..) ?_
        refine ixR mok hS.rl (i := 0) ⟨by decide, by decide⟩ ?_
        walk_at "go"
        refine .inl ⟨_, rfl, ?_⟩
        walk_at "go"
        refine S.rI (by decide) ?_
        walk_at "go"
        refine new_tupG (K := K) (ds := [.str "stops", .int (reg m 0 % 256)]) sm (.cons (.str _) (.cons (.int _) .nil)) (by show 2 ≤ sizeLine; decide) fun t F1 g1 ht hv => ?_
        exact k _ F1 _ g1 hv
      case ask w =>
        walk_at "gd"
        refine S.ixT (K := K) (ds := [.str "ask", .str w]) hw0 sm (d := .str w) S.atI_1 fun w2 hw2 => ?_
        obtain rfl := dp_str hw2
        walk_at "gd"
        refine new_tupG (K := K) (ds := [.str "asks", .str w]) sm (.cons (.str _) (.cons (.str _) .nil)) (by show 2 ≤ sizeLine; decide) fun t F1 g1 ht hv => ?_
        exact k _ F1 _ g1 hv
      case call p =>
        walk_at "gd"
        refine fld_of hsp TS.cl TS.n3 (lk_calls ..) ?_
        walk_at "gd"
        refine S.lenSL (SqL.of hS.cl) ?_
        walk_at "gd"
        refine S.ite (fun e => ?_) (fun e => ?_)
        · rw [decide_eq_true_iff, List.length_map] at e
          walk_at "gd"
          exact fault (Gr.refl sm) (if_pos (by omega))
        · rw [decide_eq_false_iff_not, List.length_map] at e
          have hn : haltO (.call p) m = none := if_neg (by omega)
          rw [hn] at k
          walk_at "gd"
          refine S.inX ["load", "store"] sm rfl (by decide) fun H1 g1 => ?_
          walk_at "gd"
          exact k F H1 g1
      case back =>
        walk_at "gd"
        refine fld_of hsp TS.cl TS.n3 (lk_calls ..) ?_
        walk_at "gd"
        refine S.lenSL (SqL.of hS.cl) ?_
        walk_at "gd"
        refine S.ite (fun e => ?_) (fun e => ?_)
        · rw [decide_eq_true_iff, List.length_map] at e
          walk_at "gd"
          exact fault (Gr.refl sm) (if_pos (by omega))
        · rw [decide_eq_false_iff_not, List.length_map] at e
          have hn : haltO .back m = none := if_neg (by omega)
          rw [hn] at k
          walk_at "gd"
          refine S.inX ["load", "store"] sm rfl (by decide) fun H1 g1 => ?_
          walk_at "gd"
          exact k F H1 g1
      case load a b =>
        walk_at "gd"
        refine S.inX ["load", "store"] sm rfl (by decide) fun H1 g1 => ?_
        obtain ⟨dx1, hsp1⟩ := (hS.gr g1 (fun _ _ z => nomatch z)).ob
        walk_at "gd"
        refine fld_of hsp1 TS.cl TS.n2 (lk_regs ..) ?_
        walk_at "gd"
        refine ⟨F, w0, .load a b, ra, m, code.length, rfl, g1.sub, hw0, mok, oko, g1.at0 hS.rl, .inl ⟨a, b, rfl, ?_⟩⟩
        walk_at "gd"
        refine S.ite (fun e => ?_) (fun e => ?_)
        · rw [decide_eq_true_iff] at e
          walk_at "gd"
          exact fault g1 (if_pos e)
        · rw [decide_eq_false_iff_not] at e
          have hn : haltO (.load a b) m = none := if_neg e
          rw [hn] at k
          walk_at "gd"
          exact k F H1 g1
      case store a b =>
        walk_at "gd"
        refine S.inX ["load", "store"] sm rfl (by decide) fun H1 g1 => ?_
        obtain ⟨dx1, hsp1⟩ := (hS.gr g1 (fun _ _ z => nomatch z)).ob
        walk_at "gd"
        refine fld_of hsp1 TS.cl TS.n2 (lk_regs ..) ?_
        walk_at "gd"
        refine ⟨F, w0, .store a b, ra, m, code.length, rfl, g1.sub, hw0, mok, oko, g1.at0 hS.rl, .inr ⟨a, b, rfl, ?_⟩⟩
        walk_at "gd"
        refine S.ite (fun e => ?_) (fun e => ?_)
        · rw [decide_eq_true_iff] at e
          walk_at "gd"
          exact fault g1 (if_pos e)
        · rw [decide_eq_false_iff_not] at e
          have hn : haltO (.store a b) m = none := if_neg e
          rw [hn] at k
          walk_at "gd"
          exact k F H1 g1
      case ar z a b c =>
        cases z
        all_goals
          walk_at "gd"
          refine S.inX ["load", "store"] sm rfl (by decide) fun H1 g1 => ?_
          walk_at "gd"
          exact k F H1 g1
      all_goals
        walk_at "gd"
        refine S.inX ["load", "store"] sm rfl (by decide) fun H1 g1 => ?_
        walk_at "gd"
        exact k F H1 g1

theorem ok_joined {P : Program} {w : World} {K : PySem.W.Frag} {mg : Str → Option Value} {base : Heap} {f : Addr} {fd : FuncData} (F : Fun K "joined" "joined" s_joined f fd) (B : Blt mg)
    (g_MODULUS : GV mg "MODULUS" (.int 65536))
    : FnOk P w K mg base CX0 (0 + 1) f fd P_joined (spJoined) := by
  refine F.ok sc_joined (fun vs H Q E h => ?_) (fun cdv A outer s H vs Q E hr h => ?_)
  · obtain ⟨z, a, b, rfl, _⟩ := h; rfl
  · have hu := hu_of hr
    have hu64 := Room.units hr
    obtain ⟨z, a, b, rfl, ha, hb, k⟩ := h
    refine ⟨_, (pss_cons (ps_if (pt_cmpR (op_eqU hu64) (pv 0) (pe_str) (nomark _)) (pss_one (ps_ret (pe_op op_mod (pe_callTy call_int1 rfl B.m_int (by decide +kernel) (pa_cons (pe_op op_addU (pv 1) (pv 2)) pa_nil)) (pe_gv g_MODULUS)))) pss_nil)
      (pss_cons (ps_if (pt_cmpR (op_eqU hu64) (pv 0) (pe_str) (nomark _)) (pss_one (ps_ret (pe_op op_mod (pe_callTy call_int1 rfl B.m_int (by decide +kernel) (pa_cons (pe_op op_sub (pv 1) (pv 2)) pa_nil)) (pe_gv g_MODULUS)))) pss_nil)
      (pss_cons (ps_if (pt_cmpR (op_eqU hu64) (pv 0) (pe_str) (nomark _)) (pss_one (ps_ret (pe_op op_mod (pe_callTy call_int1 rfl B.m_int (by decide +kernel) (pa_cons (pe_op op_mulW (pv 1) (pv 2)) pa_nil)) (pe_gv g_MODULUS)))) pss_nil)
      (pss_cons (ps_if (pt_cmpR (op_eqU hu64) (pv 0) (pe_str) (nomark _)) (pss_one (ps_ret (pe_op op_and (pv 1) (pv 2)))) pss_nil)
      (pss_cons (ps_if (pt_cmpR (op_eqU hu64) (pv 0) (pe_str) (nomark _)) (pss_one (ps_ret (pe_op op_or (pv 1) (pv 2)))) pss_nil)
      (pss_one (ps_ret (pe_ifExp (pt_cmpR (op_eqU hu64) (pv 0) (pe_str) (nomark _)) (pe_callTy call_int1 rfl B.m_int (by decide +kernel) (pa_cons (pe_cmpR op_lt (pv 1) (pv 2) (nomark _)) pa_nil)) (pe_callTy call_int1 rfl B.m_int (by decide +kernel) (pa_cons (pe_cmpR (op_eqU hu64) (pv 1) (pv 2) (nomark _)) pa_nil)))))))))), ?_⟩
    try dsimp only [cxOf, Cx.nox, Cx.wish]
    have w0 : a.natAbs < 2 ^ 16 := abs_lt (n := 16) ha.1 (by have := ha.2; show a < 65536; omega)
    have w1 : b.natAbs < 2 ^ 16 := abs_lt (n := 16) hb.1 (by have := hb.2; show b < 65536; omega)
    cases z with
    | add =>
      walk_at "go"
      refine S.iteT (by decide) ?_
      walk_at "go"
      refine .inl ⟨_, rfl, ?_⟩
      walk_at "go"
      exact S.rI (by decide) k
    | sub =>
      walk_at "go"
      refine S.iteF (by decide) ?_
      walk_at "go"
      refine S.iteT (by decide) ?_
      walk_at "go"
      refine .inl ⟨_, rfl, ?_⟩
      walk_at "go"
      exact S.rI (by decide) k
    | mul =>
      walk_at "go"
      refine S.iteF (by decide) ?_
      walk_at "go"
      refine S.iteF (by decide) ?_
      walk_at "go"
      refine S.iteT (by decide) ?_
      walk_at "go"
      refine S.rI (wide_mul w0 w1 (by decide) (by decide) (by decide)) ?_
      walk_at "go"
      refine .inl ⟨_, rfl, ?_⟩
      walk_at "go"
      exact S.rI (by decide) k
    | and =>
      walk_at "go"
      refine S.iteF (by decide) ?_
      walk_at "go"
      refine S.iteF (by decide) ?_
      walk_at "go"
      refine S.iteF (by decide) ?_
      walk_at "go"
      refine S.iteT (by decide) ?_
      walk_at "go"
      exact k
    | or =>
      walk_at "go"
      refine S.iteF (by decide) ?_
      walk_at "go"
      refine S.iteF (by decide) ?_
      walk_at "go"
      refine S.iteF (by decide) ?_
      walk_at "go"
      refine S.iteF (by decide) ?_
      walk_at "go"
      refine S.iteT (by decide) ?_
      walk_at "go"
      exact k
    | less =>
      walk_at "go"
      refine S.iteF (by decide) ?_
      walk_at "go"
      refine S.iteF (by decide) ?_
      walk_at "go"
      refine S.iteF (by decide) ?_
      walk_at "go"
      refine S.iteF (by decide) ?_
      walk_at "go"
      refine S.iteF (by decide) ?_
      walk_at "go"
      refine S.iteT (by decide) ?_
      walk_at "go"
      refine .inr ⟨_, rfl, ?_⟩
      rw [show (V.int (if decide (a < b) = true then 1 else 0)) = V.int (calcA .less a b) by show V.int (if decide (a < b) = true then 1 else 0) = V.int (if a < b then 1 else 0); simp]
      exact k
    | same =>
      walk_at "go"
      refine S.iteF (by decide) ?_
      walk_at "go"
      refine S.iteF (by decide) ?_
      walk_at "go"
      refine S.iteF (by decide) ?_
      walk_at "go"
      refine S.iteF (by decide) ?_
      walk_at "go"
      refine S.iteF (by decide) ?_
      walk_at "go"
      refine S.iteF (by decide) ?_
      walk_at "go"
      refine .inr ⟨_, rfl, ?_⟩
      rw [show (V.int (if decide (a = b) = true then 1 else 0)) = V.int (calcA .same a b) by show V.int (if decide (a = b) = true then 1 else 0) = V.int (if a = b then 1 else 0); simp]
      exact k

theorem ok_PlainCells___init__ {P : Program} {w : World} {K : PySem.W.Frag} {mg : Str → Option Value} {base : Heap} {f : Addr} {fd : FuncData} (F : Fun K "__init__" "PlainCells.__init__" s_PlainCells___init__ f fd) (B : Blt mg)
    {C6 : Addr} (TC : PcC K C6) (c_memory_dict : Cal P w K mg base CX0 1 "memory_dict" P_memory_dict (spMDict))
    : FnOk P w K mg base CX0 (1 + 1) f fd P_PlainCells___init__ (spPcInit C6) := by
  refine F.ok sc_PlainCells___init__ (fun vs H Q E h => ?_) (fun cdv A outer s H vs Q E hr h => ?_)
  · obtain ⟨F, pc, dx, v, mem, rfl, _⟩ := h; rfl
  · have hu := hu_of hr
    have hu64 := Room.units hr
    have cl_PlainCells := TC.cl
    obtain ⟨F, pc, dx, v, mem, rfl, sm, fpc, hpc, hv, hm, k⟩ := h
    refine ⟨_, (pss_one (ps_fld (pv 0) (pe_cal c_memory_dict (hr.mono (by first | decide | omega)) pass0 (pa_cons (pv 1) pa_nil)) rfl)), ?_⟩
    try dsimp only [cxOf, Cx.nox, Cx.wish]
    walk_at "go"
    refine ⟨F, v, mem, rfl, sm, hv, hm, fun kd H1 g1 hkd fkd hkd1 => ?_⟩
    have hpc1 := g1.at0 hpc
    have nkp : kd ≠ pc := fun z => by rw [z, hpc] at hkd; cases hkd
    walk_at "go"
    refine ⟨pc, C6, dx, _, rfl, hpc1, TC.cl, TC.n1, (by show 0 < 1000; decide), ?_⟩
    rw [show putF "kept" (V.ref kd) [] = [(("kept" : Str), V.ref kd)] from rfl]
    have g2 : Gr [pc] F H F _ := g1.any.put (q := pc) (o := .ins C6 dx [(("kept" : Str), V.ref kd)]) (by simp) fpc
    exact S.next (k _ kd g2 hkd ⟨⟨dx, upd_same⟩, (upd_ne nkp).trans hkd1, nkp.symm, fpc, fkd⟩)

theorem ok_PlainCells_load {P : Program} {w : World} {K : PySem.W.Frag} {mg : Str → Option Value} {base : Heap} {f : Addr} {fd : FuncData} (F : Fun K "load" "PlainCells.load" s_PlainCells_load f fd) (B : Blt mg)
    {C6 : Addr} (TC : PcC K C6)
    : FnOk P w K mg base CX0 (0 + 1) f fd P_PlainCells_load (spPcLoad C6) := by
  refine F.ok sc_PlainCells_load (fun vs H Q E h => ?_) (fun cdv A outer s H vs Q E hr h => ?_)
  · obtain ⟨F, pc, kd, a, kept, mem, rfl, _⟩ := h; rfl
  · have hu := hu_of hr
    have hu64 := Room.units hr
    have cl_PlainCells := TC.cl
    obtain ⟨F, pc, kd, a, kept, mem, rfl, hP, hK, k⟩ := h
    obtain ⟨dx, hpc⟩ := hP.ob
    refine ⟨_, (pss_one (ps_ret (pe_dget2 hu (pe_fld (pv 0) rfl) (pv 1) (pe_int) ⟨rfl, rfl, rfl, rfl⟩))), ?_⟩
    try dsimp only [cxOf, Cx.nox, Cx.wish]
    walk_at "go"
    refine S.dget2 ?_
    walk_at "go"
    refine fld_of hpc TC.cl TC.n1 rfl ?_
    refine ⟨kd, rfl, .inl ⟨_, .inl hP.kp⟩, ?_⟩
    walk_at "go"
    refine ⟨_, DGet.k (k := Sum.inl a) hP.kp, ?_⟩
    rw [valV_kM]
    have e : ((getA kept a).map V.int).getD (.int 0) = .int (getM mem a) := by
      rw [← hK.ev a]
      cases getA kept a <;> rfl
    rw [e]
    exact k

theorem ok_PlainCells_store {P : Program} {w : World} {K : PySem.W.Frag} {mg : Str → Option Value} {base : Heap} {f : Addr} {fd : FuncData} (F : Fun K "store" "PlainCells.store" s_PlainCells_store f fd) (B : Blt mg)
    {C6 : Addr} (TC : PcC K C6)
    : FnOk P w K mg base CX0 (0 + 1) f fd P_PlainCells_store (spPcStore C6) := by
  refine F.ok sc_PlainCells_store (fun vs H Q E h => ?_) (fun cdv A outer s H vs Q E hr h => ?_)
  · obtain ⟨F, pc, kd, a, f, kept, mem, rfl, _⟩ := h; rfl
  · have hu := hu_of hr
    have hu64 := Room.units hr
    have cl_PlainCells := TC.cl
    obtain ⟨F, pc, kd, a, f, kept, mem, rfl, sm, hP, hK, hm, ha, hf, k⟩ := h
    obtain ⟨dx, hpc⟩ := hP.ob
    have hkl := hK.len
    have mk : ∀ kept', PcAt C6 F (upd H kd (.dK (kM V.int kept'))) pc kd kept' := fun kept' => ⟨⟨dx, (upd_ne hP.nd).trans hpc⟩, upd_same, hP.nd, hP.off⟩
    have gk : ∀ kept', Gr [kd] F H F (upd H kd (.dK (kM V.int kept'))) := fun kept' => gr_put sm hP.off.2
    refine ⟨_, (pss_one (ps_if (pt_cmpR (op_eqU hu64) (pv 2) (pe_int) (nomark _)) (pss_one (ps_expr (pe_dpop2 (pe_fld (pv 0) rfl) (pv 1) (pe_non) ⟨rfl, rfl, rfl, rfl⟩))) (pss_one (ps_dput hu (pe_fld (pv 0) rfl) (pv 1) (pv 2) rfl)))), ?_⟩
    try dsimp only [cxOf, Cx.nox, Cx.wish]
    walk_at "go"
    refine S.ite (fun e => ?_) (fun e => ?_)
    · have e' : f = 0 := of_decide_eq_true e
      subst e'
      walk_at "go"
      refine fld_of hpc TC.cl TC.n1 rfl ?_
      refine ⟨kd, rfl, .inl ⟨_, .inl hP.kp⟩, ?_⟩
      walk_at "go"
      refine ⟨_, Sum.inl a, hP.kp, rfl, fun v hv => ?_, fun hv => ?_⟩
      · rw [dropK_kM]
        walk_at "go"
        exact k _ _ (gk _) (mk _) (hK.drop hm ha)
      · walk_at "go"
        rw [valV_kM] at hv
        have hn : getA kept a = none := by
          cases q : getA kept a with
          | none => rfl
          | some x => rw [q] at hv; cases hv
        have e2 := hK.drop hm ha
        rw [drop_none hn] at e2
        exact k H kept (Gr.refl sm).any hP e2
    · have e' : ¬ f = 0 := of_decide_eq_false e
      walk_at "go"
      refine fld_of hpc TC.cl TC.n1 rfl ?_
      walk_at "go"
      refine dput_of (k := Sum.inl a) hP.kp (by rw [kM_len]; exact size1000000 (by omega)) ?_
      rw [putK_kM]
      walk_at "go"
      exact k _ _ (gk _) (mk _) (hK.put hm ha hf e')

theorem ok_figure_for {P : Program} {w : World} {K : PySem.W.Frag} {mg : Str → Option Value} {base : Heap} {f : Addr} {fd : FuncData} (F : Fun K "figure_for" "figure_for" s_figure_for f fd) (B : Blt mg)
    {C6 : Addr} (TC : PcC K C6) (c_PlainCells_load : MCal P w K mg base CX0 1 C6 "load" P_PlainCells_load (spPcLoad C6)) (c_joined : Cal P w K mg base CX0 1 "joined" P_joined spJoined)
    : FnOk P w K mg base CX0 (1 + 1) f fd P_figure_for (spFigFor K C6) := by
  refine F.ok sc_figure_for (fun vs H Q E h => ?_) (fun cdv A outer s H vs Q E hr h => ?_)
  · obtain ⟨F, v, o, ra, pc, kd, m, kept, n, rfl, _⟩ := h; rfl
  · have hu := hu_of hr
    have hu64 := Room.units hr
    have cl_PlainCells := TC.cl
    obtain ⟨F, v, o, ra, pc, kd, m, kept, n, rfl, sm, hd, ok, mok, hf, hra, hP, hK, k⟩ := h
    obtain ⟨dx, hpc⟩ := hP.ob
    refine ⟨_, (pss_cons (ps_set (i := 3) sc_figure_for.nd rfl (Or.inl rfl) (pe_ix ix_seq (pv 0) (pe_int) (fun _ _ => rfl)))
      (pss_cons (ps_if (pt_cmpR (op_eqU hu64) (pv 3) (pe_str) (nomark _)) (pss_one (ps_ret (pe_ix ix_seq (pv 0) (pe_int) (fun _ _ => rfl)))) pss_nil)
      (pss_cons (ps_if (pt_cmpR (op_eqU hu64) (pv 3) (pe_str) (nomark _)) (pss_one (ps_ret (pe_ix ix_seq (pv 1) (pe_ix ix_seq (pv 0) (pe_int) (fun _ _ => rfl)) (fun _ _ => rfl)))) pss_nil)
      (pss_cons (ps_if (pt_cmpR (op_eqU hu64) (pv 3) (pe_str) (nomark _)) (pss_one (ps_ret (pe_mcal c_PlainCells_load cl_PlainCells (hr.mono (by first | decide | omega)) pass0 (pv 2) (pa_cons (pe_ix ix_seq (pv 1) (pe_ix ix_seq (pv 0) (pe_int) (fun _ _ => rfl)) (fun _ _ => rfl)) pa_nil)))) pss_nil)
      (pss_one (ps_ret (pe_cal c_joined (hr.mono (by first | decide | omega)) pass0 (pa_cons (pv 3) (pa_cons (pe_ix ix_seq (pv 1) (pe_ix ix_seq (pv 0) (pe_int) (fun _ _ => rfl)) (fun _ _ => rfl)) (pa_cons (pe_ix ix_seq (pv 1) (pe_ix ix_seq (pv 0) (pe_int) (fun _ _ => rfl)) (fun _ _ => rfl)) pa_nil)))))))))), ?_⟩
    try dsimp only [cxOf, Cx.nox, Cx.wish]
    walk_at "go"
    refine S.ixT (K := K) (ds := .str (wordO o) :: argsO o) hd sm (d := .str (wordO o)) S.atI_0 fun w1 hw1 => ?_
    obtain rfl := dp_str hw1
    walk_at "go"
    cases o with
    | set r f =>
      refine S.iteT (by rfl) ?_
      walk_at "go"
      refine S.ixT (K := K) (ds := [.str "set", .int r, .int f]) hd sm (d := .int f) S.atI_2 fun w0 hw0 => ?_
      obtain rfl := dp_int hw0
      exact k
    | copy a b =>
      refine S.iteF (by rfl) ?_
      walk_at "go"
      refine S.iteT (by rfl) ?_
      walk_at "go"
      refine S.ixT (K := K) (ds := [.str "copy", .int a, .int b]) hd sm (d := .int b) S.atI_2 fun w0 hw0 => ?_
      obtain rfl := dp_int hw0
      exact ixR mok hra ok.2 k
    | load a b =>
      refine S.iteF (by rfl) ?_
      walk_at "go"
      refine S.iteF (by rfl) ?_
      walk_at "go"
      refine S.iteT (by rfl) ?_
      walk_at "go"
      refine meth_of hpc rfl ?_
      walk_at "go"
      refine S.ixT (K := K) (ds := [.str "load", .int a, .int b]) hd sm (d := .int b) S.atI_2 fun w0 hw0 => ?_
      obtain rfl := dp_int hw0
      refine ixR mok hra ok.2 ?_
      exact ⟨F, pc, kd, reg m b, kept, m.mem, rfl, hP, hK, k⟩
    | ar z a b c =>
      refine S.iteF (by cases z <;> rfl) ?_
      walk_at "go"
      refine S.iteF (by cases z <;> rfl) ?_
      walk_at "go"
      refine S.iteF (by cases z <;> rfl) ?_
      walk_at "go"
      refine S.ixT (K := K) (ds := [.str z.name, .int a, .int b, .int c]) hd sm (d := .int b) S.atI_2 fun w0 hw0 => ?_
      obtain rfl := dp_int hw0
      refine ixR mok hra ok.2.1 ?_
      walk_at "go"
      refine S.ixT (K := K) (ds := [.str z.name, .int a, .int b, .int c]) hd sm (d := .int c) S.atI_3 fun w0 hw0 => ?_
      obtain rfl := dp_int hw0
      refine ixR mok hra ok.2.2 ?_
      exact ⟨z, reg m b, reg m c, rfl, (reg_at mok ok.2.1).2, (reg_at mok ok.2.2).2, k⟩
    | store => cases hf
    | jump => cases hf
    | iff => cases hf
    | call => cases hf
    | back => cases hf
    | ask => cases hf
    | stop => cases hf

theorem ok_next_index {P : Program} {w : World} {K : PySem.W.Frag} {mg : Str → Option Value} {base : Heap} {f : Addr} {fd : FuncData} (F : Fun K "next_index" "next_index" s_next_index f fd) (B : Blt mg)
    {C4 : Addr} (TS : SpC K C4)
    : FnOk P w K mg base CX0 (0 + 1) f fd P_next_index (spNextIdx K C4) := by
  refine F.ok sc_next_index (fun vs H Q E h => ?_) (fun cdv A outer s H vs Q E hr h => ?_)
  · obtain ⟨F, v, o, sp, ra, ca, m, n, rfl, _⟩ := h; rfl
  · have hu := hu_of hr
    have hu64 := Room.units hr
    obtain ⟨F, v, o, sp, ra, ca, m, n, rfl, sm, hd, ok, mok, hh, na, ns, hS, k⟩ := h
    obtain ⟨dx, hsp⟩ := hS.ob
    have fca := hS.off ca (by simp)
    refine ⟨_, (pss_cons (ps_set (i := 2) sc_next_index.nd rfl (Or.inl rfl) (pe_ix ix_seq (pv 0) (pe_int) (fun _ _ => rfl)))
      (pss_cons (ps_if (pt_cmpR (op_eqU hu64) (pv 2) (pe_str) (nomark _)) (pss_one (ps_ret (pe_ix ix_seq (pv 0) (pe_int) (fun _ _ => rfl)))) pss_nil)
      (pss_cons (ps_if (pt_cmpR (op_eqU hu64) (pv 2) (pe_str) (nomark _)) (pss_one (ps_ret (pe_ifExp (pt_cmpR (op_eqU hu64) (pe_ix ix_seq (pe_fld (pv 1) rfl) (pe_ix ix_seq (pv 0) (pe_int) (fun _ _ => rfl)) (fun _ _ => rfl)) (pe_int) (nomark _)) (pe_op op_addU (pe_fld (pv 1) rfl) (pe_int)) (pe_ix ix_seq (pv 0) (pe_int) (fun _ _ => rfl))))) pss_nil)
      (pss_cons (ps_if (pt_cmpR (op_eqU hu64) (pv 2) (pe_str) (nomark _)) (pss_cons (ps_expr (pe_bm PySem.F.plainAttrs_list PySem.F.slot_list_append PySem.F.type_list_append mt_append (pe_fld (pv 1) rfl) (pa_cons (pe_op op_addU (pe_fld (pv 1) rfl) (pe_int)) pa_nil)))
      (pss_one (ps_ret (pe_ix ix_seq (pv 0) (pe_int) (fun _ _ => rfl))))) pss_nil)
      (pss_one (ps_ret (pe_ifExp (pt_cmpR (op_eqU hu64) (pv 2) (pe_str) (nomark _)) (pe_bm0 PySem.F.plainAttrs_list PySem.F.slot_list_pop PySem.F.type_list_pop mt_pop (pe_fld (pv 1) rfl)) (pe_op op_addU (pe_fld (pv 1) rfl) (pe_int))))))))), ?_⟩
    try dsimp only [cxOf, Cx.nox, Cx.wish]
    walk_at "go"
    refine S.ixT (K := K) (ds := .str (wordO o) :: argsO o) hd sm (d := .str (wordO o)) S.atI_0 fun w1 hw1 => ?_
    obtain rfl := dp_str hw1
    walk_at "go"
    have plain : (nextO o m).calls = m.calls → (nextO o m).at_ = m.at_ + 1 → Q (.int (m.at_ + 1)) H := fun e1 e2 => by
      have := k H (Gr.refl sm).any (by rw [e1]; exact hS.cl)
      rw [e2] at this
      exact this
    cases o
    case jump p =>
      refine S.iteT (by rfl) ?_
      walk_at "go"
      refine S.ixT (K := K) (ds := [.str "jump", .int p]) hd sm (d := .int p) S.atI_1 fun w0 hw0 => ?_
      obtain rfl := dp_int hw0
      exact k H (Gr.refl sm).any hS.cl
    case iff r p =>
      refine S.iteF (by rfl) ?_
      walk_at "go"
      refine S.iteT (by rfl) ?_
      walk_at "go"
      refine fld_of hsp TS.cl TS.n2 (lk_regs ..) ?_
      walk_at "go"
      refine S.ixT (K := K) (ds := [.str "if", .int r, .int p]) hd sm (d := .int r) S.atI_1 fun w0 hw0 => ?_
      obtain rfl := dp_int hw0
      refine ixR mok hS.rl ok.1 ?_
      walk_at "go"
      have kk := k H (Gr.refl sm).any hS.cl
      refine S.ite (fun e => ?_) (fun e => ?_)
      · have e' : reg m r = 0 := of_decide_eq_true e
        walk_at "go"
        refine fld_of hsp TS.cl TS.n1 (lk_at ..) ?_
        walk_at "go"
        rw [show (nextO (.iff r p) m).at_ = m.at_ + 1 from if_pos e'] at kk
        exact kk
      · have e' : ¬ reg m r = 0 := of_decide_eq_false e
        walk_at "go"
        refine S.ixT (K := K) (ds := [.str "if", .int r, .int p]) hd sm (d := .int p) S.atI_2 fun w0 hw0 => ?_
        obtain rfl := dp_int hw0
        rw [show (nextO (.iff r p) m).at_ = p from if_neg e'] at kk
        exact kk
    case call p =>
      have hcl := mok.cl
      refine S.iteF (by rfl) ?_
      walk_at "go"
      refine S.iteF (by rfl) ?_
      walk_at "go"
      refine S.iteT (by rfl) ?_
      walk_at "go"
      refine fld_of hsp TS.cl TS.n3 (lk_calls ..) ?_
      refine S.tyO hS.cl ?_
      walk_at "go"
      refine fld_of hsp TS.cl TS.n1 (lk_at ..) ?_
      walk_at "go"
      refine S.appO hS.cl (by rw [List.length_map]; exact size1000000 (by omega)) ?_
      have g1 : Gr [ca] F H F (upd H ca (.lst (m.calls.map V.int ++ [V.int (m.at_ + 1)]))) := gr_put sm fca
      walk_at "go"
      refine S.ixT (K := K) (ds := [.str "call", .int p]) hd g1.sub (d := .int p) S.atI_1 fun w0 hw0 => ?_
      obtain rfl := dp_int hw0
      refine k _ g1 ?_
      rw [upd_same]
      show some (HO.lst (m.calls.map V.int ++ [V.int (m.at_ + 1)])) = some (.lst ((m.calls ++ [m.at_ + 1]).map V.int))
      rw [List.map_append]
      rfl
    case back =>
      refine S.iteF (by rfl) ?_
      walk_at "go"
      refine S.iteF (by rfl) ?_
      walk_at "go"
      refine S.iteF (by rfl) ?_
      walk_at "go"
      refine S.iteT (by rfl) ?_
      walk_at "go"
      refine fld_of hsp TS.cl TS.n3 (lk_calls ..) ?_
      refine S.tyO hS.cl ?_
      walk_at "go"
      have hne := hh rfl
      refine S.popO (y := .int (m.calls.getLastD 0)) hS.cl ?_ ?_
      · rw [List.length_map, List.getElem?_map, List.getLastD_eq_getLast?, List.getLast?_eq_getElem?]
        rw [List.getElem?_eq_getElem (by omega)]
        rfl
      have g1 : Gr [ca] F H F (upd H ca (.lst (m.calls.map V.int).dropLast)) := gr_put sm fca
      refine k _ g1 ?_
      rw [upd_same]
      show some (HO.lst (m.calls.map V.int).dropLast) = some (.lst (m.calls.dropLast.map V.int))
      rw [List.map_dropLast]
    case ask w => exact absurd rfl (na w)
    case stop => exact absurd rfl ns
    case ar z a b c =>
      cases z
      all_goals
        refine S.iteF (by rfl) ?_
        walk_at "go"
        refine S.iteF (by rfl) ?_
        walk_at "go"
        refine S.iteF (by rfl) ?_
        walk_at "go"
        refine S.iteF (by rfl) ?_
        walk_at "go"
        refine fld_of hsp TS.cl TS.n1 (lk_at ..) ?_
        walk_at "go"
        exact plain rfl rfl
    all_goals
      refine S.iteF (by rfl) ?_
      walk_at "go"
      refine S.iteF (by rfl) ?_
      walk_at "go"
      refine S.iteF (by rfl) ?_
      walk_at "go"
      refine S.iteF (by rfl) ?_
      walk_at "go"
      refine fld_of hsp TS.cl TS.n1 (lk_at ..) ?_
      walk_at "go"
      exact plain rfl rfl

theorem ok_do_order {P : Program} {w : World} {K : PySem.W.Frag} {mg : Str → Option Value} {base : Heap} {f : Addr} {fd : FuncData} (F : Fun K "do_order" "do_order" s_do_order f fd) (B : Blt mg)
    {C4 C6 aL : Addr} (TS : SpC K C4) (TC : PcC K C6) (hL : ∀ H, SqT K H aL (leadL.map V.str)) (g_LEADING : GV mg "LEADING" (.ref aL))
    (c_PlainCells_store : MCal P w K mg base CX0 1 C6 "store" P_PlainCells_store (spPcStore C6)) (c_figure_for : Cal P w K mg base CX0 2 "figure_for" P_figure_for (spFigFor K C6)) (c_next_index : Cal P w K mg base CX0 1 "next_index" P_next_index (spNextIdx K C4))
    : FnOk P w K mg base CX0 (2 + 1) f fd P_do_order (spDoOrder K C4 C6) := by
  refine F.ok sc_do_order (fun vs H Q E h => ?_) (fun cdv A outer s H vs Q E hr h => ?_)
  · obtain ⟨F, v, o, sp, ra, ca, pc, kd, m, kept, n, rfl, _⟩ := h; rfl
  · have hu := hu_of hr
    have hu64 := Room.units hr
    have cl_PlainCells := TC.cl
    obtain ⟨F, v, o, sp, ra, ca, pc, kd, m, kept, n, rfl, sm, hd, ok, mok, hh, hS, hP, hK, nd, k⟩ := h
    obtain ⟨dx, hsp⟩ := hS.ob
    obtain ⟨dp, hpc⟩ := hP.ob
    have na : ∀ w, o ≠ .ask w := fun w e => by rw [e] at hh; cases hh
    have ns : o ≠ .stop := fun e => by rw [e] at hh; cases hh
    have nb : o = .back → m.calls.length ≠ 0 := fun e z => by rw [e] at hh; simp [haltO, z] at hh
    have fr : ∀ x ∈ [sp, ra, ca, pc, kd], F x = none := fun x hx => by
      simp only [List.mem_cons, List.not_mem_nil, or_false] at hx
      rcases hx with rfl | rfl | rfl | rfl | rfl
      · exact hS.off _ (by simp)
      · exact hS.off _ (by simp)
      · exact hS.off _ (by simp)
      · exact hP.off.1
      · exact hP.off.2
    simp only [List.nodup_cons, List.mem_cons, List.not_mem_nil, or_false, not_or, not_false_eq_true, List.nodup_nil, and_true] at nd
    obtain ⟨⟨n12, n13, n14, n15⟩, ⟨n23, n24, n25⟩, ⟨n34, n35⟩, n45⟩ := nd
    refine ⟨_, (pss_cons (ps_set (i := 3) sc_do_order.nd rfl (Or.inl rfl) (pe_ix ix_seq (pv 0) (pe_int) (fun _ _ => rfl)))
      (pss_cons (ps_if (pt_cmpR (op_eqU hu64) (pv 3) (pe_str) (nomark _)) (pss_one (ps_expr (pe_mcal c_PlainCells_store cl_PlainCells (hr.mono (by first | decide | omega)) pass0 (pv 2) (pa_cons (pe_ix ix_seq (pe_fld (pv 1) rfl) (pe_ix ix_seq (pv 0) (pe_int) (fun _ _ => rfl)) (fun _ _ => rfl)) (pa_cons (pe_ix ix_seq (pe_fld (pv 1) rfl) (pe_ix ix_seq (pv 0) (pe_int) (fun _ _ => rfl)) (fun _ _ => rfl)) pa_nil))))) (pss_one (ps_if (pt_cmpR op_notIn_seq (pv 3) (pe_gv g_LEADING) (by first | rfl | exact nomark _)) (pss_one (ps_asg (pe_cal c_figure_for (hr.mono (by first | decide | omega)) pass0 (pa_cons (pv 0) (pa_cons (pe_fld (pv 1) rfl) (pa_cons (pv 2) pa_nil)))) (pg_sub (pe_fld (pv 1) rfl) (pe_ix ix_seq (pv 0) (pe_int) (fun _ _ => rfl)) set_list))) pss_nil)))
      (pss_one (ps_fld (pv 1) (pe_cal c_next_index (hr.mono (by first | decide | omega)) pass0 (pa_cons (pv 0) (pa_cons (pv 1) pa_nil))) rfl)))), ?_⟩
    try dsimp only [cxOf, Cx.nox, Cx.wish]
    walk_at "sq"
    walk_at "gs"
    refine S.ixT (K := K) (ds := .str (wordO o) :: argsO o) hd sm (d := .str (wordO o)) S.atI_0 fun w1 hw1 => ?_
    obtain rfl := dp_str hw1
    walk_at "gs"
    with_reducible refine S.seqK (fun σ' H1 => σ' = [some v, some (.ref sp), some (.ref pc), some (.str (wordO o))] ∧ ∃ m1 kept1, Mid C4 C6 F H o n m sp ra ca pc kd H1 m1 kept1) ?_ ?_
    · rintro σ' H1 ⟨rfl, m1, kept1, M⟩
      obtain ⟨dx1, hsp1⟩ := M.hS.ob
      have nb1 : o = .back → m1.calls.length ≠ 0 := fun e => by rw [M.e4]; exact nb e
      walk_at "gs"
      refine ⟨F, v, o, sp, ra, ca, m1, n, rfl, M.g.sub, hd, ok, M.ok, nb1, na, ns, M.hS, fun H2 g2 hca2 => ?_⟩
      obtain ⟨dx2, hsp2⟩ : ∃ dx, H2 sp = some (.ins C4 dx (spF m1.at_ ra ca)) := ⟨dx1, g2.at (by simp [n13]) hsp1⟩
      walk_at "gs"
      refine ⟨sp, C4, dx2, _, rfl, hsp2, TS.cl, TS.n1, (by show 3 < 1000; decide), ?_⟩
      rw [put_at]
      have g3 : Gr [sp] F H2 F (upd H2 sp (.ins C4 dx2 (spF (nextO o m1).at_ ra ca))) := gr_put g2.sub (fr sp (by simp))
      have gA : Gr [sp, ra, ca, kd] F H F (upd H2 sp (.ins C4 dx2 (spF (nextO o m1).at_ ra ca))) := ((M.g.mono (by simp)).trans (g2.mono (by simp))).trans (g3.mono (by simp))
      refine S.next (k _ kept1 gA ⟨⟨dx2, ?_⟩, ?_, ?_, M.hS.nd, M.hS.off⟩ ((M.hP.gr g2 ?_).gr g3 ?_) M.hK)
      · rw [upd_same, M.e3]
      · rw [upd_ne (Ne.symm n12), ← M.e1]
        exact g2.at (by simp [n23]) M.hS.rl
      · rw [upd_ne (Ne.symm n13), hca2, M.e2]
      · intro x hx z
        rw [List.mem_singleton.mp z] at hx
        simp only [List.mem_cons, List.not_mem_nil, or_false] at hx
        rcases hx with e | e
        · exact n34 e
        · exact n35 e
      · intro x hx z
        rw [List.mem_singleton.mp z] at hx
        simp only [List.mem_cons, List.not_mem_nil, or_false] at hx
        rcases hx with e | e
        · exact n14 e
        · exact n15 e
    · intro N J
      by_cases hf : isFigO o = true
      · obtain ⟨w1, w2⟩ := fig_word hf
        walk_at "gs"
        refine S.iteF w1 ?_
        walk_at "gs"
        refine S.ninC (hL _) ?_
        rw [w2]
        walk_at "gd"
        refine fld_of hsp TS.cl TS.n2 (lk_regs ..) ?_
        walk_at "gs"
        refine ⟨F, v, o, ra, pc, kd, m, kept, n, rfl, sm, hd, ok, mok, hf, hS.rl, hP, hK, ?_⟩
        walk_at "gs"
        refine fld_of hsp TS.cl TS.n2 (lk_regs ..) ?_
        walk_at "gs"
        refine S.ixT (K := K) (ds := .str (wordO o) :: argsO o) hd sm (d := .int (destO o)) (fig_dest hf) fun w1 hw1 => ?_
        obtain rfl := dp_int hw1
        refine S.setO (j := (destO o).toNat) hS.rl (by rw [List.length_map, mok.rl]; exact reg_ix (fig_reg hf ok)) ?_
        rw [show (m.regs.map V.int).set (destO o).toNat (V.int (figO o m)) = (setR m (destO o) (figO o m)).map V.int by unfold setR; rw [List.map_set]]
        have g1 : Gr [ra] F H F (upd H ra (.lst ((setR m (destO o) (figO o m)).map V.int))) := gr_put sm (fr ra (by simp))
        obtain ⟨s1, s2⟩ := set_ok (i := destO o) mok (fig_fig hf ok mok)
        refine J _ _ ⟨rfl, ⟨m.at_, setR m (destO o) (figO o m), m.calls, m.mem⟩, kept, g1.mono (by simp), ⟨⟨dx, (upd_ne n12).trans hsp⟩, upd_same, (upd_ne (Ne.symm n23)).trans hS.cl, hS.nd, hS.off⟩, hP.gr g1 ?_, ?_, ⟨mok.a0, mok.a1, s1, s2, mok.cl, mok.cr, mok.me⟩, ?_, ?_, ?_, rfl⟩
        · intro x hx z
          rw [List.mem_singleton.mp z] at hx
          simp only [List.mem_cons, List.not_mem_nil, or_false] at hx
          rcases hx with e | e
          · exact n24 e
          · exact n25 e
        · rw [fig_next hf]; exact hK
        · rw [fig_next hf]
        · rw [fig_next hf, fig_next hf]
        · rw [fig_next hf, fig_next hf]
      · have same : (nextO o m).regs = m.regs → (nextO o m).mem = m.mem → ∃ m1 kept1, Mid C4 C6 F H o n m sp ra ca pc kd H m1 kept1 := fun e1 e2 => ⟨m, kept, (Gr.refl sm).any, hS, hP, by rw [e2]; exact hK, mok, e1.symm, rfl, rfl, rfl⟩
        cases o with
        | store a b =>
          have h1 : ¬ 4096 ≤ reg m a := fun z => by simp [haltO, z] at hh
          have h2 := (reg_at mok ok.1).2.1
          walk_at "gd"
          refine meth_of hpc rfl ?_
          walk_at "gd"
          refine fld_of hsp TS.cl TS.n2 (lk_regs ..) ?_
          walk_at "gs"
          refine S.ixT (K := K) (ds := [.str "store", .int a, .int b]) hd sm (d := .int a) S.atI_1 fun w1 hw1 => ?_
          obtain rfl := dp_int hw1
          refine ixR mok hS.rl ok.1 ?_
          walk_at "gd"
          refine fld_of hsp TS.cl TS.n2 (lk_regs ..) ?_
          walk_at "gs"
          refine S.ixT (K := K) (ds := [.str "store", .int a, .int b]) hd sm (d := .int b) S.atI_2 fun w1 hw1 => ?_
          obtain rfl := dp_int hw1
          refine ixR mok hS.rl ok.2 ?_
          walk_at "gd"
          refine ⟨F, pc, kd, reg m a, reg m b, kept, m.mem, rfl, sm, hP, hK, mok.me, ⟨h2, by omega⟩, (reg_at mok ok.2).2, fun H1 kept1 g1 hP1 hK1 => ?_⟩
          refine J _ _ ⟨rfl, m, kept1, g1.mono (by simp), hS.gr g1 ?_, hP1, hK1, mok, rfl, rfl, rfl, rfl⟩
          intro x hx z
          rw [List.mem_singleton.mp z] at hx
          simp only [List.mem_cons, List.not_mem_nil, or_false] at hx
          rcases hx with e | e | e
          · exact n15 e.symm
          · exact n25 e.symm
          · exact n35 e.symm
        | jump p =>
          walk_at "gd"
          refine S.ninC (hL _) ?_
          walk_at "gd"
          exact J _ _ ⟨rfl, same rfl rfl⟩
        | iff r p =>
          walk_at "gd"
          refine S.ninC (hL _) ?_
          walk_at "gd"
          exact J _ _ ⟨rfl, same rfl rfl⟩
        | call p =>
          walk_at "gd"
          refine S.ninC (hL _) ?_
          walk_at "gd"
          exact J _ _ ⟨rfl, same rfl rfl⟩
        | back =>
          walk_at "gd"
          refine S.ninC (hL _) ?_
          walk_at "gd"
          exact J _ _ ⟨rfl, same rfl rfl⟩
        | ask w => exact absurd rfl (na w)
        | stop => exact absurd rfl ns
        | set r f => exact absurd rfl hf
        | copy a b => exact absurd rfl hf
        | ar z a b c => exact absurd rfl hf
        | load a b => exact absurd rfl hf

theorem ok_Running___init__ {P : Program} {w : World} {K : PySem.W.Frag} {mg : Str → Option Value} {base : Heap} {f : Addr} {fd : FuncData} (F : Fun K "__init__" "Running.__init__" s_Running___init__ f fd) (B : Blt mg)
    {C4 C5 C6 : Addr} (TS : SpC K C4) (TR : RnC K C5) (TC : PcC K C6) (c_Spot : CCal P w K mg base CX0 1 C4 "Spot" P_Spot___init__ (spSpotInit K C4)) (c_PlainCells : CCal P w K mg base CX0 2 C6 "PlainCells" P_PlainCells___init__ (spPcInit C6))
    : FnOk P w K mg base CX0 (3 + 1) f fd P_Running___init__ (spRnInit K C4 C5 C6) := by
  refine F.ok sc_Running___init__ (fun vs H Q E h => ?_) (fun cdv A outer s H vs Q E hr h => ?_)
  · obtain ⟨F, rn, dx, v, u, code, m, rfl, _⟩ := h; rfl
  · have hu := hu_of hr
    have hu64 := Room.units hr
    have cl_Running := TR.cl
    obtain ⟨F, rn, dx, v, u, code, m, rfl, sm, frn, hrn, hc, hm, mok, k⟩ := h
    obtain ⟨a, x1, x2, x3, x4, rfl, ha, rfl, h2, h3, h4⟩ := hm
    refine ⟨_, (pss_cons (ps_asg (pv 2) (pg_tup rfl (pgs_cons (pg_name (i := 3) sc_Running___init__.nd rfl (Or.inl rfl) (by first | exact Or.inl rfl | exact Or.inr rfl)) (pgs_cons (pg_name (i := 4) sc_Running___init__.nd rfl (Or.inl rfl) (by first | exact Or.inl rfl | exact Or.inr rfl)) (pgs_cons (pg_name (i := 5) sc_Running___init__.nd rfl (Or.inl rfl) (by first | exact Or.inl rfl | exact Or.inr rfl)) (pgs_cons (pg_name (i := 6) sc_Running___init__.nd rfl (Or.inl rfl) (by first | exact Or.inl rfl | exact Or.inr rfl)) pgs_nil))))))
      (pss_cons (ps_fld (pv 0) (pv 1) rfl)
      (pss_cons (ps_fld (pv 0) (pe_ccal c_Spot (hr.mono (by first | decide | omega)) pass0 (pa_cons (pv 3) (pa_cons (pv 4) (pa_cons (pv 5) pa_nil)))) rfl)
      (pss_one (ps_fld (pv 0) (pe_ccal c_PlainCells (hr.mono (by first | decide | omega)) pass0 (pa_cons (pv 6) pa_nil)) rfl))))), ?_⟩
    try dsimp only [cxOf, Cx.nox, Cx.wish]
    walk_at "go"
    refine S.gTupT (same_tup sm ha) rfl ?_
    walk_at "go"
    refine ⟨rn, C5, dx, _, rfl, hrn, TR.cl, TR.n1, (by show 0 < 1000; decide), ?_⟩
    rw [show putF "orders" v [] = [(("orders" : Str), v)] from rfl]
    have g1 : Gr [rn] F H F _ := gr_put (o := .ins C5 dx [(("orders" : Str), v)]) sm frn
    have hrn1 : upd H rn (.ins C5 dx [(("orders" : Str), v)]) rn = _ := upd_same
    generalize upd H rn _ = H1 at *
    walk_at "go"
    intro sp dxs hsp0 hdx0 ndx
    have gA : Gr [] F H1 F _ := (Gr.newOwn (o := .own sp) g1.sub hdx0).poke (q := sp) (o := .ins C4 dxs []) hsp0 (sub_free g1.sub hsp0)
    have hsp1 : upd (upd H1 dxs (.own sp)) sp (.ins C4 dxs []) sp = _ := upd_same
    generalize upd (upd H1 dxs (.own sp)) sp (.ins C4 dxs []) = Ha at *
    refine ⟨F, sp, dxs, x2, x3, m, rfl, gA.sub, sub_free g1.sub hsp0, hsp1, h2, h3, fun H2 ra ca g2 hra hca hS => ⟨rfl, ?_⟩⟩
    have hra1 := gA.free hra
    have hca1 := gA.free hca
    have g12 : Gr [] F H1 F H2 := gA.fresh g2 fun x hx => by rw [List.mem_singleton.mp hx]; exact hsp0
    have hrn2 := g12.at0 hrn1
    have nsr : sp ≠ rn := fun z => by rw [z, hrn1] at hsp0; cases hsp0
    have nrr : ra ≠ rn := fun z => by rw [z, hrn1] at hra1; cases hra1
    have ncr : ca ≠ rn := fun z => by rw [z, hrn1] at hca1; cases hca1
    walk_at "go"
    refine ⟨rn, C5, dx, _, rfl, hrn2, TR.cl, TR.n2, (by show 1 < 1000; decide), ?_⟩
    rw [show putF "spot" (V.ref sp) [(("orders" : Str), v)] = [(("orders" : Str), v), (("spot" : Str), V.ref sp)] from rfl]
    have g3 : Gr [rn] F H2 F _ := gr_put (o := .ins C5 dx [(("orders" : Str), v), (("spot" : Str), V.ref sp)]) g12.sub frn
    have hrn3 : upd H2 rn (.ins C5 dx [(("orders" : Str), v), (("spot" : Str), V.ref sp)]) rn = _ := upd_same
    have hS3 := hS.gr g3 (by simp [nsr, nrr, ncr])
    have g13 := g12.any.trans g3
    generalize upd H2 rn _ = H3 at *
    walk_at "go"
    intro pc dxp hpc0 hdp0 ndp
    have gC : Gr [] F H3 F _ := (Gr.newOwn (o := .own pc) g3.sub hdp0).poke (q := pc) (o := .ins C6 dxp []) hpc0 (sub_free g3.sub hpc0)
    have hpc1 : upd (upd H3 dxp (.own pc)) pc (.ins C6 dxp []) pc = _ := upd_same
    generalize upd (upd H3 dxp (.own pc)) pc (.ins C6 dxp []) = Hc at *
    refine ⟨F, pc, dxp, x4, m.mem, rfl, gC.sub, sub_free g3.sub hpc0, hpc1, h4, mok.me, fun H4 kd g4 hkd hP => ⟨rfl, ?_⟩⟩
    have hkd1 := gC.free hkd
    have g34 : Gr [] F H3 F H4 := gC.fresh g4 fun x hx => by rw [List.mem_singleton.mp hx]; exact hpc0
    have hrn4 := g34.at0 hrn3
    have hS4 := hS3.gr g34 (fun _ _ z => nomatch z)
    have npr : pc ≠ rn := fun z => by rw [z, hrn3] at hpc0; cases hpc0
    have nkr : kd ≠ rn := fun z => by rw [z, hrn3] at hkd1; cases hkd1
    walk_at "go"
    refine ⟨rn, C5, dx, _, rfl, hrn4, TR.cl, TR.n3, (by show 2 < 1000; decide), ?_⟩
    rw [show putF "cells" (V.ref pc) [(("orders" : Str), v), (("spot" : Str), V.ref sp)] = [(("orders" : Str), v), (("spot" : Str), V.ref sp), (("cells" : Str), V.ref pc)] from rfl]
    have g5 : Gr [rn] F H4 F _ := gr_put (o := .ins C5 dx [(("orders" : Str), v), (("spot" : Str), V.ref sp), (("cells" : Str), V.ref pc)]) g34.sub frn
    have hS5 := hS4.gr g5 (by simp [nsr, nrr, ncr])
    have hP5 := hP.gr g5 (by simp [npr, nkr])
    have hrn5 : upd H4 rn (.ins C5 dx [(("orders" : Str), v), (("spot" : Str), V.ref sp), (("cells" : Str), V.ref pc)]) rn = _ := upd_same
    generalize upd H4 rn _ = H5 at *
    have lv := hS3.live
    have nps : ∀ x ∈ [sp, ra, ca], x ≠ pc ∧ x ≠ kd := fun x hx => ⟨fun z => lv x hx (by rw [z]; exact hpc0), fun z => lv x hx (by rw [z]; exact hkd1)⟩
    have nd := hS.nd
    have npk := hP.nd
    simp only [List.nodup_cons, List.mem_cons, List.not_mem_nil, or_false, not_or, not_false_eq_true, List.nodup_nil, and_true] at nd
    have q1 := nps sp (by simp)
    have q2 := nps ra (by simp)
    have q3 := nps ca (by simp)
    refine S.next (k F H5 sp ra ca pc kd ((g1.trans g13).trans (g34.any.trans g5)) ⟨⟨dx, hrn5⟩, hc, hS5, hP5, Kept.zero mok.me, ?_, frn⟩ fun x hx => ?_)
    · simp only [List.nodup_cons, List.mem_cons, List.not_mem_nil, or_false, not_or, not_false_eq_true, List.nodup_nil, and_true]
      exact ⟨⟨nsr.symm, nrr.symm, ncr.symm, npr.symm, nkr.symm⟩, ⟨nd.1.1, nd.1.2, q1.1, q1.2⟩, ⟨nd.2, q2.1, q2.2⟩, ⟨q3.1, q3.2⟩, npk⟩
    · have f1 : ∀ y, H1 y = none → H y = none := fun y => g1.free
      have f3 : ∀ y, H3 y = none → H y = none := fun y z => f1 y (g13.free z)
      simp only [List.mem_cons, List.not_mem_nil, or_false] at hx
      rcases hx with rfl | rfl | rfl | rfl | rfl
      · exact f1 _ hsp0
      · exact f1 _ hra1
      · exact f1 _ hca1
      · exact f3 _ hpc0
      · exact f3 _ hkd1

theorem ok_Running_ahead {P : Program} {w : World} {K : PySem.W.Frag} {mg : Str → Option Value} {base : Heap} {f : Addr} {fd : FuncData} (F : Fun K "ahead" "Running.ahead" s_Running_ahead f fd) (B : Blt mg)
    {C4 C5 C6 : Addr} (TR : RnC K C5) (c_halting : Cal P w K mg base CX0 2 "halting" P_halting (spHalting K C4))
    : FnOk P w K mg base CX0 (2 + 1) f fd P_Running_ahead (spAhead K C4 C5 C6) := by
  refine F.ok sc_Running_ahead (fun vs H Q E h => ?_) (fun cdv A outer s H vs Q E hr h => ?_)
  · obtain ⟨F, rn, v, code, m, kept, sp, ra, ca, pc, kd, rfl, _⟩ := h; rfl
  · have hu := hu_of hr
    have hu64 := Room.units hr
    have cl_Running := TR.cl
    obtain ⟨F, rn, v, code, m, kept, sp, ra, ca, pc, kd, rfl, sm, ok, mok, hR, k⟩ := h
    obtain ⟨dx, hrn⟩ := hR.ob
    refine ⟨_, (pss_one (ps_ret (pe_cal c_halting (hr.mono (by first | decide | omega)) pass0 (pa_cons (pe_fld (pv 0) rfl) (pa_cons (pe_fld (pv 0) rfl) pa_nil))))), ?_⟩
    try dsimp only [cxOf, Cx.nox, Cx.wish]
    walk_at "go"
    refine fld_of hrn TR.cl TR.n1 rfl ?_
    walk_at "go"
    refine fld_of hrn TR.cl TR.n2 rfl ?_
    walk_at "go"
    exact ⟨F, v, code, sp, m, ra, ca, rfl, sm, hR.cv, ok, hR.hsp, mok, k⟩

theorem ok_Running_go {P : Program} {w : World} {K : PySem.W.Frag} {mg : Str → Option Value} {base : Heap} {f : Addr} {fd : FuncData} (F : Fun K "go" "Running.go" s_Running_go f fd) (B : Blt mg)
    {C4 C5 C6 : Addr} (TS : SpC K C4) (TR : RnC K C5) (c_do_order : Cal P w K mg base CX0 3 "do_order" P_do_order (spDoOrder K C4 C6))
    : FnOk P w K mg base CX0 (3 + 1) f fd P_Running_go (spGo K C4 C5 C6) := by
  refine F.ok sc_Running_go (fun vs H Q E h => ?_) (fun cdv A outer s H vs Q E hr h => ?_)
  · obtain ⟨F, rn, v, code, m, kept, sp, ra, ca, pc, kd, o, rfl, _⟩ := h; rfl
  · have hu := hu_of hr
    have hu64 := Room.units hr
    have cl_Running := TR.cl
    obtain ⟨F, rn, v, code, m, kept, sp, ra, ca, pc, kd, o, rfl, sm, ok, mok, hR, eo, hh, k⟩ := h
    obtain ⟨dx, hrn⟩ := hR.ob
    obtain ⟨dxs, hsp⟩ := hR.hsp.ob
    have nd := hR.nd
    refine ⟨_, (pss_one (ps_expr (pe_cal c_do_order (hr.mono (by first | decide | omega)) pass0 (pa_cons (pe_ix ix_seq (pe_fld (pv 0) rfl) (pe_fld (pe_fld (pv 0) rfl) rfl) (fun _ _ => rfl)) (pa_cons (pe_fld (pv 0) rfl) (pa_cons (pe_fld (pv 0) rfl) pa_nil)))))), ?_⟩
    try dsimp only [cxOf, Cx.nox, Cx.wish]
    walk_at "go"
    refine fld_of hrn TR.cl TR.n1 rfl ?_
    walk_at "go"
    refine fld_of hrn TR.cl TR.n2 rfl ?_
    refine fld_of hsp TS.cl TS.n1 (lk_at ..) ?_
    refine S.ixT (K := K) (ds := code.map ordD) hR.cv sm (d := ordD o) (ord_at (K := K) mok.a0 eo) fun w0 hw0 => ?_
    walk_at "go"
    refine fld_of hrn TR.cl TR.n2 rfl ?_
    walk_at "go"
    refine fld_of hrn TR.cl TR.n3 rfl ?_
    walk_at "go"
    have nd2 := (List.nodup_cons.mp nd)
    refine ⟨F, w0, o, sp, ra, ca, pc, kd, m, kept, code.length, rfl, sm, hw0, ok.ok o (List.mem_of_getElem? eo), mok, hh, hR.hsp, hR.hpc, hR.ke, nd2.2, fun H1 kept1 g1 hS1 hP1 hK1 => ?_⟩
    refine S.next (k H1 kept1 (g1.mono (by simp)) ⟨⟨dx, g1.at (fun z => nd2.1 ?_) hrn⟩, hR.cv, hS1, hP1, hK1, nd, hR.off⟩)
    simp only [List.mem_cons, List.not_mem_nil, or_false] at z ⊢
    rcases z with z | z | z | z <;> simp [z]

theorem ok_Running_as_machine {P : Program} {w : World} {K : PySem.W.Frag} {mg : Str → Option Value} {base : Heap} {f : Addr} {fd : FuncData} (F : Fun K "as_machine" "Running.as_machine" s_Running_as_machine f fd) (B : Blt mg)
    {C4 C5 C6 : Addr} (TS : SpC K C4) (TR : RnC K C5) (TC : PcC K C6) (c_memory_tuple : Cal P w K mg base CX0 1 "memory_tuple" P_memory_tuple (spRowsL K))
    : FnOk P w K mg base CX0 (1 + 1) f fd P_Running_as_machine (spAsMach K C4 C5 C6) := by
  refine F.ok sc_Running_as_machine (fun vs H Q E h => ?_) (fun cdv A outer s H vs Q E hr h => ?_)
  · obtain ⟨F, rn, v, code, m, kept, sp, ra, ca, pc, kd, rfl, _⟩ := h; rfl
  · have hu := hu_of hr
    have hu64 := Room.units hr
    have cl_Running := TR.cl
    obtain ⟨F, rn, v, code, m, kept, sp, ra, ca, pc, kd, rfl, sm, mok, hR, k⟩ := h
    obtain ⟨dx, hrn⟩ := hR.ob
    obtain ⟨dxs, hsp⟩ := hR.hsp.ob
    obtain ⟨dxp, hpc⟩ := hR.hpc.ob
    refine ⟨_, (pss_one (ps_ret (pe_tup (pa_cons (pe_fld (pe_fld (pv 0) rfl) rfl) (pa_cons (pe_callTy call_tuple_of rfl B.m_tuple (by decide +kernel) (pa_cons (pe_fld (pe_fld (pv 0) rfl) rfl) pa_nil)) (pa_cons (pe_callTy call_tuple_of rfl B.m_tuple (by decide +kernel) (pa_cons (pe_fld (pe_fld (pv 0) rfl) rfl) pa_nil)) (pa_cons (pe_cal c_memory_tuple (hr.mono (by first | decide | omega)) pass0 (pa_cons (pe_fld (pe_fld (pv 0) rfl) rfl) pa_nil)) pa_nil))))))), ?_⟩
    try dsimp only [cxOf, Cx.nox, Cx.wish]
    walk_at "go"
    refine fld_of hrn TR.cl TR.n2 rfl ?_
    refine fld_of hsp TS.cl TS.n1 (lk_at ..) ?_
    walk_at "go"
    refine fld_of hrn TR.cl TR.n2 rfl ?_
    refine fld_of hsp TS.cl TS.n2 (lk_regs ..) ?_
    walk_at "go"
    refine ⟨ra, _, rfl, .inl ⟨SqL.of hR.hsp.rl, made_tupG (K := K) (ds := m.regs.map .int) sm (dp_ints _) fun l1 F1 g1 hl1 hv1 => ?_⟩⟩
    have hrn1 := g1.at0 hrn
    have hsp1 := g1.at0 hsp
    have hca1 := g1.at0 hR.hsp.cl
    generalize upd H l1 _ = H1 at *
    walk_at "go"
    refine fld_of hrn1 TR.cl TR.n2 rfl ?_
    refine fld_of hsp1 TS.cl TS.n3 (lk_calls ..) ?_
    walk_at "go"
    refine ⟨ca, _, rfl, .inl ⟨SqL.of hca1, made_tupG (K := K) (ds := m.calls.map .int) g1.sub (dp_ints _) fun l2 F2 g2 hl2 hv2 => ?_⟩⟩
    have hrn2 := g2.at0 hrn1
    have hpc2 := g2.at0 (g1.at0 hpc)
    have hkd2 := g2.at0 (g1.at0 hR.hpc.kp)
    generalize upd H1 l2 _ = H2 at *
    walk_at "go"
    refine fld_of hrn2 TR.cl TR.n3 rfl ?_
    refine fld_of hpc2 TC.cl TC.n1 rfl ?_
    walk_at "go"
    refine ⟨F2, kd, kept, rfl, g2.sub, hkd2, hR.ke.nd, hR.ke.len, fun w3 F3 H3 g3 hw3 => ?_⟩
    rw [hR.ke.rows mok.me] at hw3
    walk_at "go"
    refine new_tupG (K := K) (ds := [.int m.at_, .tuple (m.regs.map .int), .tuple (m.calls.map .int), .tuple (m.mem.map prZ)]) g3.sub (.cons (.int _) (.cons ((hv1.to g2.fs).to g3.fs) (.cons (hv2.to g3.fs) (.cons hw3 .nil)))) (by show 4 ≤ sizeLine; decide) fun t F4 g4 ht hv => ?_
    exact k _ F4 _ (((g1.trans g2).trans g3).trans g4) hv

theorem ok_is_code {P : Program} {w : World} {K : PySem.W.Frag} {mg : Str → Option Value} {base : Heap} {f : Addr} {fd : FuncData} (F : Fun K "is_code" "is_code" s_is_code f fd) (B : Blt mg)
    (c_is_a_code : Cal P w K mg base CX0 5 "is_a_code" P_is_a_code (spIsCode K))
    : FnOk P w K mg base CX0 (5 + 1) f fd P_is_code (spIsCode K) := by
  refine F.ok sc_is_code (fun vs H Q E h => ?_) (fun cdv A outer s H vs Q E hr h => ?_)
  · obtain ⟨F, v, code, rfl, _⟩ := h; rfl
  · have hu := hu_of hr
    have hu64 := Room.units hr
    obtain ⟨F, v, code, rfl, sm, hc, ok, k⟩ := h
    refine ⟨_, (pss_one (ps_ret (pe_cal c_is_a_code (hr.mono (by first | decide | omega)) pass0 (pa_cons (pv 0) pa_nil)))), ?_⟩
    try dsimp only [cxOf, Cx.nox, Cx.wish]
    walk_at "go"
    exact ⟨F, v, code, rfl, sm, hc, ok, k⟩

theorem ok_is_memory {P : Program} {w : World} {K : PySem.W.Frag} {mg : Str → Option Value} {base : Heap} {f : Addr} {fd : FuncData} (F : Fun K "is_memory" "is_memory" s_is_memory f fd) (B : Blt mg)
    (c_is_a_memory : Cal P w K mg base CX0 4 "is_a_memory" P_is_a_memory (spIsMem K))
    : FnOk P w K mg base CX0 (4 + 1) f fd P_is_memory (spIsMem K) := by
  refine F.ok sc_is_memory (fun vs H Q E h => ?_) (fun cdv A outer s H vs Q E hr h => ?_)
  · obtain ⟨F, v, mem, rfl, _⟩ := h; rfl
  · have hu := hu_of hr
    have hu64 := Room.units hr
    obtain ⟨F, v, mem, rfl, sm, hv, hm, k⟩ := h
    refine ⟨_, (pss_one (ps_ret (pe_cal c_is_a_memory (hr.mono (by first | decide | omega)) pass0 (pa_cons (pv 0) pa_nil)))), ?_⟩
    try dsimp only [cxOf, Cx.nox, Cx.wish]
    walk_at "go"
    exact ⟨F, v, mem, rfl, sm, hv, hm, k⟩

theorem ok_is_a_machine {P : Program} {w : World} {K : PySem.W.Frag} {mg : Str → Option Value} {base : Heap} {f : Addr} {fd : FuncData} (F : Fun K "is_a_machine" "is_a_machine" s_is_a_machine f fd) (B : Blt mg)
    (c_is_from : Cal P w K mg base CX0 1 "is_from" P_is_from (spIsFrom K)) (c_is_tuple : Cal P w K mg base CX0 1 "is_tuple" P_is_tuple (spIsTuple K)) (c_is_figure : Cal P w K mg base CX0 2 "is_figure" P_is_figure spFig) (c_is_a_memory : Cal P w K mg base CX0 4 "is_a_memory" P_is_a_memory (spIsMem K))
    (g_REGISTERS : GV mg "REGISTERS" (.int 8)) (g_MOST_CALLS : GV mg "MOST_CALLS" (.int 32))
    : FnOk P w K mg base CX0 (4 + 1) f fd P_is_a_machine (spIsMach K) := by
  refine F.ok sc_is_a_machine (fun vs H Q E h => ?_) (fun cdv A outer s H vs Q E hr h => ?_)
  · obtain ⟨F, v, u, code, m, rfl, _⟩ := h; rfl
  · have hu := hu_of hr
    have hu64 := Room.units hr
    obtain ⟨F, v, u, code, m, rfl, sm, hc, ok, hm, mok, k⟩ := h
    have a0 := mok.a0
    have a1 := mok.a1
    have hrl := mok.rl
    have hcl := mok.cl
    refine ⟨_, (pss_cons (ps_if (PW.pt (pw_or (pt_not (pt_val (pe_cal c_is_tuple (hr.mono (by first | decide | omega)) pass0 (pa_cons (pv 1) (pa_cons (pe_int) (pa_cons (pe_int) pa_nil)))))) (pw_or1 (pt_not (pt_val (pe_cal c_is_from (hr.mono (by first | decide | omega)) pass0 (pa_cons (pe_ix ix_seq (pv 1) (pe_int) (fun _ _ => rfl)) (pa_cons (pe_int) (pa_cons (pe_callB call_lenU rfl B.m_len (by first | exact PySem.boot_len | decide +kernel) (pa_cons (pv 0) pa_nil)) pa_nil))))))))) (pss_one (ps_ret (pe_bl))) pss_nil)
      (pss_cons (ps_asg (pv 1) (pg_tup rfl (pgs_cons (pg_name (i := 2) sc_is_a_machine.nd rfl (Or.inl rfl) (by first | exact Or.inl rfl | exact Or.inr rfl)) (pgs_cons (pg_name (i := 3) sc_is_a_machine.nd rfl (Or.inl rfl) (by first | exact Or.inl rfl | exact Or.inr rfl)) (pgs_cons (pg_name (i := 4) sc_is_a_machine.nd rfl (Or.inl rfl) (by first | exact Or.inl rfl | exact Or.inr rfl)) (pgs_cons (pg_name (i := 5) sc_is_a_machine.nd rfl (Or.inl rfl) (by first | exact Or.inl rfl | exact Or.inr rfl)) pgs_nil))))))
      (pss_cons (ps_if (PW.pt (pw_or (pt_not (pt_val (pe_cal c_is_tuple (hr.mono (by first | decide | omega)) pass0 (pa_cons (pv 3) (pa_cons (pe_gv g_REGISTERS) (pa_cons (pe_gv g_REGISTERS) pa_nil)))))) (pw_or1 (pt_not (pt_val (pe_callB (cr_all rfl) rfl B.m_all (by first | exact PySem.boot_all | decide +kernel) (pa_cons (pe_lc (own := [("figure", 6)]) rfl sc_is_a_machine.nd (pi_seq (pv 3)) (blkOk_by (N := N_is_a_machine) (sc := defScope s_is_a_machine) (by decide +kernel)) (fun _ _ _ _ _ => (pg_name (i := 6) sc_is_a_machine.nd rfl (Or.inl rfl))) (fun _ _ _ _ _ => pts_nil) (fun _ _ _ _ _ => (pe_cal c_is_figure (hr.mono (by first | decide | omega)) pass0 (pa_cons (pv 6) pa_nil)))) pa_nil))))))) (pss_one (ps_ret (pe_bl))) pss_nil)
      (pss_cons (ps_if (PW.pt (pw_or (pt_not (pt_val (pe_cal c_is_tuple (hr.mono (by first | decide | omega)) pass0 (pa_cons (pv 4) (pa_cons (pe_int) (pa_cons (pe_gv g_MOST_CALLS) pa_nil)))))) (pw_or1 (pt_not (pt_val (pe_callB (cr_all rfl) rfl B.m_all (by first | exact PySem.boot_all | decide +kernel) (pa_cons (pe_lc (own := [("index", 7)]) rfl sc_is_a_machine.nd (pi_seq (pv 4)) (blkOk_by (N := N_is_a_machine) (sc := defScope s_is_a_machine) (by decide +kernel)) (fun _ _ _ _ _ => (pg_name (i := 7) sc_is_a_machine.nd rfl (Or.inl rfl))) (fun _ _ _ _ _ => pts_nil) (fun _ _ _ _ _ => (pe_cal c_is_from (hr.mono (by first | decide | omega)) pass0 (pa_cons (pv 7) (pa_cons (pe_int) (pa_cons (pe_callB (call_lenUK (K := K) rfl) rfl B.m_len (by first | exact PySem.boot_len | decide +kernel) (pa_cons (pv 0) pa_nil)) pa_nil)))))) pa_nil))))))) (pss_one (ps_ret (pe_bl))) pss_nil)
      (pss_one (ps_ret (pe_cal c_is_a_memory (hr.mono (by first | decide | omega)) pass0 (pa_cons (pv 5) pa_nil)))))))), ?_⟩
    try dsimp only [cxOf, Cx.nox, Cx.wish]
    walk_at "go"
    refine ⟨F, u, _, 4, 4, rfl, sm, hm, ?_⟩
    rw [show isTuple (machD m) 4 4 = true from tup_ok (by simp) (by simp)]
    walk_at "gd"
    refine S.ixT (K := K) (ds := [.int m.at_, .tuple (m.regs.map .int), .tuple (m.calls.map .int), .tuple (m.mem.map prZ)]) hm sm (d := .int m.at_) S.atI_0 fun w0 hw0 => ?_
    obtain rfl := dp_int hw0
    walk_at "gd"
    refine S.lenT (K := K) (ds := code.map ordD) hc sm ?_
    walk_at "gd"
    refine ⟨F, _, .int m.at_, 0, _, rfl, sm, .int _, ?_⟩
    rw [from_ok a0 (by rw [List.length_map]; exact a1)]
    walk_at "gd"
    obtain ⟨a, xs, rfl, ha, hx⟩ := dp_tuple (show Dp K F u (.tuple [.int m.at_, .tuple (m.regs.map .int), .tuple (m.calls.map .int), .tuple (m.mem.map prZ)]) from hm)
    cases hx with
    | cons e1 hx =>
    cases hx with
    | cons h2 hx =>
    cases hx with
    | cons h3 hx =>
    cases hx with
    | cons h4 hx =>
    cases hx
    cases e1
    refine S.gTupT (same_tup sm ha) rfl ?_
    walk_at "gd"
    refine ⟨F, _, _, 8, 8, rfl, sm, h2, ?_⟩
    rw [tup_ok (by rw [List.length_map]; omega) (by rw [List.length_map]; omega)]
    walk_at "gd"
    refine S.lcS (S.iSeqT ?_)
    walk_at "gd"
    obtain ⟨b2, ys2, rfl, hb2, hy2⟩ := dp_tuple h2
    refine ⟨b2, rfl, ⟨_, same_tup sm hb2⟩, fun D hD => ?_⟩
    refine S.lc_true (K := K) sm h2 (by rw [List.length_map]; omega) hD (fun d x F1 H1 QE hd g1 hx q => ?_) fun F1 H1 g1 hL => ?_
    · obtain ⟨f, hf, rfl⟩ := List.mem_map.mp hd
      obtain rfl := dp_int hx
      have hff := mok.rf f hf
      walk_at "gs"
      refine ⟨rfl, ?_⟩
      walk_at "gs"
      exact ⟨f, rfl, hff.1, hff.2, q F1 H1 (Gr.refl g1.sub)⟩
    walk_at "gd"
    refine ⟨D, List.replicate _ true, rfl, hL, ?_⟩
    rw [repl_all]
    walk_at "gd"
    refine ⟨F1, _, _, 0, 32, rfl, g1.sub, h3.to g1.fs, ?_⟩
    rw [tup_ok (by rw [List.length_map]; omega) (by rw [List.length_map]; omega)]
    walk_at "gd"
    refine S.lcS (S.iSeqT ?_)
    walk_at "gd"
    obtain ⟨b3, ys3, rfl, hb3, hy3⟩ := dp_tuple h3
    refine ⟨b3, rfl, ⟨_, same_tup (g1.fs.trans g1.sub) hb3⟩, fun D2 hD2 => ?_⟩
    refine S.lc_true (K := K) g1.sub (h3.to g1.fs) (by rw [List.length_map]; omega) hD2 (fun d x F2 H2 QE hd g2 hx q => ?_) fun F2 H2 g2 hL2 => ?_
    · obtain ⟨f, hf, rfl⟩ := List.mem_map.mp hd
      obtain rfl := dp_int hx
      have hff := mok.cr f hf
      walk_at "gs"
      refine ⟨rfl, ?_⟩
      walk_at "gs"
      refine S.lenT (K := K) (ds := code.map ordD) (hc.to (g1.fs.trans g2.fs)) g2.sub ?_
      walk_at "gs"
      refine ⟨F2, _, .int f, 0, _, rfl, g2.sub, .int _, ?_⟩
      rw [from_ok hff.1 (by rw [List.length_map]; exact hff.2)]
      exact q F2 H2 (Gr.refl g2.sub)
    walk_at "gd"
    refine ⟨D2, List.replicate _ true, rfl, hL2, ?_⟩
    rw [repl_all]
    walk_at "gd"
    exact ⟨F2, _, m.mem, rfl, g2.sub, h4.to (g1.fs.trans g2.fs), mok.me, fun F3 H3 g3 => k F3 H3 ((g1.trans g2).trans g3)⟩

theorem ok_is_machine {P : Program} {w : World} {K : PySem.W.Frag} {mg : Str → Option Value} {base : Heap} {f : Addr} {fd : FuncData} (F : Fun K "is_machine" "is_machine" s_is_machine f fd) (B : Blt mg)
    (c_need_code : Cal P w K mg base CX0 5 "need_code" P_need_code (spNeedCode K)) (c_is_a_machine : Cal P w K mg base CX0 5 "is_a_machine" P_is_a_machine (spIsMach K))
    : FnOk P w K mg base CX0 (5 + 1) f fd P_is_machine (spIsMach K) := by
  refine F.ok sc_is_machine (fun vs H Q E h => ?_) (fun cdv A outer s H vs Q E hr h => ?_)
  · obtain ⟨F, v, u, code, m, rfl, _⟩ := h; rfl
  · have hu := hu_of hr
    have hu64 := Room.units hr
    obtain ⟨F, v, u, code, m, rfl, sm, hc, ok, hm, mok, k⟩ := h
    refine ⟨_, (pss_cons (ps_expr (pe_cal c_need_code (hr.mono (by first | decide | omega)) pass0 (pa_cons (pv 0) pa_nil)))
      (pss_one (ps_ret (pe_cal c_is_a_machine (hr.mono (by first | decide | omega)) pass0 (pa_cons (pv 0) (pa_cons (pv 1) pa_nil)))))), ?_⟩
    try dsimp only [cxOf, Cx.nox, Cx.wish]
    walk_at "go"
    refine ⟨F, v, code, rfl, sm, hc, ok, fun F1 H1 g1 => ?_⟩
    walk_at "go"
    exact ⟨F1, v, u, code, m, rfl, g1.sub, hc.to g1.fs, ok, hm.to g1.fs, mok, fun F2 H2 g2 => k F2 H2 (g1.trans g2)⟩

theorem ok_need_machine {P : Program} {w : World} {K : PySem.W.Frag} {mg : Str → Option Value} {base : Heap} {f : Addr} {fd : FuncData} (F : Fun K "need_machine" "need_machine" s_need_machine f fd) (B : Blt mg)
    (c_need_code : Cal P w K mg base CX0 5 "need_code" P_need_code (spNeedCode K)) (c_is_a_machine : Cal P w K mg base CX0 5 "is_a_machine" P_is_a_machine (spIsMach K))
    : FnOk P w K mg base CX0 (5 + 1) f fd P_need_machine (spNeedMach K) := by
  refine F.ok sc_need_machine (fun vs H Q E h => ?_) (fun cdv A outer s H vs Q E hr h => ?_)
  · obtain ⟨F, v, u, code, m, rfl, _⟩ := h; rfl
  · have hu := hu_of hr
    have hu64 := Room.units hr
    obtain ⟨F, v, u, code, m, rfl, sm, hc, ok, hm, mok, k⟩ := h
    refine ⟨_, (pss_cons (ps_expr (pe_cal c_need_code (hr.mono (by first | decide | omega)) pass0 (pa_cons (pv 0) pa_nil)))
      (pss_one (ps_if (pt_not (pt_val (pe_cal c_is_a_machine (hr.mono (by first | decide | omega)) pass0 (pa_cons (pv 0) (pa_cons (pv 1) pa_nil))))) (pss_one (ps_never)) pss_nil))), ?_⟩
    try dsimp only [cxOf, Cx.nox, Cx.wish]
    walk_at "go"
    refine ⟨F, v, code, rfl, sm, hc, ok, fun F1 H1 g1 => ?_⟩
    walk_at "go"
    refine ⟨F1, v, u, code, m, rfl, g1.sub, hc.to g1.fs, ok, hm.to g1.fs, mok, fun F2 H2 g2 => ?_⟩
    walk_at "gd"
    exact S.next (k F2 H2 (g1.trans g2))

theorem ok_need_turns {P : Program} {w : World} {K : PySem.W.Frag} {mg : Str → Option Value} {base : Heap} {f : Addr} {fd : FuncData} (F : Fun K "need_turns" "need_turns" s_need_turns f fd) (B : Blt mg)
    (c_is_from : Cal P w K mg base CX0 1 "is_from" P_is_from (spIsFrom K))
    : FnOk P w K mg base CX0 (1 + 1) f fd P_need_turns (spNeedTurns) := by
  refine F.ok sc_need_turns (fun vs H Q E h => ?_) (fun cdv A outer s H vs Q E hr h => ?_)
  · obtain ⟨t, most, rfl, _⟩ := h; rfl
  · have hu := hu_of hr
    have hu64 := Room.units hr
    obtain ⟨t, most, rfl, h0, h1, k⟩ := h
    refine ⟨_, (pss_one (ps_if (pt_not (pt_val (pe_cal c_is_from (hr.mono (by first | decide | omega)) pass0 (pa_cons (pv 0) (pa_cons (pe_int) (pa_cons (pv 1) pa_nil)))))) (pss_one (ps_never)) pss_nil)), ?_⟩
    try dsimp only [cxOf, Cx.nox, Cx.wish]
    walk_at "go"
    refine ⟨fun _ => none, _, .int t, 0, most, rfl, (fun _ _ z => by cases z), .int t, ?_⟩
    rw [isFrom_of h0 h1]
    walk_at "gd"
    exact S.next k

theorem ok_first_machine {P : Program} {w : World} {K : PySem.W.Frag} {mg : Str → Option Value} {base : Heap} {f : Addr} {fd : FuncData} (F : Fun K "first_machine" "first_machine" s_first_machine f fd) (B : Blt mg)
    (c_need_memory : Cal P w K mg base CX0 5 "need_memory" P_need_memory (spNeedMem K)) (g_REGISTERS : GV mg "REGISTERS" (.int 8))
    : FnOk P w K mg base CX0 (5 + 1) f fd P_first_machine (spFirst K) := by
  refine F.ok sc_first_machine (fun vs H Q E h => ?_) (fun cdv A outer s H vs Q E hr h => ?_)
  · obtain ⟨F, v, mem, rfl, _⟩ := h; rfl
  · have hu := hu_of hr
    have hu64 := Room.units hr
    obtain ⟨F, v, mem, rfl, sm, hv, hm, k⟩ := h
    refine ⟨_, (pss_cons (ps_expr (pe_cal c_need_memory (hr.mono (by first | decide | omega)) pass0 (pa_cons (pv 0) pa_nil)))
      (pss_one (ps_ret (pe_tup (pa_cons (pe_int) (pa_cons (pe_op op_repT (pe_tup (pa_cons (pe_int) pa_nil)) (pe_gv g_REGISTERS)) (pa_cons (pe_tup pa_nil) (pa_cons (pv 0) pa_nil)))))))), ?_⟩
    try dsimp only [cxOf, Cx.nox, Cx.wish]
    walk_at "go"
    refine ⟨F, v, mem, rfl, sm, hv.dp, hm, fun F1 H1 g1 => ?_⟩
    walk_at "go"
    refine new_tupS g1.sub (fun z g2 hz => ?_) (by show 1 ≤ sizeLine; decide)
    generalize upd H1 z _ = H2 at *
    have hzz := hz
    walk_at "go"
    refine ⟨z, 8, [.int 0], rfl, rfl, .inl (.inl hz), by simp, by decide, by decide, by simp, ?_⟩
    rw [show (List.replicate (8 : Int).toNat [V.int 0]).flatten = [0, 0, 0, 0, 0, 0, 0, 0].map V.int from rfl]
    refine made_tupG (K := K) (ds := [0, 0, 0, 0, 0, 0, 0, 0].map .int) g2.sub (dp_ints [0, 0, 0, 0, 0, 0, 0, 0]) fun l3 F3 g3 hl3 hv3 => ?_
    generalize upd H2 l3 _ = H3 at *
    walk_at "go"
    refine new_tupG (K := K) (ds := []) g3.sub .nil (by show 0 ≤ sizeLine; decide) fun l4 F4 g4 hl4 hv4 => ?_
    generalize upd H3 l4 _ = H4 at *
    walk_at "go"
    refine ⟨by show 4 ≤ sizeLine; decide, fun t ht => ?_⟩
    have g14 := ((g1.trans g2).trans g3).trans g4
    have g5 : Gr [] F4 H4 _ _ := Gr.new (o := .tup [.int 0, .ref l3, .ref l4, v]) g4.sub ht
    refine k _ _ _ (g14.trans g5) ⟨t, _, _, _, _, rfl, .inl (.inl upd_same), rfl, (hv3.to g4.fs).to g5.fs, hv4.to g5.fs, hv.to (g14.trans g5).fs⟩

theorem ok_turned {P : Program} {w : World} {K : PySem.W.Frag} {mg : Str → Option Value} {base : Heap} {f : Addr} {fd : FuncData} (F : Fun K "turned" "turned" s_turned f fd) (B : Blt mg)
    {C4 C5 C6 : Addr} (TR : RnC K C5) (c_need_machine : Cal P w K mg base CX0 6 "need_machine" P_need_machine (spNeedMach K)) (c_Running : CCal P w K mg base CX0 4 C5 "Running" P_Running___init__ (spRnInit K C4 C5 C6)) (c_Running_ahead : MCal P w K mg base CX0 3 C5 "ahead" P_Running_ahead (spAhead K C4 C5 C6)) (c_Running_go : MCal P w K mg base CX0 4 C5 "go" P_Running_go (spGo K C4 C5 C6)) (c_Running_as_machine : MCal P w K mg base CX0 2 C5 "as_machine" P_Running_as_machine (spAsMach K C4 C5 C6))
    : FnOk P w K mg base CX0 (6 + 1) f fd P_turned (spTurn1 K) := by
  refine F.ok sc_turned (fun vs H Q E h => ?_) (fun cdv A outer s H vs Q E hr h => ?_)
  · obtain ⟨F, v, u, code, m, rfl, _⟩ := h; rfl
  · have hu := hu_of hr
    have hu64 := Room.units hr
    have cl_Running := TR.cl
    obtain ⟨F, v, u, code, m, rfl, sm, hc, ok, hm, mok, k⟩ := h
    refine ⟨_, (pss_cons (ps_expr (pe_cal c_need_machine (hr.mono (by first | decide | omega)) pass0 (pa_cons (pv 0) (pa_cons (pv 1) pa_nil))))
      (pss_cons (ps_set (i := 2) sc_turned.nd rfl (Or.inl rfl) (pe_ccal c_Running (hr.mono (by first | decide | omega)) pass0 (pa_cons (pv 0) (pa_cons (pv 1) pa_nil))))
      (pss_cons (ps_set (i := 3) sc_turned.nd rfl (Or.inl rfl) (pe_mcal0 c_Running_ahead cl_Running (hr.mono (by first | decide | omega)) pass0 (pv 2)))
      (pss_cons (ps_if (pt_cmpR op_isNotU (pv 3) (pe_non) (nomark _)) (pss_one (ps_ret (pv 3))) pss_nil)
      (pss_cons (ps_expr (pe_mcal0 c_Running_go cl_Running (hr.mono (by first | decide | omega)) pass0 (pv 2)))
      (pss_one (ps_ret (pe_tup (pa_cons (pe_str) (pa_cons (pe_mcal0 c_Running_as_machine cl_Running (hr.mono (by first | decide | omega)) pass0 (pv 2)) pa_nil)))))))))), ?_⟩
    try dsimp only [cxOf, Cx.nox, Cx.wish]
    walk_at "go"
    refine ⟨F, v, u, code, m, rfl, sm, hc, ok, hm.dp, mok, fun F1 H1 g1 => ?_⟩
    walk_at "go"
    intro rn dxr hrn0 hdx0 ndx
    have gA : Gr [] F1 H1 F1 _ := (Gr.newOwn (o := .own rn) g1.sub hdx0).poke (q := rn) (o := .ins C5 dxr []) hrn0 (sub_free g1.sub hrn0)
    have hrn1 : upd (upd H1 dxr (.own rn)) rn (.ins C5 dxr []) rn = _ := upd_same
    generalize upd (upd H1 dxr (.own rn)) rn (.ins C5 dxr []) = Ha at *
    refine ⟨F1, rn, dxr, v, u, code, m, rfl, gA.sub, sub_free g1.sub hrn0, hrn1, hc.to g1.fs, hm.to g1.fs, mok, fun F2 H2 sp ra ca pc kd g2 hR hfr => ⟨rfl, ?_⟩⟩
    have g12 : Gr [] F1 H1 F2 H2 := gA.fresh g2 fun x hx => by rw [List.mem_singleton.mp hx]; exact hrn0
    have g02 := g1.trans g12
    obtain ⟨dx2, hrn2⟩ := hR.ob
    walk_at "go"
    refine meth_of hrn2 rfl ?_
    walk_at "go"
    refine ⟨F2, rn, v, code, m, m.mem, sp, ra, ca, pc, kd, rfl, g2.sub, ok, mok, hR, ?_⟩
    cases eh : haltR code m with
    | some r =>
      intro w3 F3 H3 g3 hw3
      have nn : w3 ≠ .non := fun e => by
        rw [e] at hw3
        cases r <;> cases hw3
      walk_at "go"
      rw [decide_eq_false nn]
      walk_at "gd"
      rw [step_halt.1 r eh] at k
      exact k _ F3 H3 (g02.trans g3) hw3
    | none =>
      intro F3 H3 g3
      obtain ⟨o, eo, eho, est⟩ := step_halt.2 eh
      rw [est] at k
      have hR3 := hR.gr0 g3
      obtain ⟨dx3, hrn3⟩ := hR3.ob
      walk_at "gd"
      refine meth_of hrn3 rfl ?_
      walk_at "go"
      refine ⟨F3, rn, v, code, m, m.mem, sp, ra, ca, pc, kd, o, rfl, g3.sub, ok, mok, hR3, eo, eho, fun H4 kept4 g4 hR4 => ?_⟩
      have mok4 := next_ok mok (ok.ok o (List.mem_of_getElem? eo)) (by
        rcases at_some mok with ⟨_, e⟩ | ⟨e, _⟩
        · rw [e] at eo; cases eo
        · exact e) eho
      obtain ⟨dx4, hrn4⟩ := hR4.ob
      walk_at "go"
      refine meth_of hrn4 rfl ?_
      walk_at "go"
      refine ⟨F3, rn, v, code, _, kept4, sp, ra, ca, pc, kd, rfl, g4.sub, mok4, hR4, fun w5 F5 H5 g5 hw5 => ?_⟩
      walk_at "go"
      refine new_tupG (K := K) (ds := [.str "goes", machD (nextO o m)]) g5.sub (.cons (.str _) (.cons hw5 .nil)) (by show 2 ≤ sizeLine; decide) fun t F6 g6 ht hv => ?_
      have g04 : Gr [] F H F3 H4 := (g02.trans g3).fresh g4 fun x hx => g1.free (by
        rcases List.mem_cons.mp hx with e | e
        · rw [e]; exact hrn0
        · exact gA.free (hfr x e))
      exact k _ F6 _ ((g04.trans g5).trans g6) hv

theorem ok_run {P : Program} {w : World} {K : PySem.W.Frag} {mg : Str → Option Value} {base : Heap} {f : Addr} {fd : FuncData} (F : Fun K "run" "run" s_run f fd) (B : Blt mg)
    {C4 C5 C6 : Addr} (TR : RnC K C5) (c_need_machine : Cal P w K mg base CX0 6 "need_machine" P_need_machine (spNeedMach K)) (c_need_turns : Cal P w K mg base CX0 2 "need_turns" P_need_turns spNeedTurns) (c_Running : CCal P w K mg base CX0 4 C5 "Running" P_Running___init__ (spRnInit K C4 C5 C6)) (c_Running_ahead : MCal P w K mg base CX0 3 C5 "ahead" P_Running_ahead (spAhead K C4 C5 C6)) (c_Running_go : MCal P w K mg base CX0 4 C5 "go" P_Running_go (spGo K C4 C5 C6)) (c_Running_as_machine : MCal P w K mg base CX0 2 C5 "as_machine" P_Running_as_machine (spAsMach K C4 C5 C6)) (g_MOST_TURNS : GV mg "MOST_TURNS" (.int 100000))
    : FnOk P w K mg base CX0 (6 + 1) f fd P_run (spRun K) := by
  refine F.ok sc_run (fun vs H Q E h => ?_) (fun cdv A outer s H vs Q E hr h => ?_)
  · obtain ⟨F, v, u, code, m, t, rfl, _⟩ := h; rfl
  · have hu := hu_of hr
    have hu64 := Room.units hr
    have cl_Running := TR.cl
    obtain ⟨F, v, u, code, m, t, rfl, sm, hc, ok, hm, mok, ht, k⟩ := h
    refine ⟨_, (pss_cons (ps_expr (pe_cal c_need_machine (hr.mono (by first | decide | omega)) pass0 (pa_cons (pv 0) (pa_cons (pv 1) pa_nil))))
      (pss_cons (ps_expr (pe_cal c_need_turns (hr.mono (by first | decide | omega)) pass0 (pa_cons (pv 2) (pa_cons (pe_gv g_MOST_TURNS) pa_nil))))
      (pss_cons (ps_set (i := 3) sc_run.nd rfl (Or.inl rfl) (pe_ccal c_Running (hr.mono (by first | decide | omega)) pass0 (pa_cons (pv 0) (pa_cons (pv 1) pa_nil))))
      (pss_cons (ps_set (i := 4) sc_run.nd rfl (Or.inl rfl) (pe_int))
      (pss_cons (ps_set (i := 5) sc_run.nd rfl (Or.inl rfl) (pe_mcal0 c_Running_ahead cl_Running (hr.mono (by first | decide | omega)) pass0 (pv 3)))
      (pss_cons (ps_while PassesOwn.never (PW.pt (pw_and (pt_cmpR op_isU (pv 5) (pe_non) (nomark _)) (pw_and1 (pt_cmpR op_lt (pv 4) (pv 2) (nomark _))))) (pss_cons (ps_expr (pe_mcal0 c_Running_go cl_Running (hr.mono (by first | decide | omega)) pass0 (pv 3)))
      (pss_cons (ps_aug (i := 4) sc_run.nd rfl (Or.inl rfl) (pe_int) ip_add)
      (pss_one (ps_set (i := 5) sc_run.nd rfl (Or.inl rfl) (pe_mcal0 c_Running_ahead cl_Running (hr.mono (by first | decide | omega)) pass0 (pv 3)))))))
      (pss_one (ps_ret (pe_tup (pa_cons (pe_ifExp (pt_cmpR op_isU (pv 5) (pe_non) (nomark _)) (pe_tup (pa_cons (pe_str) pa_nil)) (pv 5)) (pa_cons (pe_mcal0 c_Running_as_machine cl_Running (hr.mono (by first | decide | omega)) pass0 (pv 3)) (pa_cons (pv 4) pa_nil)))))))))))), ?_⟩
    try dsimp only [cxOf, Cx.nox, Cx.wish]
    walk_at "go"
    refine ⟨F, v, u, code, m, rfl, sm, hc, ok, hm.dp, mok, fun F1 H1 g1 => ?_⟩
    walk_at "go"
    refine ⟨t, 100000, rfl, by omega, by omega, ?_⟩
    walk_at "go"
    intro rn dxr hrn0 hdx0 ndx
    have gA : Gr [] F1 H1 F1 _ := (Gr.newOwn (o := .own rn) g1.sub hdx0).poke (q := rn) (o := .ins C5 dxr []) hrn0 (sub_free g1.sub hrn0)
    have hrn1 : upd (upd H1 dxr (.own rn)) rn (.ins C5 dxr []) rn = _ := upd_same
    generalize upd (upd H1 dxr (.own rn)) rn (.ins C5 dxr []) = Ha at *
    refine ⟨F1, rn, dxr, v, u, code, m, rfl, gA.sub, sub_free g1.sub hrn0, hrn1, hc.to g1.fs, hm.to g1.fs, mok, fun F2 H2 sp ra ca pc kd g2 hR hfr => ⟨rfl, ?_⟩⟩
    have g12 : Gr [] F1 H1 F2 H2 := gA.fresh g2 fun x hx => by rw [List.mem_singleton.mp hx]; exact hrn0
    have g02 := g1.trans g12
    have fr : ∀ x ∈ [rn, sp, ra, ca, pc, kd], H x = none := fun x hx => g1.free (by
      rcases List.mem_cons.mp hx with e | e
      · rw [e]; exact hrn0
      · exact gA.free (hfr x e))
    obtain ⟨dx2, hrn2⟩ := hR.ob
    walk_at "go"
    refine meth_of hrn2 rfl ?_
    walk_at "go"
    refine ⟨F2, rn, v, code, m, m.mem, sp, ra, ca, pc, kd, rfl, g2.sub, ok, mok, hR, ?_⟩
    refine tellH_of fun w3 F3 H3 g3 hw3 => ?_
    walk_at "go"
    refine S.whileS (fun mm σ H' => ∃ j m1 kept F' w, mm + j = t ∧ Chain code m j m1 ∧ MchOk code.length m1 ∧ Gr [] F H F' H' ∧ RnAt K C4 C5 C6 F' H' rn v code m1 kept sp ra ca pc kd ∧ TellV K F' w (haltR code m1) ∧
      σ = [some v, some u, some (.int t), some (.ref rn), some (.int j), some w]) t ⟨0, m, m.mem, F3, w3, rfl, .zero, mok, g02.trans g3, hR.gr0 g3, hw3, rfl⟩ ?_
    rintro mm σ H' ⟨j, m1, kept, F', w4, hj, hch, mok1, g, hR1, hw4, rfl⟩
    obtain ⟨dx4, hrn4⟩ := hR1.ob
    have fin : ∀ told : Told, (told = .on ∧ w4 = .non ∨ w4 ≠ .non ∧ Dp K F' w4 (toldD told)) → runR code t m 0 = (told, m1, j) → tRet (tTup (tCons (tIf (tTest (tOp rIsU (tVar 5) (tC V.non))) (tTup (tCons (tC (V.str "goes on")) tNil)) (tVar 5)) (tCons (tMeth C5 "as_machine" (spAsMach K C4 C5 C6) [] E0 (tVar 3) tNil) (tCons (tVar 4) tNil)))) { nx := fun _ H' => Q V.non H', rt := Q } [some v, some u, some (.int t), some (.ref rn), some (.int j), some w4] H' := by
      intro told ht er
      have fin2 : ∀ w5 F5 H5, Gr [] F' H' F5 H5 → Dp K F5 w5 (toldD told) → tMeth C5 "as_machine" (spAsMach K C4 C5 C6) [] E0 (tVar 3) tNil [some v, some u, some (.int t), some (.ref rn), some (.int j), some w4] H5 (fun x H6 => (tCons (tVar 4) tNil) [some v, some u, some (.int t), some (.ref rn), some (.int j), some w4] H6 fun xs H7 => (w5 :: x :: xs).length ≤ sizeLine ∧ ∀ p, H7 p = none → Q (.ref p) (upd H7 p (.tup (w5 :: x :: xs)))) := by
        intro w5 F5 H5 g5 hw5
        have hR5 := hR1.gr0 g5
        obtain ⟨dx5, hrn5⟩ := hR5.ob
        walk_at "go"
        refine meth_of hrn5 rfl ?_
        walk_at "go"
        refine ⟨F5, rn, v, code, m1, kept, sp, ra, ca, pc, kd, rfl, g5.sub, mok1, hR5, fun w6 F6 H6 g6 hw6 => ?_⟩
        walk_at "go"
        refine new_tupG (K := K) (ds := [toldD told, machD m1, .int j]) g6.sub (.cons (hw5.to g6.fs) (.cons hw6 (.cons (.int _) .nil))) (by show 3 ≤ sizeLine; decide) fun t7 F7 g7 ht7 hv7 => ?_
        refine k _ F7 _ (((g.trans g5).trans g6).trans g7) ?_
        rw [er]
        exact hv7
      walk_at "go"
      rcases ht with ⟨rfl, rfl⟩ | ⟨nn, hd⟩
      · walk_at "gd"
        refine new_tupG (K := K) (ds := [.str "goes on"]) g.sub (.cons (.str _) .nil) (by show 1 ≤ sizeLine; decide) fun t7 F7 g7 ht7 hv7 => ?_
        exact fin2 _ F7 _ g7 hv7
      · refine S.iteF (decide_eq_false nn) ?_
        refine S.var rfl ?_
        exact fin2 _ F' H' (Gr.refl g.sub) hd
    walk_at "go"
    cases eh : haltR code m1 with
    | some r =>
      rw [eh] at hw4
      rw [decide_eq_false hw4.1]
      refine S.iteF rfl ?_
      refine S.iteF rfl ?_
      exact fin (.ends r) (.inr hw4) (run_some hch (by omega) eh)
    | none =>
      rw [eh] at hw4
      obtain rfl : w4 = .non := hw4
      obtain ⟨o, eo, eho, est⟩ := step_halt.2 eh
      walk_at "gd"
      refine S.ite (fun e => ?_) (fun e => ?_)
      · have hjt : (j : Int) < t := of_decide_eq_true e
        refine ⟨_, fun σ' H' h => h, ?_⟩
        walk_at "go"
        refine meth_of hrn4 rfl ?_
        walk_at "go"
        refine ⟨F', rn, v, code, m1, kept, sp, ra, ca, pc, kd, o, rfl, g.sub, ok, mok1, hR1, eo, eho, fun H5 kept5 g5 hR5 => ?_⟩
        have mok5 := next_ok mok1 (ok.ok o (List.mem_of_getElem? eo)) (by
          rcases at_some mok1 with ⟨_, e⟩ | ⟨e, _⟩
          · rw [e] at eo; cases eo
          · exact e) eho
        have g05 : Gr [] F H F' H5 := g.fresh g5 fr
        obtain ⟨dx5, hrn5⟩ := hR5.ob
        walk_at "go"
        refine S.aug ⟨_, rfl, ?_⟩
        walk_at "go"
        refine ⟨_, _, rfl, rfl, ?_⟩
        walk_at "go"
        refine meth_of hrn5 rfl ?_
        walk_at "go"
        refine ⟨F', rn, v, code, _, kept5, sp, ra, ca, pc, kd, rfl, g5.sub, ok, mok5, hR5, ?_⟩
        refine tellH_of fun w6 F6 H6 g6 hw6 => ?_
        exact ⟨mm - 1, by omega, j + 1, _, kept5, F6, w6, by omega, .succ hch est, mok5, g05.trans g6, hR5.gr0 g6, hw6, rfl⟩
      · have hjt : ¬ (j : Int) < t := of_decide_eq_false e
        obtain rfl : j = t := by omega
        exact fin .on (.inl ⟨rfl, rfl⟩) (run_none hch eh)

theorem ok__law_deck {P : Program} {w : World} {K : PySem.W.Frag} {mg : Str → Option Value} {base : Heap} {f : Addr} {fd : FuncData} (F : Fun K "_law_deck" "_law_deck" s__law_deck f fd) (B : Blt mg)
    : FnOk P w K mg base CX0 (0 + 1) f fd P__law_deck (spDeck K) := by
  refine F.ok sc__law_deck (fun vs H Q E h => ?_) (fun cdv A outer s H vs Q E hr h => ?_)
  · obtain ⟨F, a, ns, k, rfl, _⟩ := h; rfl
  · have hu := hu_of hr
    have hu64 := Room.units hr
    obtain ⟨F, sa, ns, k, rfl, sm, hs, hl, hk0, hk1, kk⟩ := h
    refine ⟨_, (pss_cons (ps_set (i := 2) sc__law_deck.nd rfl (Or.inl rfl) (pe_op op_addU (pe_op op_mulW (pe_int) (pv 1)) (pe_int)))
      (pss_cons (ps_set (i := 3) sc__law_deck.nd rfl (Or.inl rfl) (pe_op op_addU (pe_int) (pv 1)))
      (pss_cons (ps_if (pt_cmpR op_lt (pv 1) (pe_callB call_lenU rfl B.m_len (by first | exact PySem.boot_len | decide +kernel) (pa_cons (pv 0) pa_nil)) (nomark _)) (pss_one (ps_set (i := 2) sc__law_deck.nd rfl (Or.inl rfl) (pe_op op_mod (pe_callTy call_int1 rfl B.m_int (by decide +kernel) (pa_cons (pe_callB call_abs rfl B.m_abs (by first | exact PySem.boot_abs | decide +kernel) (pa_cons (pe_callTy call_int1 rfl B.m_int (by decide +kernel) (pa_cons (pe_ix ix_seq (pv 0) (pv 1) (fun _ _ => rfl)) pa_nil)) pa_nil)) pa_nil)) (pe_op op_addU (pe_op op_powW (pe_op op_powW (pe_int) (pe_int)) (pe_int)) (pe_int))))) pss_nil)
      (pss_cons (ps_for PassesOwn.never rfl (pi_seq (pv 0)) (pg_name (i := 4) sc__law_deck.nd rfl (Or.inl rfl)) (pss_one (ps_set (i := 3) sc__law_deck.nd rfl (Or.inl rfl) (pe_op op_mod (pe_callTy call_int1 rfl B.m_int (by decide +kernel) (pa_cons (pe_op op_addU (pe_op op_addU (pe_op op_mulW (pv 3) (pe_int)) (pe_op op_mod (pe_callTy call_int1 rfl B.m_int (by decide +kernel) (pa_cons (pv 4) pa_nil)) (pe_op op_addU (pe_op op_powW (pe_int) (pe_int)) (pe_int)))) (pe_int)) pa_nil)) (pe_op op_addU (pe_op op_powW (pe_int) (pe_int)) (pe_int))))))
      (pss_one (ps_ret (pe_lst (pa_cons (pe_callB (call_max2 rfl) rfl B.m_max (by first | exact PySem.boot_max | decide +kernel) (pa_cons (pe_int) (pa_cons (pe_op op_sub (pv 2) (pe_op op_powW (pe_int) (pe_int))) pa_nil))) (pa_cons (pe_op op_addU (pe_op op_mulW (pv 3) (pe_int)) (pe_op op_mod (pe_callTy call_int1 rfl B.m_int (by decide +kernel) (pa_cons (pv 2) pa_nil)) (pe_op op_addU (pe_op op_powW (pe_int) (pe_int)) (pe_int)))) (pa_cons (pe_int) pa_nil)))))))))), ?_⟩
    try dsimp only [cxOf, Cx.nox, Cx.wish]
    walk_at "sq"
    walk_at "gs"
    refine S.rI (wide_mul (a := 5) (b := 7) (by decide) (abs_lt (n := 7) hk0 (by omega)) (by decide) (by decide) (by decide)) ?_
    walk_at "gs"
    walk_at "sq"
    walk_at "gs"
    with_reducible refine S.seqJ (fun σ' H' => H = H' ∧ ∃ c : Int, 0 ≤ c ∧ c < 2 ^ 1100 ∧ σ' = ((L2.start N__law_deck [V.ref sa, V.int k]).set 2 (some (.int c))).set 3 (some (.int (5 + k)))) ?_ ?_
    · rintro σ' _ ⟨rfl, c, hc0, hc1, rfl⟩
      walk_at "sq"
      refine S.forS (S.iSeqL ?_)
      walk_at "gs"
      refine ⟨sa, rfl, ⟨_, hs⟩, ?_⟩
      refine for_it (walk_list (K := K) (a := sa) (xs := ns.map V.int)) (fun i σ H' => H = H' ∧ ∃ (st : Int) (o : Option V), 0 ≤ st ∧ st < 2 ^ 100 ∧ σ = (((L2.start N__law_deck [V.ref sa, V.int k]).set 2 (some (.int c))).set 3 (some (.int st))).set 4 o) ?_ ?_ ?_ ?_
      · exact ⟨rfl, 5 + k, none, by omega, Int.lt_trans (show 5 + k < 70 by omega) (by decide +kernel), rfl⟩
      · rintro i σ _ _ ⟨rfl, _⟩; exact hs
      · rintro i x σ H' _ hi ⟨rfl, st, o, h0, h1, rfl⟩ ⟨rfl, hx⟩
        rw [List.getElem?_map] at hx
        obtain ⟨z, hz⟩ : ∃ z, ns[i]? = some z := by
          cases q : ns[i]? with
          | none => rw [q] at hx; cases hx
          | some c => exact ⟨c, rfl⟩
        rw [hz] at hx
        obtain rfl : V.int z = x := Option.some.inj hx
        walk_at "gs"
        refine S.rI (wide_mul (a := 100) (b := 13) (abs_lt h0 h1) (by decide) (by decide) (by decide) (by decide)) ?_
        walk_at "gs"
        refine .inl (S.vs1 ?_)
        walk_at "gs"
        refine S.rI (ten_pow 24 (by decide)) ?_
        walk_at "gs"
        refine S.rI (show (0 : Int) < 10 ^ Int.toNat 24 + 7 by decide +kernel) ?_
        walk_at "gs"
        refine .inl (S.vs1 ?_)
        walk_at "gs"
        refine S.rI (ten_pow 30 (by decide)) ?_
        walk_at "gs"
        refine S.rI (show (0 : Int) < 10 ^ Int.toNat 30 + 57 by decide +kernel) ?_
        walk_at "gs"
        have hm := mod_lt (x := st * 6151 + z % (10 ^ Int.toNat 24 + 7) + 1) (M := 10 ^ Int.toNat 30 + 57) (n := 100) (by decide +kernel) (by decide +kernel)
        exact ⟨rfl, _, some (.int z), hm.2.1, Int.lt_trans hm.2.2 (by decide +kernel), rfl⟩
      · rintro σ _ ⟨rfl, st, o, h0, h1, rfl⟩
        walk_at "go"
        refine S.rI (ten_pow 18 (by decide)) ?_
        walk_at "go"
        walk_at "go"
        refine S.rI (wide_mul (a := 100) (b := 3) (abs_lt h0 h1) (by decide) (by decide) (by decide) (by decide)) ?_
        walk_at "go"
        refine .inl (S.vs1 ?_)
        walk_at "go"
        refine S.rI (ten_pow 20 (by decide)) ?_
        walk_at "go"
        refine S.rI (show (0 : Int) < 10 ^ Int.toNat 20 + 39 by decide +kernel) ?_
        walk_at "go"
        refine own_lstG sm (by show 3 ≤ sizeLine; decide) fun q g hq fq hqq => ?_
        have hm := mod_lt (x := c) (M := 10 ^ Int.toNat 20 + 39) (n := 100) (by decide +kernel) (by decide +kernel)
        have hp : (0 : Int) ≤ 10 ^ Int.toNat 18 := by decide +kernel
        refine kk q _ g hq fq ⟨_, _, _, hqq, ?_, ?_, ?_, ?_, Int.le_refl _, Int.le_refl _⟩
        · by_cases e : c - 10 ^ Int.toNat 18 > 0
          · rw [if_pos e]; omega
          · rw [if_neg e]; decide
        · by_cases e : c - 10 ^ Int.toNat 18 > 0
          · rw [if_pos e]; omega
          · rw [if_neg e]; decide +kernel
        · omega
        · have h5 : (10 : Int) ^ Int.toNat 20 + 39 < 2 ^ 100 := by decide +kernel
          have h6 : (2 : Int) ^ 100 * 7 + 2 ^ 100 < 2 ^ 120 := by decide +kernel
          omega
    · intro hrest
      walk_at "gs"
      refine S.lenSL hs ?_
      walk_at "gs"
      refine S.ite (fun e => ?_) (fun e => ?_)
      · have e' : k < (ns.map V.int).length := by simpa using e
        rw [List.length_map] at e'
        walk_at "gs"
        have hj : k.toNat < ns.length := by omega
        refine S.ixSL hs (w := .int ns[k.toNat]) ?_ ?_
        · have ek : k = ((k.toNat : Nat) : Int) := by omega
          conv => lhs; rw [ek]
          apply S.atI_nat
          rw [List.getElem?_map, List.getElem?_eq_getElem hj]; rfl
        refine .inl (S.vs1 ?_)
        walk_at "gs"
        walk_at "gs"
        refine .inl (S.vs1 ?_)
        walk_at "gs"
        refine S.rI (ten_pow 60 (by decide)) ?_
        walk_at "gs"
        refine S.rI (show CPowW (10 ^ Int.toNat 60) 5 from powW_of (a := 200) (b := 5) (by decide +kernel) (by decide) (by decide) (by decide) (by decide)) ?_
        walk_at "gs"
        refine S.rI (show (0 : Int) < (10 ^ Int.toNat 60) ^ Int.toNat 5 + 3 by decide +kernel) ?_
        walk_at "gs"
        have hm := mod_lt (x := if ns[k.toNat] < 0 then -ns[k.toNat] else ns[k.toNat]) (M := (10 ^ Int.toNat 60) ^ Int.toNat 5 + 3) (n := 1100) (by decide +kernel) (by decide +kernel)
        exact hrest _ _ ⟨rfl, _, hm.2.1, Int.lt_trans hm.2.2 (by decide +kernel), rfl⟩
      · refine S.next ?_
        refine hrest _ _ ⟨rfl, 29 * k + 11, by omega, ?_, rfl⟩
        have : (29 : Int) * 64 + 11 < 2 ^ 1100 := by decide +kernel
        omega

theorem ok__law_draw {P : Program} {w : World} {K : PySem.W.Frag} {mg : Str → Option Value} {base : Heap} {f : Addr} {fd : FuncData} (F : Fun K "_law_draw" "_law_draw" s__law_draw f fd) (B : Blt mg)
    : FnOk P w K mg base CX0 (0 + 1) f fd P__law_draw (spDraw) := by
  refine F.ok sc__law_draw (fun vs H Q E h => ?_) (fun cdv A outer s H vs Q E hr h => ?_)
  · obtain ⟨F, q, many, m, rfl, _⟩ := h; rfl
  · have hu := hu_of hr
    have hu64 := Room.units hr
    obtain ⟨F, q, many, m, rfl, sm, fq, ⟨a, b, c, hq, a0, a1, b0, b1, c0, c1⟩, hm, h1, h2, k⟩ := h
    refine ⟨_, (pss_cons (ps_if (pt_cmpR op_gt (pe_ix ix_seq (pv 0) (pe_int) (fun _ _ => rfl)) (pe_int) (nomark _)) (pss_cons (ps_set (i := 2) sc__law_draw.nd rfl (Or.inl rfl) (pe_op op_mod (pe_callTy call_int1 rfl B.m_int (by decide +kernel) (pa_cons (pe_ix ix_seq (pv 0) (pe_int) (fun _ _ => rfl)) pa_nil)) (pv 1)))
      (pss_cons (ps_asg (pe_op op_fdivW (pe_ix ix_seq (pv 0) (pe_int) (fun _ _ => rfl)) (pv 1)) (pg_sub (pv 0) (pe_int) set_list))
      (pss_one (ps_ret (pv 2))))) pss_nil)
      (pss_cons (ps_asg (pe_op op_addU (pe_ix ix_seq (pv 0) (pe_int) (fun _ _ => rfl)) (pe_int)) (pg_sub (pv 0) (pe_int) set_list))
      (pss_cons (ps_set (i := 3) sc__law_draw.nd rfl (Or.inl rfl) (pe_op op_mod (pe_callTy call_int1 rfl B.m_int (by decide +kernel) (pa_cons (pe_op op_addU (pe_op op_powW (pe_op op_addU (pe_ix ix_seq (pv 0) (pe_int) (fun _ _ => rfl)) (pe_op op_mulW (pe_int) (pe_ix ix_seq (pv 0) (pe_int) (fun _ _ => rfl)))) (pe_int)) (pe_ix ix_seq (pv 0) (pe_int) (fun _ _ => rfl))) pa_nil)) (pe_op op_addU (pe_op op_powW (pe_int) (pe_int)) (pe_int))))
      (pss_cons (ps_set (i := 3) sc__law_draw.nd rfl (Or.inl rfl) (pe_op op_mod (pe_callTy call_int1 rfl B.m_int (by decide +kernel) (pa_cons (pe_op op_addU (pe_op op_addU (pe_op op_mulW (pv 3) (pv 3)) (pe_ix ix_seq (pv 0) (pe_int) (fun _ _ => rfl))) (pe_op op_mulW (pe_int) (pe_ix ix_seq (pv 0) (pe_int) (fun _ _ => rfl)))) pa_nil)) (pe_op op_addU (pe_op op_powW (pe_int) (pe_int)) (pe_int))))
      (pss_one (ps_ret (pe_op op_mod (pe_callTy call_int1 rfl B.m_int (by decide +kernel) (pa_cons (pe_op op_fdivW (pv 3) (pe_int)) pa_nil)) (pv 1)))))))), ?_⟩
    try dsimp only [cxOf, Cx.nox, Cx.wish]
    walk_at "sq"
    walk_at "gs"
    refine S.ixO hq (w := .int a) rfl ?_
    walk_at "gs"
    refine S.ite (fun e => ?_) (fun e => ?_)
    · have e' : a > 0 := by simpa using e
      walk_at "go"
      refine S.ixO hq (w := .int a) rfl ?_
      walk_at "go"
      refine .inl (S.vs1 ?_)
      walk_at "go"
      refine S.rI (show 0 < many by omega) ?_
      walk_at "go"
      refine S.ixO hq (w := .int a) rfl ?_
      walk_at "go"
      refine S.rI (wide_div (b := 60) (by omega) (abs_lt (by omega) h2) (by decide) (by decide)) ?_
      walk_at "go"
      refine S.setO hq (j := 0) rfl ?_
      walk_at "go"
      have h3 := Int.emod_nonneg a (show many ≠ 0 by omega)
      have h4 := Int.emod_lt_of_pos a (show 0 < many by omega)
      refine k _ _ (Gr.write sm fq (by simp)) ⟨a / many, b, c, upd_same, Int.ediv_nonneg a0 (by omega), ?_, b0, b1, c0, by omega⟩ h3 h4
      have := Int.ediv_le_self many a0
      omega
    · walk_at "go"
      refine S.ixO hq (w := .int c) rfl ?_
      walk_at "go"
      refine S.setO hq (j := 2) rfl ?_
      have g := Gr.write (o := .lst [.int a, .int b, .int (c + 1)]) sm fq (show q ∈ [q] by simp)
      have hq2 : upd H q (.lst [.int a, .int b, .int (c + 1)]) q = some (.lst [.int a, .int b, .int (c + 1)]) := upd_same
      rw [show ([V.int a, V.int b, V.int c].set 2 (V.int (c + 1))) = [.int a, .int b, .int (c + 1)] from rfl]
      generalize upd H q _ = H1 at *
      have c2 : (c + 1).natAbs < 2 ^ 30 := abs_lt (by omega) (by omega)
      walk_at "go"
      refine S.ixO hq2 (w := .int b) rfl ?_
      walk_at "go"
      refine S.ixO hq2 (w := .int (c + 1)) rfl ?_
      refine S.rI (wide_mul (a := 24) (b := 30) (by decide) c2 (by decide) (by decide) (by decide)) ?_
      walk_at "go"
      have hb : (b + 15487469 * (c + 1)).natAbs < 2 ^ 121 := abs_lt (by omega) (by
        have : (2 : Int) ^ 120 + 15487469 * (2 ^ 30) < 2 ^ 121 := by decide +kernel
        omega)
      refine S.rI (show CPowW _ 3 from powW_of (a := 121) (b := 3) hb (by decide) (by decide) (by decide) (by decide)) ?_
      walk_at "go"
      refine S.ixO hq2 (w := .int (c + 1)) rfl ?_
      walk_at "go"
      refine .inl (S.vs1 ?_)
      walk_at "go"
      refine S.rI (ten_pow 31 (by decide)) ?_
      walk_at "go"
      refine S.rI (show (0 : Int) < 10 ^ Int.toNat 31 + 33 by decide +kernel) ?_
      have hm1 := mod_lt (x := (b + 15487469 * (c + 1)) ^ Int.toNat 3 + (c + 1)) (M := 10 ^ Int.toNat 31 + 33) (n := 110) (by decide +kernel) (by decide +kernel)
      generalize ((b + 15487469 * (c + 1)) ^ Int.toNat 3 + (c + 1)) % (10 ^ Int.toNat 31 + 33) = mx at *
      walk_at "go"
      refine S.rI (wide_mul (a := 110) (b := 110) hm1.1 hm1.1 (by decide) (by decide) (by decide)) ?_
      walk_at "go"
      refine S.ixO hq2 (w := .int b) rfl ?_
      walk_at "go"
      refine S.ixO hq2 (w := .int (c + 1)) rfl ?_
      refine S.rI (wide_mul (a := 24) (b := 30) (by decide) c2 (by decide) (by decide) (by decide)) ?_
      walk_at "go"
      refine .inl (S.vs1 ?_)
      walk_at "go"
      refine S.rI (ten_pow 29 (by decide)) ?_
      walk_at "go"
      refine S.rI (show (0 : Int) < 10 ^ Int.toNat 29 + 319 by decide +kernel) ?_
      walk_at "go"
      refine S.rI (wide_div (b := 60) (by decide) (by decide) (by decide) (by decide)) ?_
      walk_at "go"
      refine .inl (S.vs1 ?_)
      walk_at "go"
      refine S.rI (show 0 < many by omega) ?_
      exact k _ H1 g ⟨a, b, c + 1, hq2, a0, a1, b0, b1, by omega, by omega⟩ (Int.emod_nonneg _ (show many ≠ 0 by omega)) (Int.emod_lt_of_pos _ (show 0 < many by omega))

theorem ok__law_pick {P : Program} {w : World} {K : PySem.W.Frag} {mg : Str → Option Value} {base : Heap} {f : Addr} {fd : FuncData} (F : Fun K "_law_pick" "_law_pick" s__law_pick f fd) (B : Blt mg)
    (c__law_draw : Cal P w K mg base CX0 1 "_law_draw" P__law_draw spDraw)
    : FnOk P w K mg base CX0 (1 + 1) f fd P__law_pick (spPick K) := by
  refine F.ok sc__law_pick (fun vs H Q E h => ?_) (fun cdv A outer s H vs Q E hr h => ?_)
  · obtain ⟨F, q, a, xs, m, rfl, _⟩ := h; rfl
  · have hu := hu_of hr
    have hu64 := Room.units hr
    obtain ⟨F, q, a, xs, m, rfl, sm, fq, hq, hm, hxs, hxs2, hne, hlen, k⟩ := h
    refine ⟨_, (pss_one (ps_ret (pe_ix ix_seq (pv 1) (pe_cal c__law_draw (hr.mono (by first | decide | omega)) pass0 (pa_cons (pv 0) (pa_cons (pe_callB call_lenU rfl B.m_len (by first | exact PySem.boot_len | decide +kernel) (pa_cons (pv 1) pa_nil)) pa_nil))) (fun _ _ => rfl)))), ?_⟩
    try dsimp only [cxOf, Cx.nox, Cx.wish]
    walk_at "go"
    have hl0 : 0 < xs.length := List.length_pos_iff.mpr hne
    have fin : ∀ x H', Gr [q] F H F H' → DkAt H' q (m + 1) → 0 ≤ x → x < (xs.length : Int) → rIx K (.ref a) (.int x) H' Q := by
      intro x H' g hq' x0 x1
      have hj : x.toNat < xs.length := by omega
      have e : atI xs x = some xs[x.toNat] := by
        have ek : x = ((x.toNat : Nat) : Int) := by omega
        conv => lhs; rw [ek]
        apply S.atI_nat
        rw [List.getElem?_eq_getElem hj]
      rcases hxs2 H' g with h | h
      · exact S.ixSL h e (k _ _ _ (List.getElem?_eq_getElem hj) g hq')
      · exact S.ixST h e (k _ _ _ (List.getElem?_eq_getElem hj) g hq')
    have hb : (xs.length : Int) < 2 ^ 60 := by omega
    rcases hxs with h | h
    · refine S.lenSL h ?_
      walk_at "go"
      exact ⟨F, q, _, m, rfl, sm, fq, hq, hm, by omega, hb, fun x H' g hq' x0 x1 => fin x H' g hq' x0 x1⟩
    · refine S.lenST h ?_
      walk_at "go"
      exact ⟨F, q, _, m, rfl, sm, fq, hq, hm, by omega, hb, fun x H' g hq' x0 x1 => fin x H' g hq' x0 x1⟩

theorem ok__law_same {P : Program} {w : World} {K : PySem.W.Frag} {mg : Str → Option Value} {base : Heap} {f : Addr} {fd : FuncData} (F : Fun K "_law_same" "_law_same" s__law_same f fd) (B : Blt mg)
    {k n : Nat} (hk : k ≤ 20) (c__law_same : Cal P w K mg base CX0 k "_law_same" P__law_same (spSame K n))
    : FnOk P w K mg base CX0 (k + 1) f fd P__law_same (spSame K (n + 1)) := by
  refine F.ok sc__law_same (fun vs H Q E h => ?_) (fun cdv A outer s H vs Q E hr h => ?_)
  · obtain ⟨F, v, u, d, rfl, _⟩ := h; rfl
  · have hu := hu_of hr
    have hu64 := Room.units hr
    obtain ⟨F, v, u, d, rfl, sm, hv, hu', hdep, hwid, kk⟩ := h
    refine ⟨_, (pss_cons (ps_if (pt_val (pe_callB call_isiT rfl B.m_isinstance (by first | exact PySem.boot_isinstance | decide +kernel) (pa_cons (pv 1) (pa_cons (pe_tup (pa_cons (pe_bltn (v := V.ty "tuple") rfl B.m_tuple (by decide +kernel : bootBuiltins "tuple" = some (.type "tuple")) rfl) (pa_cons (pe_bltn (v := V.ty "list") rfl B.m_list (by decide +kernel : bootBuiltins "list" = some (.type "list")) rfl) pa_nil))) pa_nil)))) (pss_cons (ps_if (PW.pt (pw_or (pt_not (pt_val (pe_callB call_isiT rfl B.m_isinstance (by first | exact PySem.boot_isinstance | decide +kernel) (pa_cons (pv 0) (pa_cons (pe_tup (pa_cons (pe_bltn (v := V.ty "tuple") rfl B.m_tuple (by decide +kernel : bootBuiltins "tuple" = some (.type "tuple")) rfl) (pa_cons (pe_bltn (v := V.ty "list") rfl B.m_list (by decide +kernel : bootBuiltins "list" = some (.type "list")) rfl) pa_nil))) pa_nil))))) (pw_or1 (pt_cmpR (op_neU hu64) (pe_callB call_isi rfl B.m_isinstance (by first | exact PySem.boot_isinstance | decide +kernel) (pa_cons (pv 0) (pa_cons (pe_bltn (v := V.ty "tuple") rfl B.m_tuple (by decide +kernel : bootBuiltins "tuple" = some (.type "tuple")) rfl) pa_nil))) (pe_callB call_isi rfl B.m_isinstance (by first | exact PySem.boot_isinstance | decide +kernel) (pa_cons (pv 1) (pa_cons (pe_bltn (v := V.ty "tuple") rfl B.m_tuple (by decide +kernel : bootBuiltins "tuple" = some (.type "tuple")) rfl) pa_nil))) (nomark _))))) (pss_one (ps_ret (pe_bl))) pss_nil)
      (pss_one (ps_ret (pe_and (pe_cmpR (op_eqU hu64) (pe_callB call_lenU rfl B.m_len (by first | exact PySem.boot_len | decide +kernel) (pa_cons (pv 0) pa_nil)) (pe_callB call_lenU rfl B.m_len (by first | exact PySem.boot_len | decide +kernel) (pa_cons (pv 1) pa_nil)) (nomark _)) (pe_one (pe_callB (cr_all rfl) rfl B.m_all (by first | exact PySem.boot_all | decide +kernel) (pa_cons (pe_lc (own := [("one", 2), ("other", 3)]) rfl sc__law_same.nd (RZ.pi_zipA rfl B.m_zip (pa_cons (pv 0) (pa_cons (pv 1) pa_nil))) (blkOk_by (N := N__law_same) (sc := defScope s__law_same) (by decide +kernel)) (fun _ _ _ _ _ => (pg_tupK (K := K) (n := 2) rfl rfl (pgs_cons (pg_name (i := 2) sc__law_same.nd rfl (Or.inl rfl) (by first | exact Or.inl rfl | exact Or.inr rfl)) (pgs_cons (pg_name (i := 3) sc__law_same.nd rfl (Or.inl rfl) (by first | exact Or.inl rfl | exact Or.inr rfl)) pgs_nil)))) (fun _ _ _ _ _ => pts_nil) (fun _ _ _ _ _ => (pe_cal c__law_same (hr.mono (by first | decide | omega)) pass0 (pa_cons (pv 2) (pa_cons (pv 3) pa_nil))))) pa_nil))))))) pss_nil)
      (pss_cons (ps_if (pt_cmpR op_isU (pv 1) (pe_non) (nomark _)) (pss_one (ps_ret (pe_cmpR op_isU (pv 0) (pe_non) (nomark _)))) pss_nil)
      (pss_cons (ps_if (pt_val (pe_callB call_isi rfl B.m_isinstance (by first | exact PySem.boot_isinstance | decide +kernel) (pa_cons (pv 1) (pa_cons (pe_bltn (v := V.ty "bool") rfl B.m_bool (by decide +kernel : bootBuiltins "bool" = some (.type "bool")) rfl) pa_nil)))) (pss_one (ps_ret (pe_and (pe_callB call_isi rfl B.m_isinstance (by first | exact PySem.boot_isinstance | decide +kernel) (pa_cons (pv 0) (pa_cons (pe_bltn (v := V.ty "bool") rfl B.m_bool (by decide +kernel : bootBuiltins "bool" = some (.type "bool")) rfl) pa_nil))) (pe_one (pe_cmpR (op_eqU hu64) (pv 0) (pv 1) (nomark _)))))) pss_nil)
      (pss_cons (ps_if (pt_val (pe_callB call_isi rfl B.m_isinstance (by first | exact PySem.boot_isinstance | decide +kernel) (pa_cons (pv 1) (pa_cons (pe_bltn (v := V.ty "int") rfl B.m_int (by decide +kernel : bootBuiltins "int" = some (.type "int")) rfl) pa_nil)))) (pss_one (ps_ret (pe_and (pe_callB call_isi rfl B.m_isinstance (by first | exact PySem.boot_isinstance | decide +kernel) (pa_cons (pv 0) (pa_cons (pe_bltn (v := V.ty "int") rfl B.m_int (by decide +kernel : bootBuiltins "int" = some (.type "int")) rfl) pa_nil))) (pe_and (pe_not (pe_callB call_isi rfl B.m_isinstance (by first | exact PySem.boot_isinstance | decide +kernel) (pa_cons (pv 0) (pa_cons (pe_bltn (v := V.ty "bool") rfl B.m_bool (by decide +kernel : bootBuiltins "bool" = some (.type "bool")) rfl) pa_nil)))) (pe_one (pe_cmpR (op_eqU hu64) (pv 0) (pv 1) (nomark _))))))) pss_nil)
      (pss_one (ps_ret (pe_and (pe_callB call_isi rfl B.m_isinstance (by first | exact PySem.boot_isinstance | decide +kernel) (pa_cons (pv 0) (pa_cons (pe_bltn (v := V.ty "str") rfl B.m_str (by decide +kernel : bootBuiltins "str" = some (.type "str")) rfl) pa_nil))) (pe_one (pe_cmpR (op_eqU hu64) (pv 0) (pv 1) (nomark _)))))))))), ?_⟩
    try dsimp only [cxOf, Cx.nox, Cx.wish]
    walk_at "go"
    refine new_tupS (F := F) sm fun tp g1 htp => ?_
    generalize upd H tp _ = H1 at *
    walk_at "go"
    refine isi_seq hu' g1.sub htp ?_
    walk_at "go"
    cases d with
    | none =>
      refine S.iteF rfl ?_
      walk_at "go"
      obtain rfl := dp_none hv
      obtain rfl := dp_none hu'
      refine S.iteT rfl ?_
      walk_at "go"
      exact kk F H1 g1
    | bool b =>
      refine S.iteF rfl ?_
      walk_at "go"
      obtain rfl := dp_bool hv
      obtain rfl := dp_bool hu'
      refine S.iteF rfl ?_
      walk_at "go"
      refine isi_bool (.bl b) g1.sub ?_
      walk_at "go"
      refine S.iteT rfl ?_
      walk_at "go"
      refine isi_bool (.bl b) g1.sub ?_
      walk_at "go"
      refine S.iteT rfl ?_
      walk_at "go"
      refine S.eqSelf rfl ?_
      exact kk F H1 g1
    | int b =>
      refine S.iteF rfl ?_
      walk_at "go"
      obtain rfl := dp_int hv
      obtain rfl := dp_int hu'
      refine S.iteF rfl ?_
      walk_at "go"
      refine isi_bool (.int b) g1.sub ?_
      walk_at "go"
      refine S.iteF rfl ?_
      walk_at "go"
      refine isi_int (.int b) g1.sub ?_
      walk_at "go"
      refine S.iteT rfl ?_
      walk_at "go"
      refine isi_int (.int b) g1.sub ?_
      walk_at "go"
      refine S.iteT rfl ?_
      walk_at "go"
      refine isi_bool (.int b) g1.sub ?_
      walk_at "go"
      refine S.iteT rfl ?_
      walk_at "go"
      rw [decide_eq_true rfl]
      exact kk F H1 g1
    | str b =>
      refine S.iteF rfl ?_
      walk_at "go"
      obtain rfl := dp_str hv
      obtain rfl := dp_str hu'
      refine S.iteF rfl ?_
      walk_at "go"
      refine isi_bool (.str b) g1.sub ?_
      walk_at "go"
      refine S.iteF rfl ?_
      walk_at "go"
      refine isi_int (.str b) g1.sub ?_
      walk_at "go"
      refine S.iteF rfl ?_
      walk_at "go"
      refine isi_str (.str b) g1.sub ?_
      walk_at "go"
      refine S.iteT rfl ?_
      walk_at "go"
      rw [decide_eq_true rfl]
      exact kk F H1 g1
    | list ds =>
      unfold wid at hwid
      obtain ⟨hw1, hw2⟩ := Bool.and_eq_true_iff.mp hwid
      rw [decide_eq_true_iff] at hw1
      refine S.iteT rfl ?_
      walk_at "go"
      refine new_tupS g1.sub fun tp2 g2 htp2 => ?_
      generalize upd H1 tp2 _ = H2 at *
      walk_at "go"
      refine isi_seq (hv.to g1.fs) g2.sub htp2 ?_
      walk_at "go"
      refine S.iteF rfl ?_
      walk_at "go"
      refine isi_tup (hv.to g1.fs) g2.sub ?_
      walk_at "go"
      refine isi_tup (hu'.to g1.fs) g2.sub ?_
      refine S.neBB ?_
      walk_at "go"
      refine S.iteF rfl ?_
      walk_at "go"
      refine S.lenL (K := K) hv g2.sub ?_
      walk_at "go"
      refine S.lenL (K := K) hu' g2.sub ?_
      walk_at "go"
      refine S.iteT (by simp) ?_
      walk_at "go"
      refine S.lcS (S.iZipT ?_)
      walk_at "go"
      obtain ⟨va, xs, rfl, hva, hxs⟩ := dp_list hv
      obtain ⟨ua, ys, rfl, hua, hys⟩ := dp_list hu'
      have g12 := g1.trans g2
      refine ⟨va, ua, xs, ys, rfl, .inl ⟨same_lst g12.sub hva, same_lst g12.sub hua, fun D hD => ?_⟩⟩
      have lx := dp_len hxs
      have ly := dp_len hys
      have hHD := g12.free hD
      have fD := sub_free g12.sub hD
      refine lc_it (walk_zip (K := K) (a := va) (b := ua) (xs := xs) (ys := ys) (n := ds.length) (by omega)) (fun i H' => ∃ F', Gr [] F H F' H' ∧ F' D = none ∧ H' D = some (.lst ((List.replicate i true).map V.bl))) ⟨F, g12.poke hHD fD, fD, upd_same⟩ ?_ ?_ ?_
      · rintro i H' _ ⟨F', g, _⟩
        exact ⟨same_lst (g.fs.trans g.sub) hva, same_lst (g.fs.trans g.sub) hua⟩
      · rintro i x H' H'' hi ⟨F', g, fD', hDD⟩ ⟨T, x1, y1, rfl, hT, rfl, ex, ey⟩
        obtain ⟨dx, hdx, hx⟩ := dp_getV hxs ex
        obtain ⟨dy, hdy, hy⟩ := dp_getV hys ey
        rw [hdx] at hdy
        obtain rfl := Option.some.inj hdy
        have g4 : Gr [] F' H' F' _ := Gr.newOwn (o := .tup [x1, y1]) g.sub hT
        have hTT : upd H' T (.tup [x1, y1]) T = _ := upd_same
        have hD4 := g4.at0 hDD
        generalize upd H' T _ = H4 at *
        refine S.gTupO hTT rfl ?_
        walk_at "go"
        refine ⟨rfl, ?_⟩
        refine S.yes ?_
        walk_at "go"
        refine S.iteT rfl ?_
        walk_at "go"
        have hm := depth_mem (List.mem_of_getElem? hdx)
        refine ⟨F', x1, y1, dx, rfl, g4.sub, hx.to g.fs, hy.to g.fs, ?_, wid_mem (List.mem_of_getElem? hdx) hw2, fun F5 H5 g5 => ?_⟩
        · unfold PyData.depth at hdep
          omega
        have hD5 := g5.at0 hD4
        have fD5 : F5 D = none := g5.own D fD' (by rw [hD4]; exact fun z => nomatch z)
        refine ⟨_, hD5, ?_, F5, ((g.trans g4).trans g5).poke hHD fD5, fD5, ?_⟩
        · rw [List.length_map, List.length_replicate]
          obtain ⟨hz1, hz2⟩ := List.getElem?_eq_some_iff.mp ex
          exact size1000000 (by omega)
        · rw [upd_same]
          congr 2
          rw [show V.bl true = (fun b : Bool => V.bl b) true from rfl]
          simp [List.replicate_succ']
      · rintro H' ⟨F', g, fD', hDD⟩
        walk_at "go"
        refine ⟨D, List.replicate ds.length true, rfl, SqL.of hDD, ?_⟩
        rw [show (List.replicate ds.length true).all id = true by rw [List.all_eq_true]; intro b hb; rw [(List.mem_replicate.mp hb).2]; rfl]
        exact kk F' H' g
    | tuple ds =>
      unfold wid at hwid
      obtain ⟨hw1, hw2⟩ := Bool.and_eq_true_iff.mp hwid
      rw [decide_eq_true_iff] at hw1
      refine S.iteT rfl ?_
      walk_at "go"
      refine new_tupS g1.sub fun tp2 g2 htp2 => ?_
      generalize upd H1 tp2 _ = H2 at *
      walk_at "go"
      refine isi_seq (hv.to g1.fs) g2.sub htp2 ?_
      walk_at "go"
      refine S.iteF rfl ?_
      walk_at "go"
      refine isi_tup (hv.to g1.fs) g2.sub ?_
      walk_at "go"
      refine isi_tup (hu'.to g1.fs) g2.sub ?_
      refine S.neBB ?_
      walk_at "go"
      refine S.iteF rfl ?_
      walk_at "go"
      refine S.lenT (K := K) hv g2.sub ?_
      walk_at "go"
      refine S.lenT (K := K) hu' g2.sub ?_
      walk_at "go"
      refine S.iteT (by simp) ?_
      walk_at "go"
      refine S.lcS (S.iZipT ?_)
      walk_at "go"
      obtain ⟨va, xs, rfl, hva, hxs⟩ := dp_tuple hv
      obtain ⟨ua, ys, rfl, hua, hys⟩ := dp_tuple hu'
      have g12 := g1.trans g2
      refine ⟨va, ua, xs, ys, rfl, .inr ⟨same_tup g12.sub hva, same_tup g12.sub hua, fun D hD => ?_⟩⟩
      have lx := dp_len hxs
      have ly := dp_len hys
      have hHD := g12.free hD
      have fD := sub_free g12.sub hD
      refine lc_it (walk_zipT (K := K) (a := va) (b := ua) (xs := xs) (ys := ys) (n := ds.length) (by omega)) (fun i H' => ∃ F', Gr [] F H F' H' ∧ F' D = none ∧ H' D = some (.lst ((List.replicate i true).map V.bl))) ⟨F, g12.poke hHD fD, fD, upd_same⟩ ?_ ?_ ?_
      · rintro i H' _ ⟨F', g, _⟩
        exact ⟨same_tup (g.fs.trans g.sub) hva, same_tup (g.fs.trans g.sub) hua⟩
      · rintro i x H' H'' hi ⟨F', g, fD', hDD⟩ ⟨T, x1, y1, rfl, hT, rfl, ex, ey⟩
        obtain ⟨dx, hdx, hx⟩ := dp_getV hxs ex
        obtain ⟨dy, hdy, hy⟩ := dp_getV hys ey
        rw [hdx] at hdy
        obtain rfl := Option.some.inj hdy
        have g4 : Gr [] F' H' F' _ := Gr.newOwn (o := .tup [x1, y1]) g.sub hT
        have hTT : upd H' T (.tup [x1, y1]) T = _ := upd_same
        have hD4 := g4.at0 hDD
        generalize upd H' T _ = H4 at *
        refine S.gTupO hTT rfl ?_
        walk_at "go"
        refine ⟨rfl, ?_⟩
        refine S.yes ?_
        walk_at "go"
        refine S.iteT rfl ?_
        walk_at "go"
        have hm := depth_mem (List.mem_of_getElem? hdx)
        refine ⟨F', x1, y1, dx, rfl, g4.sub, hx.to g.fs, hy.to g.fs, ?_, wid_mem (List.mem_of_getElem? hdx) hw2, fun F5 H5 g5 => ?_⟩
        · unfold PyData.depth at hdep
          omega
        have hD5 := g5.at0 hD4
        have fD5 : F5 D = none := g5.own D fD' (by rw [hD4]; exact fun z => nomatch z)
        refine ⟨_, hD5, ?_, F5, ((g.trans g4).trans g5).poke hHD fD5, fD5, ?_⟩
        · rw [List.length_map, List.length_replicate]
          obtain ⟨hz1, hz2⟩ := List.getElem?_eq_some_iff.mp ex
          exact size1000000 (by omega)
        · rw [upd_same]
          congr 2
          rw [show V.bl true = (fun b : Bool => V.bl b) true from rfl]
          simp [List.replicate_succ']
      · rintro H' ⟨F', g, fD', hDD⟩
        walk_at "go"
        refine ⟨D, List.replicate ds.length true, rfl, SqL.of hDD, ?_⟩
        rw [show (List.replicate ds.length true).all id = true by rw [List.all_eq_true]; intro b hb; rw [(List.mem_replicate.mp hb).2]; rfl]
        exact kk F' H' g
    | dict kvs => cases hv

theorem ok__law_calls {P : Program} {w : World} {K : PySem.W.Frag} {mg : Str → Option Value} {base : Heap} {f : Addr} {fd : FuncData} (F : Fun K "_law_calls" "_law_calls" s__law_calls f fd) (B : Blt mg)
    : FnOk P w K mg base CX0 (0 + 1) f fd P__law_calls (spWords K wordsL) := by
  refine F.ok sc__law_calls (fun vs H Q E h => ?_) (fun cdv A outer s H vs Q E hr h => ?_)
  · obtain ⟨rfl, _⟩ := h; rfl
  · have hu := hu_of hr
    have hu64 := Room.units hr
    obtain ⟨rfl, F, sm, k⟩ := h
    refine ⟨_, (pss_cons (ps_set (i := 0) sc__law_calls.nd rfl (Or.inl rfl) (pe_lst (pa_cons (pe_str) (pa_cons (pe_str) (pa_cons (pe_str) (pa_cons (pe_str) (pa_cons (pe_str) (pa_cons (pe_str) (pa_cons (pe_str) (pa_cons (pe_str) (pa_cons (pe_str) (pa_cons (pe_str) (pa_cons (pe_str) (pa_cons (pe_str) (pa_cons (pe_str) pa_nil)))))))))))))))
      (pss_cons (ps_set (i := 0) sc__law_calls.nd rfl (Or.inl rfl) (pe_op op_addU (pv 0) (pe_lst (pa_cons (pe_str) (pa_cons (pe_str) (pa_cons (pe_str) (pa_cons (pe_str) (pa_cons (pe_str) (pa_cons (pe_str) (pa_cons (pe_str) (pa_cons (pe_str) (pa_cons (pe_str) (pa_cons (pe_str) (pa_cons (pe_str) pa_nil))))))))))))))
      (pss_one (ps_ret (pe_op op_addU (pv 0) (pe_lst (pa_cons (pe_str) (pa_cons (pe_str) (pa_cons (pe_str) (pa_cons (pe_str) (pa_cons (pe_str) pa_nil))))))))))), ?_⟩
    try dsimp only [cxOf, Cx.nox, Cx.wish]
    walk_at "go"
    refine own_lstG sm (by show 13 ≤ sizeLine; decide) fun a1 g1 ha1 fa1 e1 => ?_
    generalize upd H a1 _ = H1 at *
    walk_at "go"
    refine own_lstG g1.sub (by show 11 ≤ sizeLine; decide) fun a2 g2 ha2 fa2 e2 => ?_
    have e12 := g2.at0 e1
    generalize upd H1 a2 _ = H2 at *
    refine S.catL e12 e2 (by show 24 ≤ sizeLine; decide) ?_
    intro a3 ha3
    have g3 : Gr [] F H2 F _ := Gr.newOwn (o := .lst ((wordsL.take 24).map V.str)) g2.sub ha3
    have e3 : upd H2 a3 (.lst ((wordsL.take 24).map V.str)) a3 = _ := upd_same
    change gName 0 (V.ref a3) _ (upd H2 a3 (.lst ((wordsL.take 24).map V.str))) _
    generalize upd H2 a3 _ = H3 at *
    walk_at "go"
    refine own_lstG g3.sub (by show 5 ≤ sizeLine; decide) fun a4 g4 ha4 fa4 e4 => ?_
    have e34 := g4.at0 e3
    generalize upd H3 a4 _ = H4 at *
    refine S.catL e34 e4 (by show 29 ≤ sizeLine; decide) fun a5 ha5 => ?_
    have g5 : Gr [] F H4 _ _ := Gr.new (o := .lst (wordsL.map V.str)) g4.sub ha5
    exact k a5 _ _ ((((g1.trans g2).trans g3).trans g4).trans g5) (SqL.of upd_same)

theorem ok__law_words {P : Program} {w : World} {K : PySem.W.Frag} {mg : Str → Option Value} {base : Heap} {f : Addr} {fd : FuncData} (F : Fun K "_law_words" "_law_words" s__law_words f fd) (B : Blt mg)
    : FnOk P w K mg base CX0 (0 + 1) f fd P__law_words (spWords K drawnL) := by
  refine F.ok sc__law_words (fun vs H Q E h => ?_) (fun cdv A outer s H vs Q E hr h => ?_)
  · obtain ⟨rfl, _⟩ := h; rfl
  · have hu := hu_of hr
    have hu64 := Room.units hr
    obtain ⟨rfl, F, sm, k⟩ := h
    refine ⟨_, (pss_cons (ps_set (i := 0) sc__law_words.nd rfl (Or.inl rfl) (pe_lst (pa_cons (pe_str) (pa_cons (pe_str) (pa_cons (pe_str) (pa_cons (pe_str) (pa_cons (pe_str) (pa_cons (pe_str) (pa_cons (pe_str) (pa_cons (pe_str) (pa_cons (pe_str) (pa_cons (pe_str) (pa_cons (pe_str) (pa_cons (pe_str) (pa_cons (pe_str) (pa_cons (pe_str) pa_nil))))))))))))))))
      (pss_one (ps_ret (pe_op op_addU (pv 0) (pe_lst (pa_cons (pe_str) (pa_cons (pe_str) (pa_cons (pe_str) (pa_cons (pe_str) (pa_cons (pe_str) (pa_cons (pe_str) pa_nil))))))))))), ?_⟩
    try dsimp only [cxOf, Cx.nox, Cx.wish]
    walk_at "go"
    refine own_lstG sm (by show 14 ≤ sizeLine; decide) fun a3 g3 ha3 fa3 e3 => ?_
    generalize upd H a3 _ = H3 at *
    walk_at "go"
    refine own_lstG g3.sub (by show 6 ≤ sizeLine; decide) fun a4 g4 ha4 fa4 e4 => ?_
    have e34 := g4.at0 e3
    generalize upd H3 a4 _ = H4 at *
    refine S.catL e34 e4 (by show 20 ≤ sizeLine; decide) fun a5 ha5 => ?_
    have g5 : Gr [] F H4 _ _ := Gr.new (o := .lst (drawnL.map V.str)) g4.sub ha5
    exact k a5 _ _ ((g3.trans g4).trans g5) (SqL.of upd_same)

theorem ok__law_figure {P : Program} {w : World} {K : PySem.W.Frag} {mg : Str → Option Value} {base : Heap} {f : Addr} {fd : FuncData} (F : Fun K "_law_figure" "_law_figure" s__law_figure f fd) (B : Blt mg)
    (c__law_draw : Cal P w K mg base CX0 1 "_law_draw" P__law_draw spDraw)
    : FnOk P w K mg base CX0 (1 + 1) f fd P__law_figure (spLFig) := by
  refine F.ok sc__law_figure (fun vs H Q E h => ?_) (fun cdv A outer s H vs Q E hr h => ?_)
  · obtain ⟨F, q, m, rfl, _⟩ := h; rfl
  · have hu := hu_of hr
    have hu64 := Room.units hr
    obtain ⟨F, q, m, rfl, sm, fq, hq, hm, k⟩ := h
    refine ⟨_, (pss_cons (ps_set (i := 1) sc__law_figure.nd rfl (Or.inl rfl) (pe_cal c__law_draw (hr.mono (by first | decide | omega)) pass0 (pa_cons (pv 0) (pa_cons (pe_int) pa_nil))))
      (pss_cons (ps_if (pt_cmpR (op_eqU hu64) (pv 1) (pe_int) (nomark _)) (pss_one (ps_ret (pe_cal c__law_draw (hr.mono (by first | decide | omega)) pass0 (pa_cons (pv 0) (pa_cons (pe_int) pa_nil))))) pss_nil)
      (pss_one (ps_ret (pe_ix ix_seq (pe_lst (pa_cons (pe_int) (pa_cons (pe_int) (pa_cons (pe_int) (pa_cons (pe_int) (pa_cons (pe_int) (pa_cons (pe_int) (pa_cons (pe_int) (pa_cons (pe_int) (pa_cons (pe_int) pa_nil)))))))))) (pv 1) (fun _ _ => rfl)))))), ?_⟩
    try dsimp only [cxOf, Cx.nox, Cx.wish]
    walk_at "go"
    refine ⟨F, q, 10, m, rfl, sm, fq, hq, by omega, by decide, by decide, fun x H1 g1 hq1 x0 x1 => ?_⟩
    walk_at "go"
    refine S.ite (fun e => ?_) (fun e => ?_)
    · walk_at "go"
      refine ⟨F, q, 65536, _, rfl, g1.sub, fq, hq1, by omega, by decide, by decide, fun y H2 g2 hq2 y0 y1 => ?_⟩
      exact k y H2 (g1.trans g2) hq2 ⟨y0, by omega⟩
    · have e' : ¬ x = 9 := of_decide_eq_false e
      walk_at "go"
      refine own_lstG g1.sub (by show 9 ≤ sizeLine; decide) fun D1 g2 hD1 fD1 hDD1 => ?_
      have hq2 := hq1.gr g2 (by simp)
      generalize upd H1 D1 _ = H2 at *
      walk_at "go"
      refine S.ixI (l := [0, 1, 2, 3, 64, 255, 4095, 4096, 65535]) hDD1 x0 (by show x < 9; omega) fun f hf => ?_
      refine k f H2 (g1.trans g2.any) (hq2.more (by omega)) ?_
      simp only [List.mem_cons, List.not_mem_nil, or_false] at hf
      unfold isFig
      omega

theorem ok__law_order {P : Program} {w : World} {K : PySem.W.Frag} {mg : Str → Option Value} {base : Heap} {f : Addr} {fd : FuncData} (F : Fun K "_law_order" "_law_order" s__law_order f fd) (B : Blt mg)
    (c__law_draw : Cal P w K mg base CX0 1 "_law_draw" P__law_draw spDraw) (c__law_pick : Cal P w K mg base CX0 2 "_law_pick" P__law_pick (spPick K)) (c__law_calls : Cal P w K mg base CX0 1 "_law_calls" P__law_calls (spWords K wordsL)) (c__law_figure : Cal P w K mg base CX0 2 "_law_figure" P__law_figure spLFig)
    : FnOk P w K mg base CX0 (2 + 1) f fd P__law_order (spLOrd K) := by
  refine F.ok sc__law_order (fun vs H Q E h => ?_) (fun cdv A outer s H vs Q E hr h => ?_)
  · obtain ⟨F, q, pl, wd, n, few, m, rfl, _⟩ := h; rfl
  · have hu := hu_of hr
    have hu64 := Room.units hr
    obtain ⟨F, q, pl, wd, n, few, m, rfl, sm, fq, hq, hm, hw, hpl, n1, n2, f1, f2, k⟩ := h
    have f60 : few < 2 ^ 60 := Int.lt_of_le_of_lt f2 (by decide)
    refine ⟨_, (pss_cons (ps_if (pt_cmpR op_in_seq (pv 1) (pe_tup (pa_cons (pe_str) (pa_cons (pe_str) pa_nil))) (by first | rfl | exact nomark _)) (pss_one (ps_ret (pe_tup (pa_cons (pv 1) pa_nil)))) pss_nil)
      (pss_cons (ps_if (pt_cmpR (op_eqU hu64) (pv 1) (pe_str) (nomark _)) (pss_one (ps_ret (pe_tup (pa_cons (pv 1) (pa_cons (pe_cal c__law_pick (hr.mono (by first | decide | omega)) pass0 (pa_cons (pv 0) (pa_cons (pe_cal0 c__law_calls (hr.mono (by first | decide | omega)) pass0) pa_nil))) pa_nil))))) pss_nil)
      (pss_cons (ps_if (pt_cmpR op_in_seq (pv 1) (pe_tup (pa_cons (pe_str) (pa_cons (pe_str) pa_nil))) (by first | rfl | exact nomark _)) (pss_one (ps_ret (pe_tup (pa_cons (pv 1) (pa_cons (pe_cal c__law_pick (hr.mono (by first | decide | omega)) pass0 (pa_cons (pv 0) (pa_cons (pv 2) pa_nil))) pa_nil))))) pss_nil)
      (pss_cons (ps_set (i := 4) sc__law_order.nd rfl (Or.inl rfl) (pe_cal c__law_draw (hr.mono (by first | decide | omega)) pass0 (pa_cons (pv 0) (pa_cons (pv 3) pa_nil))))
      (pss_cons (ps_if (pt_cmpR (op_eqU hu64) (pv 1) (pe_str) (nomark _)) (pss_one (ps_ret (pe_tup (pa_cons (pv 1) (pa_cons (pv 4) (pa_cons (pe_cal c__law_pick (hr.mono (by first | decide | omega)) pass0 (pa_cons (pv 0) (pa_cons (pv 2) pa_nil))) pa_nil)))))) pss_nil)
      (pss_cons (ps_if (pt_cmpR (op_eqU hu64) (pv 1) (pe_str) (nomark _)) (pss_one (ps_ret (pe_tup (pa_cons (pv 1) (pa_cons (pv 4) (pa_cons (pe_cal c__law_figure (hr.mono (by first | decide | omega)) pass0 (pa_cons (pv 0) pa_nil)) pa_nil)))))) pss_nil)
      (pss_cons (ps_set (i := 5) sc__law_order.nd rfl (Or.inl rfl) (pe_cal c__law_draw (hr.mono (by first | decide | omega)) pass0 (pa_cons (pv 0) (pa_cons (pv 3) pa_nil))))
      (pss_cons (ps_if (pt_cmpR op_in_seq (pv 1) (pe_tup (pa_cons (pe_str) (pa_cons (pe_str) (pa_cons (pe_str) pa_nil)))) (by first | rfl | exact nomark _)) (pss_one (ps_ret (pe_tup (pa_cons (pv 1) (pa_cons (pv 4) (pa_cons (pv 5) pa_nil)))))) pss_nil)
      (pss_one (ps_ret (pe_tup (pa_cons (pv 1) (pa_cons (pv 4) (pa_cons (pv 5) (pa_cons (pe_cal c__law_draw (hr.mono (by first | decide | omega)) pass0 (pa_cons (pv 0) (pa_cons (pv 3) pa_nil))) pa_nil))))))))))))))), ?_⟩
    try dsimp only [cxOf, Cx.nox, Cx.wish]
    have place : ∀ {H1 : Hp} {mm : Nat} {Q' : VK} {E : XK}, Gr [q] F H F H1 → DkAt H1 q mm → mm ≤ 100010 → (∀ (p : Int) (H2 : Hp), Gr [q] F H F H2 → DkAt H2 q (mm + 1) → 0 ≤ p → p < n → Q' (.int p) H2) → spPick K [.ref q, .ref pl] H1 Q' E := fun {H1 mm Q' E} g1 hq1 hmm qq => by
      obtain ⟨p1, p2⟩ := pick_dat (q := q) g1.sub hpl
      refine ⟨F, q, pl, _, mm, rfl, g1.sub, fq, hq1, by omega, p1, p2, ?_, by simp; omega, fun i x H2 hi g2 hq2 => ?_⟩
      · intro z
        have := congrArg List.length z
        simp at this
        omega
      · rw [List.getElem?_map] at hi
        by_cases hin : i < n
        · rw [List.getElem?_range hin] at hi
          obtain rfl : V.int (i : Int) = x := Option.some.inj hi
          exact qq i H2 (g1.trans g2) hq2 (by omega) (by omega)
        · rw [List.getElem?_eq_none (by simp; omega)] at hi
          cases hi
    unfold WordOk at hw
    rcases hw with rfl | rfl | rfl | rfl | rfl | rfl | rfl | rfl | rfl | rfl | ⟨z, rfl⟩
    · skip
      walk_at "gd"
      refine S.inX ["back", "stop"] sm rfl (by decide) fun H1 g1 => ?_
      have hq1 := hq.gr g1 (by simp)
      have e1 := g1.any (W := [q])
      walk_at "gd"
      refine new_tupG (K := K) (ds := [.str "back"]) g1.sub (.cons (.str _) .nil) (by show 1 ≤ sizeLine; decide) fun t F9 g9 ht hv => ?_
      exact k .back _ F9 _ (e1.trans g9.any) ((hq1.gr g9 (by simp)).more (by omega)) trivial hv
    · skip
      walk_at "gd"
      refine S.inX ["back", "stop"] sm rfl (by decide) fun H1 g1 => ?_
      have hq1 := hq.gr g1 (by simp)
      have e1 := g1.any (W := [q])
      walk_at "gd"
      refine new_tupG (K := K) (ds := [.str "stop"]) g1.sub (.cons (.str _) .nil) (by show 1 ≤ sizeLine; decide) fun t F9 g9 ht hv => ?_
      exact k .stop _ F9 _ (e1.trans g9.any) ((hq1.gr g9 (by simp)).more (by omega)) trivial hv
    · skip
      walk_at "gd"
      refine S.inX ["back", "stop"] sm rfl (by decide) fun H1 g1 => ?_
      have hq1 := hq.gr g1 (by simp)
      have e1 := g1.any (W := [q])
      walk_at "gd"
      refine ⟨rfl, F, g1.sub, fun a2 F2 H2 g2 ha2 => ?_⟩
      have hq2 := hq1.gr g2 (by simp)
      have fq2 := g2.own q fq hq1.live
      obtain ⟨p1, p2⟩ := pick_dat (q := q) g2.sub ha2
      walk_at "gd"
      refine ⟨F2, q, a2, _, m, rfl, g2.sub, fq2, hq2, by omega, p1, p2, by decide, by simp [wordsL], fun i x H3 hi g3 hq3 => ?_⟩
      rw [List.getElem?_map] at hi
      obtain ⟨s, hs, rfl⟩ : ∃ s, s ∈ wordsL ∧ x = .str s := by
        cases q5 : wordsL[i]? with
        | none => rw [q5] at hi; cases hi
        | some t => rw [q5] at hi; exact ⟨t, List.mem_of_getElem? q5, (Option.some.inj hi).symm⟩
      walk_at "gd"
      refine new_tupG (K := K) (ds := [.str "ask", .str s]) g3.sub (.cons (.str _) (.cons (.str _) .nil)) (by show 2 ≤ sizeLine; decide) fun t F9 g9 ht hv => ?_
      exact k (.ask s) _ F9 _ (((e1.trans g2.any).trans g3).trans g9.any) ((hq3.gr g9 (by simp)).more (by omega)) hs hv
    · skip
      walk_at "gd"
      refine S.inX ["back", "stop"] sm rfl (by decide) fun H1 g1 => ?_
      have hq1 := hq.gr g1 (by simp)
      have e1 := g1.any (W := [q])
      walk_at "gd"
      refine S.inX ["jump", "call"] g1.sub rfl (by decide) fun H2 g2 => ?_
      have hq2 := hq1.gr g2 (by simp)
      have e2 := e1.trans (g2.any (W := [q]))
      walk_at "gd"
      refine place e2 hq2 (by omega) fun p H3 g3 hq3 p0 p1 => ?_
      walk_at "gd"
      refine new_tupG (K := K) (ds := [.str "jump", .int p]) g3.sub (.cons (.str _) (.cons (.int _) .nil)) (by show 2 ≤ sizeLine; decide) fun t F9 g9 ht hv => ?_
      exact k (.jump p) _ F9 _ (g3.trans g9.any) ((hq3.gr g9 (by simp)).more (by omega)) ⟨p0, p1⟩ hv
    · skip
      walk_at "gd"
      refine S.inX ["back", "stop"] sm rfl (by decide) fun H1 g1 => ?_
      have hq1 := hq.gr g1 (by simp)
      have e1 := g1.any (W := [q])
      walk_at "gd"
      refine S.inX ["jump", "call"] g1.sub rfl (by decide) fun H2 g2 => ?_
      have hq2 := hq1.gr g2 (by simp)
      have e2 := e1.trans (g2.any (W := [q]))
      walk_at "gd"
      refine place e2 hq2 (by omega) fun p H3 g3 hq3 p0 p1 => ?_
      walk_at "gd"
      refine new_tupG (K := K) (ds := [.str "call", .int p]) g3.sub (.cons (.str _) (.cons (.int _) .nil)) (by show 2 ≤ sizeLine; decide) fun t F9 g9 ht hv => ?_
      exact k (.call p) _ F9 _ (g3.trans g9.any) ((hq3.gr g9 (by simp)).more (by omega)) ⟨p0, p1⟩ hv
    · skip
      walk_at "gd"
      refine S.inX ["back", "stop"] sm rfl (by decide) fun H1 g1 => ?_
      have hq1 := hq.gr g1 (by simp)
      have e1 := g1.any (W := [q])
      walk_at "gd"
      refine S.inX ["jump", "call"] g1.sub rfl (by decide) fun H2 g2 => ?_
      have hq2 := hq1.gr g2 (by simp)
      have e2 := e1.trans (g2.any (W := [q]))
      walk_at "gd"
      refine ⟨F, q, few, m, rfl, e2.sub, fq, hq2, by omega, f1, f60, fun one H3 g3 hq3 a0 a1 => ?_⟩
      have e3 := e2.trans g3
      have r1 : isReg one := ⟨a0, by omega⟩
      walk_at "gd"
      refine place e3 hq3 (by omega) fun p H4 g4 hq4 p0 p1 => ?_
      walk_at "gd"
      refine new_tupG (K := K) (ds := [.str "if", .int one, .int p]) g4.sub (.cons (.str _) (.cons (.int _) (.cons (.int _) .nil))) (by show 3 ≤ sizeLine; decide) fun t F9 g9 ht hv => ?_
      exact k (.iff one p) _ F9 _ (g4.trans g9.any) ((hq4.gr g9 (by simp)).more (by omega)) ⟨r1, p0, p1⟩ hv
    · skip
      walk_at "gd"
      refine S.inX ["back", "stop"] sm rfl (by decide) fun H1 g1 => ?_
      have hq1 := hq.gr g1 (by simp)
      have e1 := g1.any (W := [q])
      walk_at "gd"
      refine S.inX ["jump", "call"] g1.sub rfl (by decide) fun H2 g2 => ?_
      have hq2 := hq1.gr g2 (by simp)
      have e2 := e1.trans (g2.any (W := [q]))
      walk_at "gd"
      refine ⟨F, q, few, m, rfl, e2.sub, fq, hq2, by omega, f1, f60, fun one H3 g3 hq3 a0 a1 => ?_⟩
      have e3 := e2.trans g3
      have r1 : isReg one := ⟨a0, by omega⟩
      walk_at "gd"
      refine ⟨F, q, m + 1, rfl, g3.sub, fq, hq3, by omega, fun f H4 g4 hq4 hf => ?_⟩
      walk_at "gd"
      refine new_tupG (K := K) (ds := [.str "set", .int one, .int f]) g4.sub (.cons (.str _) (.cons (.int _) (.cons (.int _) .nil))) (by show 3 ≤ sizeLine; decide) fun t F9 g9 ht hv => ?_
      exact k (.set one f) _ F9 _ ((e3.trans g4).trans g9.any) ((hq4.gr g9 (by simp)).more (by omega)) ⟨r1, hf⟩ hv
    · skip
      walk_at "gd"
      refine S.inX ["back", "stop"] sm rfl (by decide) fun H1 g1 => ?_
      have hq1 := hq.gr g1 (by simp)
      have e1 := g1.any (W := [q])
      walk_at "gd"
      refine S.inX ["jump", "call"] g1.sub rfl (by decide) fun H2 g2 => ?_
      have hq2 := hq1.gr g2 (by simp)
      have e2 := e1.trans (g2.any (W := [q]))
      walk_at "gd"
      refine ⟨F, q, few, m, rfl, e2.sub, fq, hq2, by omega, f1, f60, fun one H3 g3 hq3 a0 a1 => ?_⟩
      have e3 := e2.trans g3
      have r1 : isReg one := ⟨a0, by omega⟩
      walk_at "gd"
      refine ⟨F, q, few, _, rfl, g3.sub, fq, hq3, by omega, f1, f60, fun two H4 g4 hq4 b0 b1 => ?_⟩
      have e4 := e3.trans g4
      have r2 : isReg two := ⟨b0, by omega⟩
      walk_at "gd"
      refine S.inX ["copy", "load", "store"] g4.sub rfl (by decide) fun H5 g5 => ?_
      have hq5 := hq4.gr g5 (by simp)
      have e5 := e4.trans (g5.any (W := [q]))
      walk_at "gd"
      refine new_tupG (K := K) (ds := [.str "copy", .int one, .int two]) g5.sub (.cons (.str _) (.cons (.int _) (.cons (.int _) .nil))) (by show 3 ≤ sizeLine; decide) fun t F9 g9 ht hv => ?_
      exact k (.copy one two) _ F9 _ (e5.trans g9.any) ((hq5.gr g9 (by simp)).more (by omega)) ⟨r1, r2⟩ hv
    · skip
      walk_at "gd"
      refine S.inX ["back", "stop"] sm rfl (by decide) fun H1 g1 => ?_
      have hq1 := hq.gr g1 (by simp)
      have e1 := g1.any (W := [q])
      walk_at "gd"
      refine S.inX ["jump", "call"] g1.sub rfl (by decide) fun H2 g2 => ?_
      have hq2 := hq1.gr g2 (by simp)
      have e2 := e1.trans (g2.any (W := [q]))
      walk_at "gd"
      refine ⟨F, q, few, m, rfl, e2.sub, fq, hq2, by omega, f1, f60, fun one H3 g3 hq3 a0 a1 => ?_⟩
      have e3 := e2.trans g3
      have r1 : isReg one := ⟨a0, by omega⟩
      walk_at "gd"
      refine ⟨F, q, few, _, rfl, g3.sub, fq, hq3, by omega, f1, f60, fun two H4 g4 hq4 b0 b1 => ?_⟩
      have e4 := e3.trans g4
      have r2 : isReg two := ⟨b0, by omega⟩
      walk_at "gd"
      refine S.inX ["copy", "load", "store"] g4.sub rfl (by decide) fun H5 g5 => ?_
      have hq5 := hq4.gr g5 (by simp)
      have e5 := e4.trans (g5.any (W := [q]))
      walk_at "gd"
      refine new_tupG (K := K) (ds := [.str "load", .int one, .int two]) g5.sub (.cons (.str _) (.cons (.int _) (.cons (.int _) .nil))) (by show 3 ≤ sizeLine; decide) fun t F9 g9 ht hv => ?_
      exact k (.load one two) _ F9 _ (e5.trans g9.any) ((hq5.gr g9 (by simp)).more (by omega)) ⟨r1, r2⟩ hv
    · skip
      walk_at "gd"
      refine S.inX ["back", "stop"] sm rfl (by decide) fun H1 g1 => ?_
      have hq1 := hq.gr g1 (by simp)
      have e1 := g1.any (W := [q])
      walk_at "gd"
      refine S.inX ["jump", "call"] g1.sub rfl (by decide) fun H2 g2 => ?_
      have hq2 := hq1.gr g2 (by simp)
      have e2 := e1.trans (g2.any (W := [q]))
      walk_at "gd"
      refine ⟨F, q, few, m, rfl, e2.sub, fq, hq2, by omega, f1, f60, fun one H3 g3 hq3 a0 a1 => ?_⟩
      have e3 := e2.trans g3
      have r1 : isReg one := ⟨a0, by omega⟩
      walk_at "gd"
      refine ⟨F, q, few, _, rfl, g3.sub, fq, hq3, by omega, f1, f60, fun two H4 g4 hq4 b0 b1 => ?_⟩
      have e4 := e3.trans g4
      have r2 : isReg two := ⟨b0, by omega⟩
      walk_at "gd"
      refine S.inX ["copy", "load", "store"] g4.sub rfl (by decide) fun H5 g5 => ?_
      have hq5 := hq4.gr g5 (by simp)
      have e5 := e4.trans (g5.any (W := [q]))
      walk_at "gd"
      refine new_tupG (K := K) (ds := [.str "store", .int one, .int two]) g5.sub (.cons (.str _) (.cons (.int _) (.cons (.int _) .nil))) (by show 3 ≤ sizeLine; decide) fun t F9 g9 ht hv => ?_
      exact k (.store one two) _ F9 _ (e5.trans g9.any) ((hq5.gr g9 (by simp)).more (by omega)) ⟨r1, r2⟩ hv
    · skip
      walk_at "go"
      refine S.inX ["back", "stop"] sm rfl (by decide) fun H1 g1 => ?_
      have hq1 := hq.gr g1 (by simp)
      have e1 := g1.any (W := [q])
      rw [show decide (z.name ∈ (["back", "stop"] : List Str)) = false by cases z <;> rfl]
      walk_at "gd"
      refine S.iteF (by cases z <;> rfl) ?_
      walk_at "gd"
      refine S.inX ["jump", "call"] g1.sub rfl (by decide) fun H2 g2 => ?_
      rw [show decide (z.name ∈ (["jump", "call"] : List Str)) = false by cases z <;> rfl]
      have hq2 := hq1.gr g2 (by simp)
      have e2 := e1.trans (g2.any (W := [q]))
      walk_at "gd"
      refine ⟨F, q, few, m, rfl, e2.sub, fq, hq2, by omega, f1, f60, fun one H3 g3 hq3 a0 a1 => ?_⟩
      have e3 := e2.trans g3
      have r1 : isReg one := ⟨a0, by omega⟩
      walk_at "gd"
      refine S.iteF (by cases z <;> rfl) ?_
      walk_at "gd"
      refine S.iteF (by cases z <;> rfl) ?_
      walk_at "gd"
      refine ⟨F, q, few, _, rfl, g3.sub, fq, hq3, by omega, f1, f60, fun two H4 g4 hq4 b0 b1 => ?_⟩
      have e4 := e3.trans g4
      have r2 : isReg two := ⟨b0, by omega⟩
      walk_at "gd"
      refine S.inX ["copy", "load", "store"] g4.sub rfl (by decide) fun H5 g5 => ?_
      have hq5 := hq4.gr g5 (by simp)
      have e5 := e4.trans (g5.any (W := [q]))
      rw [show decide (z.name ∈ (["copy", "load", "store"] : List Str)) = false by cases z <;> rfl]
      walk_at "gd"
      refine ⟨F, q, few, _, rfl, g5.sub, fq, hq5, by omega, f1, f60, fun three H6 g6 hq6 c0 c1 => ?_⟩
      have r3 : isReg three := ⟨c0, by omega⟩
      walk_at "gd"
      refine new_tupG (K := K) (ds := [.str z.name, .int one, .int two, .int three]) g6.sub (.cons (.str _) (.cons (.int _) (.cons (.int _) (.cons (.int _) .nil)))) (by show 4 ≤ sizeLine; decide) fun t F9 g9 ht hv => ?_
      exact k (.ar z one two three) _ F9 _ ((e5.trans g6).trans g9.any) ((hq6.gr g9 (by simp)).more (by omega)) ⟨r1, r2, r3⟩ hv

theorem ok__law_reckoned {P : Program} {w : World} {K : PySem.W.Frag} {mg : Str → Option Value} {base : Heap} {f : Addr} {fd : FuncData} (F : Fun K "_law_reckoned" "_law_reckoned" s__law_reckoned f fd) (B : Blt mg)
    : FnOk P w K mg base CX0 (0 + 1) f fd P__law_reckoned (spReck K) := by
  refine F.ok sc__law_reckoned (fun vs H Q E h => ?_) (fun cdv A outer s H vs Q E hr h => ?_)
  · obtain ⟨F, v, u, o, m, n, rfl, _⟩ := h; rfl
  · have hu := hu_of hr
    have hu64 := Room.units hr
    obtain ⟨F, v, u, o, m, n, rfl, sm, hd, hu', ok, mok, hf, nl, k⟩ := h
    refine ⟨_, (pss_cons (ps_if (pt_cmpR (op_eqU hu64) (pe_ix ix_seq (pv 0) (pe_int) (fun _ _ => rfl)) (pe_str) (nomark _)) (pss_one (ps_ret (pe_ix ix_seq (pv 0) (pe_int) (fun _ _ => rfl)))) pss_nil)
      (pss_cons (ps_set (i := 2) sc__law_reckoned.nd rfl (Or.inl rfl) (pe_ix ix_seq (pv 1) (pe_ix ix_seq (pv 0) (pe_int) (fun _ _ => rfl)) (fun _ _ => rfl)))
      (pss_cons (ps_if (pt_cmpR (op_eqU hu64) (pe_ix ix_seq (pv 0) (pe_int) (fun _ _ => rfl)) (pe_str) (nomark _)) (pss_one (ps_ret (pv 2))) pss_nil)
      (pss_cons (ps_set (i := 3) sc__law_reckoned.nd rfl (Or.inl rfl) (pe_ix ix_seq (pv 1) (pe_ix ix_seq (pv 0) (pe_int) (fun _ _ => rfl)) (fun _ _ => rfl)))
      (pss_cons (ps_if (pt_cmpR (op_eqU hu64) (pe_ix ix_seq (pv 0) (pe_int) (fun _ _ => rfl)) (pe_str) (nomark _)) (pss_one (ps_ret (pe_op op_mod (pe_callTy call_int1 rfl B.m_int (by decide +kernel) (pa_cons (pe_op op_addU (pv 2) (pv 3)) pa_nil)) (pe_int)))) pss_nil)
      (pss_cons (ps_if (pt_cmpR (op_eqU hu64) (pe_ix ix_seq (pv 0) (pe_int) (fun _ _ => rfl)) (pe_str) (nomark _)) (pss_one (ps_ret (pe_op op_mod (pe_callTy call_int1 rfl B.m_int (by decide +kernel) (pa_cons (pe_op op_sub (pv 2) (pv 3)) pa_nil)) (pe_int)))) pss_nil)
      (pss_cons (ps_if (pt_cmpR (op_eqU hu64) (pe_ix ix_seq (pv 0) (pe_int) (fun _ _ => rfl)) (pe_str) (nomark _)) (pss_one (ps_ret (pe_op op_mod (pe_callTy call_int1 rfl B.m_int (by decide +kernel) (pa_cons (pe_op op_mulW (pv 2) (pv 3)) pa_nil)) (pe_int)))) pss_nil)
      (pss_cons (ps_if (pt_cmpR (op_eqU hu64) (pe_ix ix_seq (pv 0) (pe_int) (fun _ _ => rfl)) (pe_str) (nomark _)) (pss_one (ps_ret (pe_op op_and (pv 2) (pv 3)))) pss_nil)
      (pss_cons (ps_if (pt_cmpR (op_eqU hu64) (pe_ix ix_seq (pv 0) (pe_int) (fun _ _ => rfl)) (pe_str) (nomark _)) (pss_one (ps_ret (pe_op op_or (pv 2) (pv 3)))) pss_nil)
      (pss_one (ps_ret (pe_ifExp (pt_cmpR (op_eqU hu64) (pe_ix ix_seq (pv 0) (pe_int) (fun _ _ => rfl)) (pe_str) (nomark _)) (pe_callTy call_int1 rfl B.m_int (by decide +kernel) (pa_cons (pe_cmpR op_lt (pv 2) (pv 3) (nomark _)) pa_nil)) (pe_callTy call_int1 rfl B.m_int (by decide +kernel) (pa_cons (pe_cmpR (op_eqU hu64) (pv 2) (pv 3) (nomark _)) pa_nil)))))))))))))), ?_⟩
    try dsimp only [cxOf, Cx.nox, Cx.wish]
    have rg : ∀ {i : Int} {Q' : VK}, isReg i → Q' (.int (reg m i)) H → rIx K u (.int i) H Q' := fun {i Q'} hi q => by
      refine S.ixT (K := K) (ds := m.regs.map .int) hu' sm (d := .int (reg m i)) ?_ fun w0 hw0 => ?_
      · have e : i = (i.toNat : Int) := by have := hi.1; omega
        conv => lhs; rw [e]
        refine S.atI_nat ?_
        rw [List.getElem?_map, (reg_at mok hi).1]
        rfl
      · obtain rfl := dp_int hw0
        exact q
    have wd : ∀ {Q' : VK}, Q' (.str (wordO o)) H → rIx K v (.int 0) H Q' := fun {Q'} q => by
      refine S.ixT (K := K) (ds := .str (wordO o) :: argsO o) hd sm (d := .str (wordO o)) S.atI_0 fun w1 hw1 => ?_
      obtain rfl := dp_str hw1
      exact q
    walk_at "go"
    refine wd ?_
    walk_at "go"
    cases o with
    | set r f =>
      walk_at "gd"
      refine S.ixT (K := K) (ds := [.str "set", .int r, .int f]) hd sm (d := .int f) S.atI_2 fun w0 hw0 => ?_
      obtain rfl := dp_int hw0
      exact k
    | copy a b =>
      walk_at "gd"
      refine S.ixT (K := K) (ds := [.str "copy", .int a, .int b]) hd sm (d := .int b) S.atI_2 fun w0 hw0 => ?_
      obtain rfl := dp_int hw0
      refine rg ok.2 ?_
      walk_at "gd"
      refine wd ?_
      walk_at "gd"
      exact k
    | ar z a b c =>
      have fb := (reg_at mok ok.2.1).2
      have fc := (reg_at mok ok.2.2).2
      have w0 : (reg m b).natAbs < 2 ^ 16 := abs_lt (n := 16) fb.1 (by have := fb.2; show reg m b < 65536; omega)
      have w1 : (reg m c).natAbs < 2 ^ 16 := abs_lt (n := 16) fc.1 (by have := fc.2; show reg m c < 65536; omega)
      have wz : ∀ {Q' : VK}, Q' (.str z.name) H → rIx K v (.int 0) H Q' := wd
      refine S.iteF (by cases z <;> rfl) ?_
      walk_at "gd"
      refine S.ixT (K := K) (ds := [.str z.name, .int a, .int b, .int c]) hd sm (d := .int b) S.atI_2 fun w0 hw0 => ?_
      obtain rfl := dp_int hw0
      refine rg ok.2.1 ?_
      walk_at "gd"
      refine wz ?_
      walk_at "go"
      refine S.iteF (by cases z <;> rfl) ?_
      walk_at "go"
      refine S.ixT (K := K) (ds := [.str z.name, .int a, .int b, .int c]) hd sm (d := .int c) S.atI_3 fun w0 hw0 => ?_
      obtain rfl := dp_int hw0
      refine rg ok.2.2 ?_
      walk_at "go"
      refine wz ?_
      walk_at "go"
      cases z
      case add =>
        walk_at "gd"
        refine .inl ⟨_, rfl, ?_⟩
        walk_at "gd"
        exact S.rI (by decide) k
      case sub =>
        walk_at "gd"
        refine wd ?_
        walk_at "gd"
        refine .inl ⟨_, rfl, ?_⟩
        walk_at "gd"
        exact S.rI (by decide) k
      case mul =>
        walk_at "gd"
        refine wd ?_
        walk_at "gd"
        refine wd ?_
        walk_at "gd"
        refine S.rI (wide_mul w0 w1 (by decide) (by decide) (by decide)) ?_
        walk_at "gd"
        refine .inl ⟨_, rfl, ?_⟩
        walk_at "gd"
        exact S.rI (by decide) k
      case and =>
        walk_at "gd"
        refine wd ?_
        walk_at "gd"
        refine wd ?_
        walk_at "gd"
        refine wd ?_
        walk_at "gd"
        exact k
      case or =>
        walk_at "gd"
        refine wd ?_
        walk_at "gd"
        refine wd ?_
        walk_at "gd"
        refine wd ?_
        walk_at "gd"
        refine wd ?_
        walk_at "gd"
        exact k
      case less =>
        walk_at "gd"
        refine wd ?_
        walk_at "gd"
        refine wd ?_
        walk_at "gd"
        refine wd ?_
        walk_at "gd"
        refine wd ?_
        walk_at "gd"
        refine wd ?_
        walk_at "gd"
        refine .inr ⟨_, rfl, ?_⟩
        rw [show (V.int (if decide (reg m b < reg m c) = true then 1 else 0)) = V.int (calcA .less (reg m b) (reg m c)) by show V.int (if decide (reg m b < reg m c) = true then 1 else 0) = V.int (if reg m b < reg m c then 1 else 0); simp]
        exact k
      case same =>
        walk_at "gd"
        refine wd ?_
        walk_at "gd"
        refine wd ?_
        walk_at "gd"
        refine wd ?_
        walk_at "gd"
        refine wd ?_
        walk_at "gd"
        refine wd ?_
        walk_at "gd"
        refine .inr ⟨_, rfl, ?_⟩
        rw [show (V.int (if decide (reg m b = reg m c) = true then 1 else 0)) = V.int (calcA .same (reg m b) (reg m c)) by show V.int (if decide (reg m b = reg m c) = true then 1 else 0) = V.int (if reg m b = reg m c then 1 else 0); simp]
        exact k
    | load a b => exact absurd rfl (nl a b)
    | store => cases hf
    | jump => cases hf
    | iff => cases hf
    | call => cases hf
    | back => cases hf
    | ask => cases hf
    | stop => cases hf

theorem ok__law_cells {P : Program} {w : World} {K : PySem.W.Frag} {mg : Str → Option Value} {base : Heap} {f : Addr} {fd : FuncData} (F : Fun K "_law_cells" "_law_cells" s__law_cells f fd) (B : Blt mg)
    : FnOk P w K mg base CX0 (0 + 1) f fd P__law_cells (spLCells) := by
  refine F.ok sc__law_cells (fun vs H Q E h => ?_) (fun cdv A outer s H vs Q E hr h => ?_)
  · obtain ⟨F, v, mem, a, f, rfl, _⟩ := h; rfl
  · have hu := hu_of hr
    have hu64 := Room.units hr
    obtain ⟨F, v, mem, a, f, rfl, sm, ⟨va, xs, rfl, hp, hx⟩, hm, ha, hf, k⟩ := h
    have hl := PairsIn.len hx
    have hml := hm.ok.len
    refine ⟨_, (pss_cons (ps_setLc (i := 3) (own := [("cell", 4)]) rfl sc__law_cells.nd rfl rfl (sw_true rfl rfl rfl (by decide +kernel)) (pi_seq (pv 0)) (blkOk_by (N := N__law_cells) (sc := defScope s__law_cells) (by decide +kernel)) (fun _ _ _ _ _ => (pg_name (i := 4) sc__law_cells.nd rfl (Or.inl rfl))) (fun _ _ _ _ _ => pts_one (pt_cmpR (op_neUK (K := K) rfl hu64) (pe_ix (ix_seqK (K := K) rfl) (pv 4) (pe_int) (fun _ _ => rfl)) (pv 1) (nomark _))) (fun _ _ _ _ _ => (pv 4)))
      (pss_cons (ps_if (pt_cmpR (op_neU hu64) (pv 2) (pe_int) (nomark _)) (pss_one (ps_expr (pe_bm PySem.F.plainAttrs_list PySem.F.slot_list_append PySem.F.type_list_append mt_append (pv 3) (pa_cons (pe_tup (pa_cons (pv 1) (pa_cons (pv 2) pa_nil))) pa_nil)))) pss_nil)
      (pss_one (ps_ret (pe_callTy call_tupF rfl B.m_tuple (by decide +kernel) (pa_cons (pe_callB cr_sortedPO rfl B.m_sorted (by first | exact PySem.boot_sorted | decide +kernel) (pa_cons (pv 3) pa_nil)) pa_nil)))))), ?_⟩
    try dsimp only [cxOf, Cx.nox, Cx.wish]
    walk_at "sq"
    walk_at "gs"
    refine S.lcS (S.iSeqT ?_)
    walk_at "gs"
    refine ⟨va, rfl, ⟨_, (hp.to sm).seq⟩, fun D hD => ?_⟩
    have fD := sub_free sm hD
    refine lc_it (walk_tup (K := K) (a := va) (xs := xs)) (fun i H' => ∃ ys, Gr [] F H F H' ∧ H' D = some (.lst ys) ∧ PairsIn F ys ((mem.take i).filter fun p => !decide (p.1 = a)) ∧ ys.length ≤ i) ⟨[], Gr.newOwn sm hD, upd_same, trivial, Nat.le_refl _⟩ ?_ ?_ ?_
    · rintro i H' _ ⟨ys, g, _⟩
      exact (hp.to g.sub).seq
    · rintro i x H' H'' hi ⟨ys, g, hDD, hy, hyl⟩ ⟨rfl, hxi⟩
      obtain ⟨p, t, hpi, rfl, ht⟩ := PairsIn.get hx hxi
      have hT : SqT K _ t [.int p.1, .int p.2] := .inl (.inl (g.sub _ _ ht))
      walk_at "gs"
      refine ⟨rfl, ?_⟩
      walk_at "gs"
      refine S.ixST hT (w := .int p.1) S.atI_0 ?_
      walk_at "gs"
      rw [take_succ_get hpi, filter_snoc]
      refine S.ite (fun e => ?_) (fun e => ?_)
      · rw [e, if_pos rfl]
        walk_at "gs"
        refine ⟨ys, hDD, size1000000 (by omega), ys ++ [.ref t], g.poke hD fD, upd_same, PairsIn.app hy ⟨⟨t, rfl, ht⟩, trivial⟩, by simp; omega⟩
      · rw [e, if_neg (by decide)]
        exact ⟨ys, g, hDD, hy, by omega⟩
    · rintro H1 ⟨ys, g1, hD1, hy, hyl⟩
      rw [hl, List.take_length] at hy
      walk_at "gs"
      with_reducible refine S.seqK (fun σ' H2 => σ' = [some (.ref va), some (.int a), some (.int f), some (.ref D), none] ∧ ∃ F2 zs, Gr [] F H F2 H2 ∧ H2 D = some (.lst zs) ∧ F2 D = none ∧ PairsIn F2 zs ((mem.filter fun p => !decide (p.1 = a)) ++ if f = 0 then [] else [(a, f)])) ?_ ?_
      · rintro σ' H2 ⟨rfl, F2, zs, g2, hD2, fD2, hz⟩
        walk_at "go"
        refine ⟨D, zs, pk F2, rfl, SqL.of hD2, fun x hx => ?_, fun us l hsr hst hl2 => ?_⟩
        · obtain ⟨t, e1, e2⟩ := hz.at_ x hx
          exact ⟨t, e1, g2.sub _ _ e2⟩
        have hus : PairsIn F2 us (us.map (pk F2)) := pairsIn_of fun y hy => hz.at_ y (hst.perm.mem_iff.mp hy)
        have hperm : (us.map (pk F2)).Perm ((mem.filter fun p => !decide (p.1 = a)) ++ if f = 0 then [] else [(a, f)]) := by
          have := hst.perm.map (pk F2)
          rw [hz.ks] at this
          exact this
        rw [putM_uniq hm ha hf hperm (srtd_leP hsr)] at hus
        have g3 : Gr [] F2 H2 F2 _ := Gr.newOwn (o := .lst us) g2.sub hl2
        have e3 : upd H2 l (.lst us) l = _ := upd_same
        generalize upd H2 l _ = H3 at *
        walk_at "go"
        refine ⟨l, us, rfl, SqL.of e3, fun l2 o hl2 ho => ?_⟩
        have g4 : Gr [] F2 H3 _ _ := Gr.new (o := .frz o (.tup us)) g3.sub hl2
        exact k _ _ _ ((g2.trans g3).trans g4) ⟨l2, us, rfl, ⟨o, upd_same, ho⟩, hus.to g4.fs⟩
      · intro N J
        walk_at "gs"
        refine S.ite (fun e => ?_) (fun e => ?_)
        · have e' : ¬ f = 0 := by simpa using e
          walk_at "gs"
          refine S.tyO hD1 ?_
          walk_at "gs"
          refine ⟨by show 2 ≤ sizeLine; decide, fun t ht => ?_⟩
          have g2 : Gr [] F H1 _ _ := Gr.new (o := .tup [V.int a, V.int f]) g1.sub ht
          have hD2 := g2.at0 hD1
          have fD2 := g2.own D fD (by rw [hD1]; exact fun z => nomatch z)
          have ft : upd F t (.tup [V.int a, V.int f]) t = _ := upd_same
          have hy2 := hy.to g2.fs
          generalize upd F t _ = F2 at *
          generalize upd H1 t _ = H2 at *
          walk_at "gs"
          refine S.appO hD2 (size1000000 (by omega)) ?_
          refine J _ _ ⟨rfl, F2, _, (g1.trans g2).poke hD fD2, upd_same, fD2, ?_⟩
          rw [if_neg e']
          exact PairsIn.app hy2 ⟨⟨t, rfl, ft⟩, trivial⟩
        · have e' : f = 0 := by simpa using e
          refine S.next (J _ _ ⟨rfl, F, ys, g1, hD1, fD, ?_⟩)
          rw [if_pos e', List.append_nil]
          exact hy

theorem ok__law_at {P : Program} {w : World} {K : PySem.W.Frag} {mg : Str → Option Value} {base : Heap} {f : Addr} {fd : FuncData} (F : Fun K "_law_at" "_law_at" s__law_at f fd) (B : Blt mg)
    : FnOk P w K mg base CX0 (0 + 1) f fd P__law_at (spLAt) := by
  refine F.ok sc__law_at (fun vs H Q E h => ?_) (fun cdv A outer s H vs Q E hr h => ?_)
  · obtain ⟨F, v, mem, a, rfl, _⟩ := h; rfl
  · have hu := hu_of hr
    have hu64 := Room.units hr
    obtain ⟨F, v, mem, a, rfl, sm, ⟨va, xs, rfl, hp, hx⟩, k⟩ := h
    have hl := PairsIn.len hx
    refine ⟨_, (pss_cons (ps_for PassesOwn.never rfl (pi_seq (pv 0)) (pg_name (i := 2) sc__law_at.nd rfl (Or.inl rfl)) (pss_one (ps_if (pt_cmpR (op_eqU hu64) (pe_ix ix_seq (pv 2) (pe_int) (fun _ _ => rfl)) (pv 1) (nomark _)) (pss_one (ps_ret (pe_ix ix_seq (pv 2) (pe_int) (fun _ _ => rfl)))) pss_nil)))
      (pss_one (ps_ret (pe_int)))), ?_⟩
    try dsimp only [cxOf, Cx.nox, Cx.wish]
    walk_at "sq"
    refine S.forS (S.iSeqT ?_)
    walk_at "gs"
    refine ⟨va, rfl, ⟨_, (hp.to sm).seq⟩, ?_⟩
    refine for_it (walk_tup (K := K) (a := va) (xs := xs)) (fun i σ H' => H' = H ∧ (∀ q ∈ mem.take i, q.1 ≠ a) ∧ ∃ o2, σ = [some (.ref va), some (.int a), o2]) ?_ ?_ ?_ ?_
    · exact ⟨rfl, by simp, _, rfl⟩
    · rintro i σ H' _ ⟨rfl, _⟩
      exact (hp.to sm).seq
    · rintro i x σ H' H'' hi ⟨rfl, hn, o2, rfl⟩ ⟨rfl, hxi⟩
      obtain ⟨p, t, hpi, rfl, ht⟩ := PairsIn.get hx hxi
      have hT : SqT K _ t [.int p.1, .int p.2] := .inl (.inl (sm _ _ ht))
      walk_at "go"
      refine S.ixST hT (w := .int p.1) S.atI_0 ?_
      walk_at "go"
      refine S.ite (fun e => ?_) (fun e => ?_)
      · have e' : p.1 = a := of_decide_eq_true e
        walk_at "go"
        refine S.ixST hT (w := .int p.2) S.atI_1 ?_
        rw [← getM_take hn hpi e']
        exact k
      · have e' : ¬ p.1 = a := of_decide_eq_false e
        refine S.next ⟨rfl, fun q hq => ?_, _, rfl⟩
        rw [take_succ_get hpi] at hq
        rcases List.mem_append.mp hq with h | h
        · exact hn q h
        · rw [List.mem_singleton.mp h]; exact e'
    · rintro σ H' ⟨rfl, hn, o2, rfl⟩
      walk_at "go"
      rw [hl, List.take_length] at hn
      rw [getM_none hn] at k
      exact k

theorem ok__law_next {P : Program} {w : World} {K : PySem.W.Frag} {mg : Str → Option Value} {base : Heap} {f : Addr} {fd : FuncData} (F : Fun K "_law_next" "_law_next" s__law_next f fd) (B : Blt mg)
    (c__law_cells : Cal P w K mg base CX0 1 "_law_cells" P__law_cells spLCells) (c__law_at : Cal P w K mg base CX0 1 "_law_at" P__law_at spLAt) (c__law_reckoned : Cal P w K mg base CX0 1 "_law_reckoned" P__law_reckoned (spReck K))
    : FnOk P w K mg base CX0 (1 + 1) f fd P__law_next (spLNext K) := by
  refine F.ok sc__law_next (fun vs H Q E h => ?_) (fun cdv A outer s H vs Q E hr h => ?_)
  · obtain ⟨F, v, u, code, m, rfl, _⟩ := h; rfl
  · have hu := hu_of hr
    have hu64 := Room.units hr
    obtain ⟨F, v, u, code, m, rfl, sm, hc, ok, hm, mok, k⟩ := h
    obtain ⟨a, x1, x2, x3, x4, rfl, ha, rfl, h2, h3, h4⟩ := hm
    have a0 := mok.a0
    have hrl := mok.rl
    have hcl := mok.cl
    refine ⟨_, (pss_cons (ps_asg (pv 1) (pg_tup rfl (pgs_cons (pg_name (i := 2) sc__law_next.nd rfl (Or.inl rfl) (by first | exact Or.inl rfl | exact Or.inr rfl)) (pgs_cons (pg_name (i := 3) sc__law_next.nd rfl (Or.inl rfl) (by first | exact Or.inl rfl | exact Or.inr rfl)) (pgs_cons (pg_name (i := 4) sc__law_next.nd rfl (Or.inl rfl) (by first | exact Or.inl rfl | exact Or.inr rfl)) (pgs_cons (pg_name (i := 5) sc__law_next.nd rfl (Or.inl rfl) (by first | exact Or.inl rfl | exact Or.inr rfl)) pgs_nil))))))
      (pss_cons (ps_if (pt_cmpR (op_eqU hu64) (pv 2) (pe_callB call_lenU rfl B.m_len (by first | exact PySem.boot_len | decide +kernel) (pa_cons (pv 0) pa_nil)) (nomark _)) (pss_one (ps_ret (pe_tup (pa_cons (pe_str) (pa_cons (pe_str) pa_nil))))) pss_nil)
      (pss_cons (ps_set (i := 6) sc__law_next.nd rfl (Or.inl rfl) (pe_ix ix_seq (pv 0) (pv 2) (fun _ _ => rfl)))
      (pss_cons (ps_set (i := 7) sc__law_next.nd rfl (Or.inl rfl) (pe_ix ix_seq (pv 6) (pe_int) (fun _ _ => rfl)))
      (pss_cons (ps_if (pt_cmpR (op_eqU hu64) (pv 7) (pe_str) (nomark _)) (pss_one (ps_ret (pe_tup (pa_cons (pe_str) (pa_cons (pe_op op_mod (pe_callTy call_int1 rfl B.m_int (by decide +kernel) (pa_cons (pe_ix ix_seq (pv 3) (pe_int) (fun _ _ => rfl)) pa_nil)) (pe_int)) pa_nil))))) pss_nil)
      (pss_cons (ps_if (pt_cmpR (op_eqU hu64) (pv 7) (pe_str) (nomark _)) (pss_one (ps_ret (pe_tup (pa_cons (pe_str) (pa_cons (pe_ix ix_seq (pv 6) (pe_int) (fun _ _ => rfl)) pa_nil))))) pss_nil)
      (pss_cons (ps_if (PW.pt (pw_or (pt_cmpR (op_eqU hu64) (pv 7) (pe_str) (nomark _)) (pw_or1 (PW.pt (pw_and (pt_cmpR (op_eqU hu64) (pv 7) (pe_str) (nomark _)) (pw_and1 (pt_cmpR (op_neU hu64) (pe_ix ix_seq (pv 3) (pe_ix ix_seq (pv 6) (pe_int) (fun _ _ => rfl)) (fun _ _ => rfl)) (pe_int) (nomark _)))))))) (pss_one (ps_ret (pe_tup (pa_cons (pe_str) (pa_cons (pe_tup (pa_cons (pe_ix ix_seq (pv 6) (pe_un un_neg (pe_int)) (fun _ _ => rfl)) (pa_cons (pv 3) (pa_cons (pv 4) (pa_cons (pv 5) pa_nil))))) pa_nil))))) pss_nil)
      (pss_cons (ps_if (pt_cmpR (op_eqU hu64) (pv 7) (pe_str) (nomark _)) (pss_one (ps_ret (pe_tup (pa_cons (pe_str) (pa_cons (pe_tup (pa_cons (pe_op op_addU (pv 2) (pe_int)) (pa_cons (pv 3) (pa_cons (pv 4) (pa_cons (pv 5) pa_nil))))) pa_nil))))) pss_nil)
      (pss_cons (ps_if (pt_cmpR (op_eqU hu64) (pv 7) (pe_str) (nomark _)) (pss_one (ps_ret (pe_ifExp (pt_cmpR (op_eqU hu64) (pe_callB call_lenU rfl B.m_len (by first | exact PySem.boot_len | decide +kernel) (pa_cons (pv 4) pa_nil)) (pe_int) (nomark _)) (pe_tup (pa_cons (pe_str) (pa_cons (pe_str) pa_nil))) (pe_tup (pa_cons (pe_str) (pa_cons (pe_tup (pa_cons (pe_ix ix_seq (pv 6) (pe_int) (fun _ _ => rfl)) (pa_cons (pv 3) (pa_cons (pe_op op_addU (pv 4) (pe_tup (pa_cons (pe_op op_addU (pv 2) (pe_int)) pa_nil))) (pa_cons (pv 5) pa_nil))))) pa_nil)))))) pss_nil)
      (pss_cons (ps_if (pt_cmpR (op_eqU hu64) (pv 7) (pe_str) (nomark _)) (pss_one (ps_ret (pe_ifExp (pt_cmpR (op_eqU hu64) (pv 4) (pe_tup pa_nil) (nomark _)) (pe_tup (pa_cons (pe_str) (pa_cons (pe_str) pa_nil))) (pe_tup (pa_cons (pe_str) (pa_cons (pe_tup (pa_cons (pe_ix ix_seq (pv 4) (pe_un un_neg (pe_int)) (fun _ _ => rfl)) (pa_cons (pv 3) (pa_cons (pe_slice sl_U (pv 4) po_none (po_some (pe_un un_neg (pe_int)))) (pa_cons (pv 5) pa_nil))))) pa_nil)))))) pss_nil)
      (pss_cons (ps_if (pt_cmpR (op_eqU hu64) (pv 7) (pe_str) (nomark _)) (pss_cons (ps_par (i := 8) (j := 9) rfl sc__law_next.nd rfl rfl (by decide) rfl rfl (pa_cons (pe_ix ix_seq (pv 3) (pe_ix ix_seq (pv 6) (pe_int) (fun _ _ => rfl)) (fun _ _ => rfl)) (pa_cons (pe_ix ix_seq (pv 3) (pe_ix ix_seq (pv 6) (pe_int) (fun _ _ => rfl)) (fun _ _ => rfl)) pa_nil)) rfl)
      (pss_cons (ps_if (pt_cmpR op_gt (pv 8) (pe_int) (nomark _)) (pss_one (ps_ret (pe_tup (pa_cons (pe_str) (pa_cons (pe_str) pa_nil))))) pss_nil)
      (pss_one (ps_ret (pe_tup (pa_cons (pe_str) (pa_cons (pe_tup (pa_cons (pe_op op_addU (pv 2) (pe_int)) (pa_cons (pv 3) (pa_cons (pv 4) (pa_cons (pe_cal c__law_cells (hr.mono (by first | decide | omega)) pass0 (pa_cons (pv 5) (pa_cons (pv 8) (pa_cons (pv 9) pa_nil)))) pa_nil))))) pa_nil))))))) pss_nil)
      (pss_cons (ps_if (PW.pt (pw_and (pt_cmpR (op_eqU hu64) (pv 7) (pe_str) (nomark _)) (pw_and1 (pt_cmpR op_gt (pe_ix ix_seq (pv 3) (pe_ix ix_seq (pv 6) (pe_int) (fun _ _ => rfl)) (fun _ _ => rfl)) (pe_int) (nomark _))))) (pss_one (ps_ret (pe_tup (pa_cons (pe_str) (pa_cons (pe_str) pa_nil))))) pss_nil)
      (pss_cons (ps_set (i := 10) sc__law_next.nd rfl (Or.inl rfl) (pe_ifExp (pt_cmpR (op_eqU hu64) (pv 7) (pe_str) (nomark _)) (pe_cal c__law_at (hr.mono (by first | decide | omega)) pass0 (pa_cons (pv 5) (pa_cons (pe_ix ix_seq (pv 3) (pe_ix ix_seq (pv 6) (pe_int) (fun _ _ => rfl)) (fun _ _ => rfl)) pa_nil))) (pe_cal c__law_reckoned (hr.mono (by first | decide | omega)) pass0 (pa_cons (pv 6) (pa_cons (pv 3) pa_nil)))))
      (pss_one (ps_ret (pe_tup (pa_cons (pe_str) (pa_cons (pe_tup (pa_cons (pe_op op_addU (pv 2) (pe_int)) (pa_cons (pe_op op_addU (pe_op op_addU (pe_slice sl_U (pv 3) po_none (po_some (pe_ix ix_seq (pv 6) (pe_int) (fun _ _ => rfl)))) (pe_tup (pa_cons (pv 10) pa_nil))) (pe_slice sl_U (pv 3) (po_some (pe_op op_addU (pe_ix ix_seq (pv 6) (pe_int) (fun _ _ => rfl)) (pe_int))) po_none)) (pa_cons (pv 4) (pa_cons (pv 5) pa_nil))))) pa_nil)))))))))))))))))), ?_⟩
    try dsimp only [cxOf, Cx.nox, Cx.wish]
    walk_at "go"
    refine S.gTupT (same_tup sm ha) rfl ?_
    walk_at "go"
    refine S.lenT (K := K) (ds := code.map ordD) hc sm ?_
    walk_at "go"
    have dat : ∀ {r : Res} {s t : PyData} {x y : V} {F1 H1 : Hp}, Gr [] F H F1 H1 → stepR code m = r → (∀ m', r ≠ .goes m') → resD r = .tuple [s, t] → Dp K F1 x s → Dp K F1 y t → ([x, y].length ≤ sizeLine ∧ ∀ p, H1 p = none → Q (.ref p) (upd H1 p (.tup [x, y]))) := fun {r s t x y F1 H1} g e ng er hx hy => by
      refine new_tupG (K := K) (ds := [s, t]) g.sub (.cons hx (.cons hy .nil)) (by show 2 ≤ sizeLine; decide) fun p F2 g2 hp hv => ?_
      refine k _ F2 _ (g.trans g2) ?_
      rw [e]
      rw [← er] at hv
      cases r with
      | goes m' => exact absurd rfl (ng m')
      | _ => exact hv
    have mach : ∀ (m' : Mch) {y1 y2 y3 y4 : V} {F1 H1 : Hp} {G : Addr → Prop}, Gr [] F H F1 H1 → y1 = .int m'.at_ → Dp K F1 y2 (.tuple (m'.regs.map .int)) → Dp K F1 y3 (.tuple (m'.calls.map .int)) → MemV F1 y4 m'.mem → (∀ p F2, Gr [] F H F2 (upd H1 p (.tup [y1, y2, y3, y4])) → MachV K F2 (.ref p) m' → G p) →
        ([y1, y2, y3, y4].length ≤ sizeLine ∧ ∀ p, H1 p = none → G p) := fun m' {y1 y2 y3 y4 F1 H1 G} g e1 e2 e3 e4 q => by
      refine ⟨by show 4 ≤ sizeLine; decide, fun p hp => ?_⟩
      have g2 : Gr [] F1 H1 _ _ := Gr.new (o := .tup [y1, y2, y3, y4]) g.sub hp
      exact q _ _ (g.trans g2) ⟨p, y1, y2, y3, y4, rfl, .inl (.inl upd_same), e1, e2.to g2.fs, e3.to g2.fs, e4.to g2.fs⟩
    have goes : ∀ (m' : Mch) {y : V} {F1 H1 : Hp}, Gr [] F H F1 H1 → stepR code m = .goes m' → MachV K F1 y m' → ([V.str "goes", y].length ≤ sizeLine ∧ ∀ p, H1 p = none → Q (.ref p) (upd H1 p (.tup [V.str "goes", y]))) := fun m' {y F1 H1} g e hy => by
      refine ⟨by show 2 ≤ sizeLine; decide, fun p hp => ?_⟩
      have g2 : Gr [] F1 H1 _ _ := Gr.new (o := .tup [V.str "goes", y]) g.sub hp
      refine k _ _ _ (g.trans g2) ?_
      rw [e]
      exact ⟨p, y, rfl, .inl (.inl upd_same), hy.to g2.fs⟩
    rcases at_some mok with ⟨e1, e2⟩ | ⟨hl, o, e2, ho⟩
    · refine S.iteT (by rw [decide_eq_true_iff, List.length_map]; exact e1) ?_
      walk_at "go"
      exact dat (r := .fault "order") (Gr.refl sm) (by unfold stepR; rw [e2]) (fun _ z => nomatch z) rfl (.str _) (.str _)
    · refine S.iteF (by rw [decide_eq_false_iff_not, List.length_map]; omega) ?_
      have es : stepR code m = (haltO o m).getD (.goes (nextO o m)) := by unfold stepR; rw [e2]
      rw [es] at dat goes
      clear k es
      have oko := ok.ok o ho
      have rg : ∀ {i : Int} {H1 : Hp} {Q' : VK}, isReg i → Gr [] F H F H1 → Q' (.int (reg m i)) H1 → rIx K x2 (.int i) H1 Q' := fun {i H1 Q'} hi g q => by
        refine S.ixT (K := K) (ds := m.regs.map .int) h2 g.sub (d := .int (reg m i)) ?_ fun w0 hw0 => ?_
        · have e : i = (i.toNat : Int) := by have := hi.1; omega
          conv => lhs; rw [e]
          refine S.atI_nat ?_
          rw [List.getElem?_map, (reg_at mok hi).1]
          rfl
        · obtain rfl := dp_int hw0
          exact q
      walk_at "go"
      refine S.ixT (K := K) (ds := code.map ordD) hc sm (d := ordD o) (ord_at (K := K) a0 e2) fun w0 hw0 => ?_
      walk_at "go"
      refine S.ixT (K := K) (ds := .str (wordO o) :: argsO o) hw0 sm (d := .str (wordO o)) S.atI_0 fun w1 hw1 => ?_
      obtain rfl := dp_str hw1
      walk_at "go"
      cases o
      case stop =>
        walk_at "gd"
        refine rg (i := 0) ⟨by decide, by decide⟩ (Gr.refl sm) ?_
        walk_at "go"
        refine .inl ⟨_, rfl, ?_⟩
        walk_at "go"
        refine S.rI (by decide) ?_
        walk_at "go"
        exact dat (Gr.refl sm) rfl (fun _ z => nomatch z) rfl (.str _) (.int _)
      case ask s =>
        walk_at "gd"
        refine S.ixT (K := K) (ds := [.str "ask", .str s]) hw0 sm (d := .str s) S.atI_1 fun w2 hw2 => ?_
        obtain rfl := dp_str hw2
        walk_at "gd"
        exact dat (Gr.refl sm) rfl (fun _ z => nomatch z) rfl (.str _) (.str _)
      case jump p =>
        walk_at "gd"
        refine S.ixT (K := K) (ds := [.str "jump", .int p]) hw0 sm (d := .int p) rfl fun w2 hw2 => ?_
        obtain rfl := dp_int hw2
        walk_at "gd"
        refine mach ⟨p, m.regs, m.calls, m.mem⟩ (Gr.refl sm) rfl h2 h3 h4 fun pp F2 g2 hy => ?_
        walk_at "gd"
        exact goes _ g2 rfl hy
      case iff r p =>
        walk_at "gd"
        refine S.ixT (K := K) (ds := [.str "if", .int r, .int p]) hw0 sm (d := .int r) S.atI_1 fun w2 hw2 => ?_
        obtain rfl := dp_int hw2
        refine rg oko.1 (Gr.refl sm) ?_
        walk_at "gd"
        refine S.ite (fun e => ?_) (fun e => ?_)
        · have e' : ¬ reg m r = 0 := by simpa using e
          walk_at "gd"
          refine S.ixT (K := K) (ds := [.str "if", .int r, .int p]) hw0 sm (d := .int p) rfl fun w2 hw2 => ?_
          obtain rfl := dp_int hw2
          walk_at "gd"
          refine mach ⟨p, m.regs, m.calls, m.mem⟩ (Gr.refl sm) rfl h2 h3 h4 fun pp F2 g2 hy => ?_
          walk_at "gd"
          refine goes _ g2 ?_ hy
          show Res.goes (nextO (.iff r p) m) = _
          unfold nextO
          dsimp only
          rw [if_neg e']
        · have e' : reg m r = 0 := by simpa using e
          walk_at "gd"
          refine mach ⟨m.at_ + 1, m.regs, m.calls, m.mem⟩ (Gr.refl sm) rfl h2 h3 h4 fun pp F2 g2 hy => ?_
          walk_at "gd"
          refine goes _ g2 ?_ hy
          show Res.goes (nextO (.iff r p) m) = _
          unfold nextO
          dsimp only
          rw [if_pos e']
      case call p =>
        walk_at "gd"
        refine S.lenT (K := K) (ds := m.calls.map .int) h3 sm ?_
        walk_at "gd"
        rw [List.length_map]
        refine S.ite (fun e => ?_) (fun e => ?_)
        · have e' : m.calls.length = 32 := by have := of_decide_eq_true e; omega
          walk_at "gd"
          exact dat (r := .fault "stack") (Gr.refl sm) (by simp [haltO, e']) (fun _ z => nomatch z) rfl (.str _) (.str _)
        · have e' : ¬ m.calls.length = 32 := by have := of_decide_eq_false e; omega
          walk_at "gd"
          refine S.ixT (K := K) (ds := [.str "call", .int p]) hw0 sm (d := .int p) S.atI_1 fun w2 hw2 => ?_
          obtain rfl := dp_int hw2
          walk_at "gd"
          refine new_tupG (K := K) (ds := [.int (m.at_ + 1)]) sm (.cons (.int _) .nil) (by show 1 ≤ sizeLine; decide) fun t F1 g1 ht hv => ?_
          generalize upd H t _ = H1 at *
          walk_at "gd"
          refine S.catD (K := K) (h3.to g1.fs) hv g1.sub (by simp; omega) fun z F2 H2 g2 hz => ?_
          have g12 := g1.trans g2
          walk_at "gd"
          refine mach ⟨p, m.regs, m.calls ++ [m.at_ + 1], m.mem⟩ g12 rfl (h2.to g12.fs) (by rw [show (m.calls ++ [m.at_ + 1]).map PyData.int = m.calls.map .int ++ [.int (m.at_ + 1)] by simp]; exact hz) (h4.to g12.fs) fun pp F3 g3 hy => ?_
          walk_at "gd"
          exact goes _ g3 (by simp [haltO, e', nextO]) hy
      case back =>
        walk_at "gd"
        refine new_tupG (K := K) (ds := []) sm .nil (by show 0 ≤ sizeLine; decide) fun t F1 g1 ht hv => ?_
        generalize upd H t _ = H1 at *
        refine S.eqD (F := F1) (h3.to g1.fs) hv g1.sub (tints_shaped _) (by decide) ?_
        rw [tints_nil]
        walk_at "gd"
        refine S.ite (fun e => ?_) (fun e => ?_)
        · have e' : m.calls.length = 0 := of_decide_eq_true e
          walk_at "gd"
          exact dat (r := .fault "stack") g1 (by simp [haltO, e']) (fun _ z => nomatch z) rfl (.str _) (.str _)
        · have e' : ¬ m.calls.length = 0 := of_decide_eq_false e
          have hgl : m.calls.getLast? = some (m.calls.getLastD 0) := by
            rw [List.getLastD_eq_getLast?]
            cases q : m.calls.getLast? with
            | none => rw [List.getLast?_eq_none_iff] at q; rw [q] at e'; exact absurd rfl e'
            | some z => rfl
          walk_at "gd"
          refine S.ixT (K := K) (ds := m.calls.map .int) (h3.to g1.fs) g1.sub (d := .int (m.calls.getLastD 0)) (S.atI_last (by rw [List.getLast?_map, hgl]; rfl)) fun w2 hw2 => ?_
          obtain rfl := dp_int hw2
          walk_at "gd"
          refine S.slBut (K := K) (h3.to g1.fs) g1.sub fun z F2 H2 g2 hz => ?_
          have g12 := g1.trans g2
          walk_at "gd"
          refine mach ⟨m.calls.getLastD 0, m.regs, m.calls.dropLast, m.mem⟩ g12 rfl (h2.to g12.fs) (by rw [List.map_dropLast]; exact hz) (h4.to g12.fs) fun pp F3 g3 hy => ?_
          walk_at "gd"
          refine goes _ g3 ?_ hy
          show (if m.calls.length = 0 then some (Res.fault "stack") else none).getD (.goes (nextO .back m)) = _
          rw [if_neg e']
          rfl
      case store a b =>
        have fa := (reg_at mok oko.1).2
        walk_at "gd"
        refine S.ixT (K := K) (ds := [.str "store", .int a, .int b]) hw0 sm (d := .int a) S.atI_1 fun w2 hw2 => ?_
        obtain rfl := dp_int hw2
        refine rg oko.1 (Gr.refl sm) ?_
        walk_at "gd"
        refine S.ixT (K := K) (ds := [.str "store", .int a, .int b]) hw0 sm (d := .int b) S.atI_2 fun w2 hw2 => ?_
        obtain rfl := dp_int hw2
        refine rg oko.2 (Gr.refl sm) ?_
        walk_at "gd"
        refine ⟨_, _, rfl, ?_⟩
        walk_at "gd"
        refine S.ite (fun e => ?_) (fun e => ?_)
        · have e' : 4096 ≤ reg m a := by have := of_decide_eq_true e; omega
          walk_at "gd"
          exact dat (r := .fault "address") (Gr.refl sm) (by simp [haltO, e']) (fun _ z => nomatch z) rfl (.str _) (.str _)
        · have e' : ¬ 4096 ≤ reg m a := by have := of_decide_eq_false e; omega
          walk_at "gd"
          refine ⟨F, x4, m.mem, reg m a, reg m b, rfl, sm, h4, mok.me, ⟨fa.1, by omega⟩, (reg_at mok oko.2).2, fun w5 F5 H5 g5 hw5 => ?_⟩
          walk_at "gd"
          refine mach ⟨m.at_ + 1, m.regs, m.calls, putM m.mem (reg m a) (reg m b)⟩ g5 rfl (h2.to g5.fs) (h3.to g5.fs) hw5 fun pp F3 g3 hy => ?_
          walk_at "gd"
          refine goes _ g3 ?_ hy
          show (if 4096 ≤ reg m a then some (Res.fault "address") else none).getD (.goes (nextO (.store a b) m)) = _
          rw [if_neg e']
          rfl
      case set a f =>
        have ra : isReg a := oko.1
        obtain ⟨ra0, ra1⟩ := id ra
        walk_at "gd"
        refine ⟨F, w0, x2, .set a f, m, code.length, rfl, sm, hw0, h2, oko, mok, rfl, (fun _ _ z => nomatch z), ?_⟩
        walk_at "gd"
        refine S.ixT (K := K) (ds := [.str "set", .int a, .int f]) hw0 sm (d := .int a) S.atI_1 fun w2 hw2 => ?_
        obtain rfl := dp_int hw2
        walk_at "gd"
        refine S.slToI (K := K) h2 sm ra.1 fun z1 F1 H1 g1 hz1 => ?_
        walk_at "gd"
        refine new_tupG (K := K) (ds := [.int (figO (.set a f) m)]) g1.sub (.cons (.int _) .nil) (by show 1 ≤ sizeLine; decide) fun t F2 g2 ht hv => ?_
        generalize upd H1 t _ = H2 at *
        refine S.catD (K := K) (hz1.to g2.fs) hv g2.sub (by simp; omega) fun z3 F3 H3 g3 hz3 => ?_
        have g13 := (g1.trans g2).trans g3
        walk_at "gd"
        refine S.ixT (K := K) (ds := [.str "set", .int a, .int f]) (hw0.to g13.fs) g13.sub (d := .int a) S.atI_1 fun w2 hw2 => ?_
        obtain rfl := dp_int hw2
        walk_at "gd"
        refine S.slFromI (K := K) (h2.to g13.fs) g13.sub (by omega) fun z4 F4 H4 g4 hz4 => ?_
        walk_at "gd"
        refine S.catD (K := K) (hz3.to g4.fs) hz4 g4.sub (by simp; omega) fun z5 F5 H5 g5 hz5 => ?_
        have g15 := (g13.trans g4).trans g5
        have er : ((m.regs.map PyData.int).take a.toNat ++ [.int (figO (.set a f) m)]) ++ (m.regs.map PyData.int).drop (a + 1).toNat = (setR m a (figO (.set a f) m)).map .int := by
          unfold setR
          rw [← set_parts _ (by omega : a.toNat < m.regs.length), show (a + 1).toNat = a.toNat + 1 by omega]
          simp
        rw [er] at hz5
        walk_at "gd"
        refine mach ⟨m.at_ + 1, setR m a (figO (.set a f) m), m.calls, m.mem⟩ g15 rfl hz5 (h3.to g15.fs) (h4.to g15.fs) fun pp F6 g6 hy => ?_
        walk_at "gd"
        refine goes _ g6 ?_ hy
        rfl
      case copy a b =>
        have ra : isReg a := oko.1
        obtain ⟨ra0, ra1⟩ := id ra
        walk_at "gd"
        refine ⟨F, w0, x2, .copy a b, m, code.length, rfl, sm, hw0, h2, oko, mok, rfl, (fun _ _ z => nomatch z), ?_⟩
        walk_at "gd"
        refine S.ixT (K := K) (ds := [.str "copy", .int a, .int b]) hw0 sm (d := .int a) S.atI_1 fun w2 hw2 => ?_
        obtain rfl := dp_int hw2
        walk_at "gd"
        refine S.slToI (K := K) h2 sm ra.1 fun z1 F1 H1 g1 hz1 => ?_
        walk_at "gd"
        refine new_tupG (K := K) (ds := [.int (figO (.copy a b) m)]) g1.sub (.cons (.int _) .nil) (by show 1 ≤ sizeLine; decide) fun t F2 g2 ht hv => ?_
        generalize upd H1 t _ = H2 at *
        refine S.catD (K := K) (hz1.to g2.fs) hv g2.sub (by simp; omega) fun z3 F3 H3 g3 hz3 => ?_
        have g13 := (g1.trans g2).trans g3
        walk_at "gd"
        refine S.ixT (K := K) (ds := [.str "copy", .int a, .int b]) (hw0.to g13.fs) g13.sub (d := .int a) S.atI_1 fun w2 hw2 => ?_
        obtain rfl := dp_int hw2
        walk_at "gd"
        refine S.slFromI (K := K) (h2.to g13.fs) g13.sub (by omega) fun z4 F4 H4 g4 hz4 => ?_
        walk_at "gd"
        refine S.catD (K := K) (hz3.to g4.fs) hz4 g4.sub (by simp; omega) fun z5 F5 H5 g5 hz5 => ?_
        have g15 := (g13.trans g4).trans g5
        have er : ((m.regs.map PyData.int).take a.toNat ++ [.int (figO (.copy a b) m)]) ++ (m.regs.map PyData.int).drop (a + 1).toNat = (setR m a (figO (.copy a b) m)).map .int := by
          unfold setR
          rw [← set_parts _ (by omega : a.toNat < m.regs.length), show (a + 1).toNat = a.toNat + 1 by omega]
          simp
        rw [er] at hz5
        walk_at "gd"
        refine mach ⟨m.at_ + 1, setR m a (figO (.copy a b) m), m.calls, m.mem⟩ g15 rfl hz5 (h3.to g15.fs) (h4.to g15.fs) fun pp F6 g6 hy => ?_
        walk_at "gd"
        refine goes _ g6 ?_ hy
        rfl
      case ar z a b c =>
        have ra : isReg a := oko.1
        obtain ⟨ra0, ra1⟩ := id ra
        walk_at "go"
        repeat (refine S.iteF (by cases z <;> rfl) ?_; walk_at "go")
        refine ⟨F, w0, x2, .ar z a b c, m, code.length, rfl, sm, hw0, h2, oko, mok, rfl, (fun _ _ z => nomatch z), ?_⟩
        walk_at "gd"
        refine S.ixT (K := K) (ds := [.str z.name, .int a, .int b, .int c]) hw0 sm (d := .int a) S.atI_1 fun w2 hw2 => ?_
        obtain rfl := dp_int hw2
        walk_at "gd"
        refine S.slToI (K := K) h2 sm ra.1 fun z1 F1 H1 g1 hz1 => ?_
        walk_at "gd"
        refine new_tupG (K := K) (ds := [.int (figO (.ar z a b c) m)]) g1.sub (.cons (.int _) .nil) (by show 1 ≤ sizeLine; decide) fun t F2 g2 ht hv => ?_
        generalize upd H1 t _ = H2 at *
        refine S.catD (K := K) (hz1.to g2.fs) hv g2.sub (by simp; omega) fun z3 F3 H3 g3 hz3 => ?_
        have g13 := (g1.trans g2).trans g3
        walk_at "gd"
        refine S.ixT (K := K) (ds := [.str z.name, .int a, .int b, .int c]) (hw0.to g13.fs) g13.sub (d := .int a) S.atI_1 fun w2 hw2 => ?_
        obtain rfl := dp_int hw2
        walk_at "gd"
        refine S.slFromI (K := K) (h2.to g13.fs) g13.sub (by omega) fun z4 F4 H4 g4 hz4 => ?_
        walk_at "gd"
        refine S.catD (K := K) (hz3.to g4.fs) hz4 g4.sub (by simp; omega) fun z5 F5 H5 g5 hz5 => ?_
        have g15 := (g13.trans g4).trans g5
        have er : ((m.regs.map PyData.int).take a.toNat ++ [.int (figO (.ar z a b c) m)]) ++ (m.regs.map PyData.int).drop (a + 1).toNat = (setR m a (figO (.ar z a b c) m)).map .int := by
          unfold setR
          rw [← set_parts _ (by omega : a.toNat < m.regs.length), show (a + 1).toNat = a.toNat + 1 by omega]
          simp
        rw [er] at hz5
        walk_at "gd"
        refine mach ⟨m.at_ + 1, setR m a (figO (.ar z a b c) m), m.calls, m.mem⟩ g15 rfl hz5 (h3.to g15.fs) (h4.to g15.fs) fun pp F6 g6 hy => ?_
        walk_at "gd"
        refine goes _ g6 ?_ hy
        rfl
      case load a b =>
        have ra : isReg a := oko.1
        obtain ⟨ra0, ra1⟩ := id ra
        have fb := (reg_at mok oko.2).2
        walk_at "gd"
        refine S.ixT (K := K) (ds := [.str "load", .int a, .int b]) hw0 sm (d := .int b) S.atI_2 fun w2 hw2 => ?_
        obtain rfl := dp_int hw2
        refine rg oko.2 (Gr.refl sm) ?_
        walk_at "gd"
        refine S.ite (fun e => ?_) (fun e => ?_)
        · have e' : 4096 ≤ reg m b := by have := of_decide_eq_true e; omega
          walk_at "gd"
          exact dat (r := .fault "address") (Gr.refl sm) (by simp [haltO, e']) (fun _ z => nomatch z) rfl (.str _) (.str _)
        have e' : ¬ 4096 ≤ reg m b := by have := of_decide_eq_false e; omega
        walk_at "gd"
        refine S.ixT (K := K) (ds := [.str "load", .int a, .int b]) hw0 sm (d := .int b) S.atI_2 fun w2 hw2 => ?_
        obtain rfl := dp_int hw2
        refine rg oko.2 (Gr.refl sm) ?_
        walk_at "gd"
        refine ⟨F, x4, m.mem, reg m b, rfl, sm, h4, ?_⟩
        walk_at "gd"
        refine S.ixT (K := K) (ds := [.str "load", .int a, .int b]) hw0 sm (d := .int a) S.atI_1 fun w2 hw2 => ?_
        obtain rfl := dp_int hw2
        walk_at "gd"
        refine S.slToI (K := K) h2 sm ra.1 fun z1 F1 H1 g1 hz1 => ?_
        walk_at "gd"
        refine new_tupG (K := K) (ds := [.int (figO (.load a b) m)]) g1.sub (.cons (.int _) .nil) (by show 1 ≤ sizeLine; decide) fun t F2 g2 ht hv => ?_
        generalize upd H1 t _ = H2 at *
        refine S.catD (K := K) (hz1.to g2.fs) hv g2.sub (by simp; omega) fun z3 F3 H3 g3 hz3 => ?_
        have g13 := (g1.trans g2).trans g3
        walk_at "gd"
        refine S.ixT (K := K) (ds := [.str "load", .int a, .int b]) (hw0.to g13.fs) g13.sub (d := .int a) S.atI_1 fun w2 hw2 => ?_
        obtain rfl := dp_int hw2
        walk_at "gd"
        refine S.slFromI (K := K) (h2.to g13.fs) g13.sub (by omega) fun z4 F4 H4 g4 hz4 => ?_
        walk_at "gd"
        refine S.catD (K := K) (hz3.to g4.fs) hz4 g4.sub (by simp; omega) fun z5 F5 H5 g5 hz5 => ?_
        have g15 := (g13.trans g4).trans g5
        have er : ((m.regs.map PyData.int).take a.toNat ++ [.int (figO (.load a b) m)]) ++ (m.regs.map PyData.int).drop (a + 1).toNat = (setR m a (figO (.load a b) m)).map .int := by
          unfold setR
          rw [← set_parts _ (by omega : a.toNat < m.regs.length), show (a + 1).toNat = a.toNat + 1 by omega]
          simp
        rw [er] at hz5
        walk_at "gd"
        refine mach ⟨m.at_ + 1, setR m a (figO (.load a b) m), m.calls, m.mem⟩ g15 rfl hz5 (h3.to g15.fs) (h4.to g15.fs) fun pp F6 g6 hy => ?_
        walk_at "gd"
        refine goes _ g6 ?_ hy
        show (if 4096 ≤ reg m b then some (Res.fault "address") else none).getD (.goes (nextO (.load a b) m)) = _
        rw [if_neg e']
        rfl

theorem ok__law_memory {P : Program} {w : World} {K : PySem.W.Frag} {mg : Str → Option Value} {base : Heap} {f : Addr} {fd : FuncData} (F : Fun K "_law_memory" "_law_memory" s__law_memory f fd) (B : Blt mg)
    (c__law_draw : Cal P w K mg base CX0 1 "_law_draw" P__law_draw spDraw) (c__law_cells : Cal P w K mg base CX0 1 "_law_cells" P__law_cells spLCells)
    : FnOk P w K mg base CX0 (2 + 1) f fd P__law_memory (spLMem) := by
  refine F.ok sc__law_memory (fun vs H Q E h => ?_) (fun cdv A outer s H vs Q E hr h => ?_)
  · obtain ⟨F, q, m, rfl, _⟩ := h; rfl
  · have hu := hu_of hr
    have hu64 := Room.units hr
    obtain ⟨F, q, m, rfl, sm, fq, hq, hm, k⟩ := h
    refine ⟨_, (pss_cons (ps_set (i := 1) sc__law_memory.nd rfl (Or.inl rfl) (pe_tupF pa_nil))
      (pss_cons (ps_for PassesOwn.never rfl (pi_range1 rfl B.m_range (pa_cons (pe_cal c__law_draw (hr.mono (by first | decide | omega)) pass0 (pa_cons (pv 0) (pa_cons (pe_int) pa_nil))) pa_nil)) (pg_name (i := 2) sc__law_memory.nd rfl (Or.inl rfl)) (pss_cons (ps_set (i := 3) sc__law_memory.nd rfl (Or.inl rfl) (pe_ifExp (pt_cmpR (op_eqU hu64) (pe_cal c__law_draw (hr.mono (by first | decide | omega)) pass0 (pa_cons (pv 0) (pa_cons (pe_int) pa_nil))) (pe_int) (nomark _)) (pe_ix ix_seq (pe_lst (pa_cons (pe_int) (pa_cons (pe_int) (pa_cons (pe_int) (pa_cons (pe_int) (pa_cons (pe_int) (pa_cons (pe_int) (pa_cons (pe_int) pa_nil)))))))) (pe_cal c__law_draw (hr.mono (by first | decide | omega)) pass0 (pa_cons (pv 0) (pa_cons (pe_int) pa_nil))) (fun _ _ => rfl)) (pe_cal c__law_draw (hr.mono (by first | decide | omega)) pass0 (pa_cons (pv 0) (pa_cons (pe_int) pa_nil)))))
      (pss_one (ps_set (i := 1) sc__law_memory.nd rfl (Or.inl rfl) (pe_cal c__law_cells (hr.mono (by first | decide | omega)) pass0 (pa_cons (pv 1) (pa_cons (pv 3) (pa_cons (pe_op op_addU (pe_int) (pe_cal c__law_draw (hr.mono (by first | decide | omega)) pass0 (pa_cons (pv 0) (pa_cons (pe_int) pa_nil)))) pa_nil))))))))
      (pss_one (ps_ret (pv 1))))), ?_⟩
    try dsimp only [cxOf, Cx.nox, Cx.wish]
    walk_at "sq"
    walk_at "gs"
    refine S.tupF ?_
    walk_at "gs"
    refine ⟨by show 0 ≤ sizeLine; decide, fun l0 o hl0 ho => ?_⟩
    have g0 : Gr [] F H _ _ := Gr.new (o := .frz o (.tup [])) sm hl0
    have m0 : MemV (upd F l0 (.frz o (.tup []))) (.ref l0) [] := ⟨l0, [], rfl, ⟨o, upd_same, ho⟩, trivial⟩
    have fq0 := g0.own q fq hq.live
    have hq0 := hq.gr g0 (by simp)
    generalize upd F l0 _ = F0 at *
    generalize upd H l0 _ = H0 at *
    walk_at "gs"
    walk_at "sq"
    refine S.forS (S.iRng1 ?_)
    walk_at "gs"
    refine ⟨F0, q, 6, m, rfl, g0.sub, fq0, hq0, by omega, by decide, by decide, fun many H1 g1 hq1 x0 x1 => ?_⟩
    walk_at "gs"
    refine ⟨by omega, by omega, ?_⟩
    have g01 := (g0.any (W := [q])).trans g1
    refine for_it (walk_range (lo := 0) (n := many.toNat)) (fun i σ H' => ∃ F' mem w o2 o3, Gr [q] F H F' H' ∧ DkAt H' q (m + 1 + 3 * i) ∧ F' q = none ∧ MemV F' w mem ∧ MemA mem ∧ σ = [some (.ref q), some w, o2, o3]) ?_ ?_ ?_ ?_
    · exact ⟨F0, [], _, _, _, g01, hq1, fq0, m0, ⟨.nil, fun p hp => by cases hp⟩, rfl⟩
    · intros; trivial
    · rintro i x σ H' H'' hi ⟨F', mem, w, o2, o3, g, hqi, fqi, hmv, hma, rfl⟩ ⟨rfl, rfl⟩
      have hi5 : i < 5 := by omega
      have fin : ∀ (a : Int) (H3 : Hp), Gr [q] F' H'' F' H3 → DkAt H3 q (m + 1 + 3 * i + 2) → 0 ≤ a → a < 4096 → tAsg (tCall spLCells [] E0 (tCons (tVar 1) (tCons (tVar 3) (tCons (tOp (rAddU K) (tC (.int 1)) (tCall spDraw [] E0 (tCons (tVar 0) (tCons (tC (.int 65535)) tNil)))) tNil)))) (gName 1) ⟨fun σ' H' => ∃ F' mem w o2 o3, Gr [q] F H F' H' ∧ DkAt H' q (m + 1 + 3 * (i + 1)) ∧ F' q = none ∧ MemV F' w mem ∧ MemA mem ∧ σ' = [some (.ref q), some w, o2, o3], Q, fun _ _ => True, fun _ _ => True⟩ [some (.ref q), some w, some (.int (0 + (i : Int))), some (.int a)] H3 := by
        intro a H3 g3 hq3 a0 a1
        walk_at "gs"
        refine ⟨F', q, 65535, _, rfl, g3.sub, fqi, hq3, by omega, by decide, by decide, fun f H4 g4 hq4 f0 f1 => ?_⟩
        walk_at "gs"
        refine ⟨F', w, mem, a, 1 + f, rfl, g4.sub, hmv, hma, ⟨a0, a1⟩, ⟨by omega, by omega⟩, fun w5 F5 H5 g5 hw5 => ?_⟩
        walk_at "gs"
        exact ⟨F5, _, w5, _, _, ((g.trans g3).trans g4).trans g5.any, (hq4.gr g5 (by simp)).more (by omega), g5.own q fqi hq4.live, hw5, putM_A hma ⟨a0, a1⟩ ⟨by omega, by omega⟩, rfl⟩
      walk_at "gs"
      walk_at "sq"
      walk_at "gs"
      refine ⟨F', q, 2, _, rfl, g.sub, fqi, hqi, by omega, by decide, by decide, fun y H2 g2 hq2 y0 y1 => ?_⟩
      walk_at "gs"
      refine S.ite (fun e => ?_) (fun e => ?_)
      · walk_at "gs"
        refine own_lstG g2.sub (by show 7 ≤ sizeLine; decide) fun D1 g3 hD1 fD1 hDD1 => ?_
        have hq3 := hq2.gr g3 (by simp)
        have nD : D1 ≠ q := fun z => hq2.live (by rw [← z]; exact hD1)
        generalize upd H2 D1 _ = H3 at *
        walk_at "gs"
        refine ⟨F', q, 7, _, rfl, g3.sub, fqi, hq3, by omega, by decide, by decide, fun z H4 g4 hq4 z0 z1 => ?_⟩
        have hD4 := g4.at (by simp [nD]) hDD1
        refine S.ixI (l := [0, 1, 2, 3, 64, 255, 4095]) hD4 z0 (by show z < 7; omega) fun a ha => ?_
        simp only [List.mem_cons, List.not_mem_nil, or_false] at ha
        with_reducible refine S.name ?_
        exact fin a H4 ((g2.trans g3.any).trans g4) hq4 (by omega) (by omega)
      · walk_at "gs"
        refine ⟨F', q, 4096, _, rfl, g2.sub, fqi, hq2, by omega, by decide, by decide, fun a H4 g4 hq4 a0 a1 => ?_⟩
        with_reducible refine S.name ?_
        exact fin a H4 (g2.trans g4) hq4 a0 a1
    · rintro σ H' ⟨F', mem, w, o2, o3, g, hqi, fqi, hmv, hma, rfl⟩
      walk_at "gs"
      have : many.toNat ≤ 5 := by omega
      exact k mem w F' H' g (hqi.more (by omega)) hmv hma

theorem ok__law_machine {P : Program} {w : World} {K : PySem.W.Frag} {mg : Str → Option Value} {base : Heap} {f : Addr} {fd : FuncData} (F : Fun K "_law_machine" "_law_machine" s__law_machine f fd) (B : Blt mg)
    (c__law_draw : Cal P w K mg base CX0 1 "_law_draw" P__law_draw spDraw) (c__law_pick : Cal P w K mg base CX0 2 "_law_pick" P__law_pick (spPick K)) (c__law_figure : Cal P w K mg base CX0 2 "_law_figure" P__law_figure spLFig) (c__law_memory : Cal P w K mg base CX0 3 "_law_memory" P__law_memory spLMem)
    : FnOk P w K mg base CX0 (3 + 1) f fd P__law_machine (spLMach K) := by
  refine F.ok sc__law_machine (fun vs H Q E h => ?_) (fun cdv A outer s H vs Q E hr h => ?_)
  · obtain ⟨F, q, m, n, rfl, _⟩ := h; rfl
  · have hu := hu_of hr
    have hu64 := Room.units hr
    obtain ⟨F, q, m, n, rfl, sm, fq, hq, hm, hn, k⟩ := h
    refine ⟨_, (pss_cons (ps_set (i := 2) sc__law_machine.nd rfl (Or.inl rfl) (pe_callTy call_tuple_of rfl B.m_tuple (by decide +kernel) (pa_cons (pe_lc (own := [("turn", 4)]) rfl sc__law_machine.nd (pi_range1 rfl B.m_range (pa_cons (pe_int) pa_nil)) (blkOk_by (N := N__law_machine) (sc := defScope s__law_machine) (by decide +kernel)) (fun _ _ _ _ _ => (pg_name (i := 4) sc__law_machine.nd rfl (Or.inl rfl))) (fun _ _ _ _ _ => pts_nil) (fun _ _ _ _ _ => (pe_cal c__law_figure (hr.mono (by first | decide | omega)) pass0 (pa_cons (pv 0) pa_nil)))) pa_nil)))
      (pss_cons (ps_set (i := 3) sc__law_machine.nd rfl (Or.inl rfl) (pe_callTy call_tuple_of rfl B.m_tuple (by decide +kernel) (pa_cons (pe_lc (own := [("turn", 4)]) rfl sc__law_machine.nd (pi_range1 rfl B.m_range (pa_cons (pe_cal c__law_pick (hr.mono (by first | decide | omega)) pass0 (pa_cons (pv 0) (pa_cons (pe_lst (pa_cons (pe_int) (pa_cons (pe_int) (pa_cons (pe_int) (pa_cons (pe_int) (pa_cons (pe_int) (pa_cons (pe_int) pa_nil))))))) pa_nil))) pa_nil)) (blkOk_by (N := N__law_machine) (sc := defScope s__law_machine) (by decide +kernel)) (fun _ _ _ _ _ => (pg_name (i := 4) sc__law_machine.nd rfl (Or.inl rfl))) (fun _ _ _ _ _ => pts_nil) (fun _ _ _ _ _ => (pe_cal c__law_draw (hr.mono (by first | decide | omega)) pass0 (pa_cons (pv 0) (pa_cons (pe_op (op_addUK (K := K) rfl) (pv 1) (pe_int)) pa_nil))))) pa_nil)))
      (pss_one (ps_ret (pe_tup (pa_cons (pe_cal c__law_draw (hr.mono (by first | decide | omega)) pass0 (pa_cons (pv 0) (pa_cons (pe_op op_addU (pv 1) (pe_int)) pa_nil))) (pa_cons (pv 2) (pa_cons (pv 3) (pa_cons (pe_cal c__law_memory (hr.mono (by first | decide | omega)) pass0 (pa_cons (pv 0) pa_nil)) pa_nil))))))))), ?_⟩
    try dsimp only [cxOf, Cx.nox, Cx.wish]
    walk_at "sq"
    walk_at "gs"
    refine S.lcS (S.iRng1 ?_)
    walk_at "gs"
    refine ⟨by decide, by decide, fun D hD => ?_⟩
    refine S.lc_drawn (c := 2) (P := isFig) sm hq hD (by decide) (fun i H1 QE hi g1 hq1 qq => ?_) fun cs H1 g1 hq1 hD1 hcl hcs => ?_
    · have : i < 8 := hi
      walk_at "gs"
      refine ⟨rfl, ?_⟩
      walk_at "gs"
      exact ⟨F, q, _, rfl, g1.sub, fq, hq1, by omega, fun f H2 g2 hq2 hf => qq f H2 g2 (hq2.more (by omega)) hf⟩
    walk_at "gs"
    refine ⟨D, _, rfl, .inl ⟨SqL.of hD1, ?_⟩⟩
    refine made_tupG (K := K) (ds := cs.map PyData.int) g1.sub (dp_ints _) fun t2 F2 g2 ht2 hv2 => ?_
    have hq2 := hq1.gr g2 (by simp)
    have g02 := g1.trans (g2.any (W := [q]))
    have fq2 := g2.own q fq hq1.live
    generalize upd H1 t2 _ = H2 at *
    walk_at "gs"
    walk_at "sq"
    walk_at "gs"
    refine S.lcS (S.iRng1 ?_)
    walk_at "gs"
    refine own_lstG g2.sub (by show 6 ≤ sizeLine; decide) fun D3 g3 hD3 fD3 hDD3 => ?_
    have hq3 := hq2.gr g3 (by simp)
    have n3 : D3 ≠ q := fun z => hq2.live (by rw [← z]; exact hD3)
    have g03 := g02.trans (g3.any (W := [q]))
    generalize upd H2 D3 _ = H3 at *
    walk_at "gs"
    have h8 : ((8 : Int).toNat) = 8 := rfl
    rw [h8] at hq1 hq2 hq3 hcl
    refine ⟨F2, q, D3, ([0, 0, 1, 2, 31, 32] : List Int).map V.int, m + 16, rfl, g3.sub, fq2, hq3, by omega, .inl (SqL.of hDD3), (pick_own (F := F2) n3 (SqL.of hDD3)).2, by simp, by simp, fun j x H4 hj g4 hq4 => ?_⟩
    obtain ⟨cnt, hcnt, rfl⟩ : ∃ t, t ∈ ([0, 0, 1, 2, 31, 32] : List Int) ∧ x = .int t := by
      rw [List.getElem?_map] at hj
      cases q5 : ([0, 0, 1, 2, 31, 32] : List Int)[j]? with
      | none => rw [q5] at hj; cases hj
      | some t => rw [q5] at hj; exact ⟨t, List.mem_of_getElem? q5, (Option.some.inj hj).symm⟩
    have hc1 : 0 ≤ cnt ∧ cnt ≤ 32 := by simp at hcnt; omega
    have g04 := g03.trans g4
    walk_at "gs"
    refine ⟨by omega, by omega, fun D5 hD5 => ?_⟩
    refine S.lc_drawn (c := 1) (P := fun c => 0 ≤ c ∧ c ≤ (n : Int)) g4.sub hq4 hD5 (by omega) (fun i H5 QE hi g5 hq5 qq => ?_) fun cs5 H5 g5 hq5 hD55 hcl5 hcs5 => ?_
    · walk_at "gs"
      refine ⟨rfl, ?_⟩
      walk_at "gs"
      exact ⟨F2, q, _, _, rfl, g5.sub, fq2, hq5, by omega, by omega, by omega, fun f H6 g6 hq6 f0 f1 => qq f H6 g6 (hq6.more (by omega)) ⟨f0, by omega⟩⟩
    walk_at "gs"
    refine ⟨D5, _, rfl, .inl ⟨SqL.of hD55, ?_⟩⟩
    refine made_tupG (K := K) (ds := cs5.map PyData.int) g5.sub (dp_ints _) fun t6 F6 g6 ht6 hv6 => ?_
    have hq6 := hq5.gr g6 (by simp)
    have g06 := (g04.trans g5).trans (g6.any (W := [q]))
    have fq6 := g6.own q fq2 hq5.live
    generalize upd H5 t6 _ = H6 at *
    walk_at "go"
    refine ⟨F6, q, _, _, rfl, g6.sub, fq6, hq6, by omega, by omega, by omega, fun at_ H7 g7 hq7 a0 a1 => ?_⟩
    walk_at "go"
    refine ⟨F6, q, _, rfl, g7.sub, fq6, hq7, by omega, fun mem w8 F8 H8 g8 hq8 hmv hma => ?_⟩
    have g68 := g7.trans g8
    have g28 := ((g3.any (W := [q])).trans g4).trans (g5.trans ((g6.any (W := [q])).trans g68))
    walk_at "go"
    refine ⟨by show 4 ≤ sizeLine; decide, fun t ht => ?_⟩
    have g9 : Gr [] F8 H8 _ _ := Gr.new (o := .tup [.int at_, .ref t2, .ref t6, w8]) g8.sub ht
    refine k ⟨at_, cs, cs5, mem⟩ _ _ _ ((g06.trans g68).trans g9.any) ((hq8.gr g9 (by simp)).more (by omega)) ⟨t, _, _, _, _, rfl, .inl (.inl upd_same), rfl, (hv2.to g28.fs).to g9.fs, (hv6.to g68.fs).to g9.fs, hmv.to g9.fs⟩ ⟨a0, by show at_ ≤ (n : Int); omega, hcl, hcs, by show cs5.length ≤ 32; omega, hcs5, hma⟩

theorem ok__law_followed {P : Program} {w : World} {K : PySem.W.Frag} {mg : Str → Option Value} {base : Heap} {f : Addr} {fd : FuncData} (F : Fun K "_law_followed" "_law_followed" s__law_followed f fd) (B : Blt mg)
    (c__law_next : Cal P w K mg base CX0 2 "_law_next" P__law_next (spLNext K)) (c__law_same : Cal P w K mg base CX0 6 "_law_same" P__law_same (spSame K 6)) (c_turned : Cal P w K mg base CX0 7 "turned" P_turned (spTurn1 K)) (c_run : Cal P w K mg base CX0 7 "run" P_run (spRun K)) (ck_run : KCal P w K mg base CX0 7 "run" P_run ["turns", "machine", "code"] rev3 rev3 (spRun K))
    (c_is_machine : Cal P w K mg base CX0 6 "is_machine" P_is_machine (spIsMach K)) (c_is_memory : Cal P w K mg base CX0 5 "is_memory" P_is_memory (spIsMem K))
    : FnOk P w K mg base CX0 (7 + 1) f fd P__law_followed (spFollow K) := by
  refine F.ok sc__law_followed (fun vs H Q E h => ?_) (fun cdv A outer s H vs Q E hr h => ?_)
  · obtain ⟨F, v, u, code, m, rfl, _⟩ := h; rfl
  · have hu := hu_of hr
    have hu64 := Room.units hr
    obtain ⟨F, v, u, code, m, rfl, sm, hc, ok, hm, mok, k⟩ := h
    refine ⟨_, (pss_cons (ps_set (i := 2) sc__law_followed.nd rfl (Or.inl rfl) (pv 1))
      (pss_cons (ps_for PassesOwn.never rfl (pi_range1 rfl B.m_range (pa_cons (pe_int) pa_nil)) (pg_name (i := 3) sc__law_followed.nd rfl (Or.inl rfl)) (pss_cons (ps_set (i := 4) sc__law_followed.nd rfl (Or.inl rfl) (pe_cal c__law_next (hr.mono (by first | decide | omega)) pass0 (pa_cons (pv 0) (pa_cons (pv 2) pa_nil))))
      (pss_cons (ps_if (pt_not (pt_val (pe_cal c__law_same (hr.mono (by first | decide | omega)) pass0 (pa_cons (pe_cal c_turned (hr.mono (by first | decide | omega)) pass0 (pa_cons (pv 0) (pa_cons (pv 2) pa_nil))) (pa_cons (pv 4) pa_nil))))) (pss_one (ps_ret (pe_bl))) pss_nil)
      (pss_cons (ps_if (pt_cmpR (op_neU hu64) (pe_ix ix_seq (pv 4) (pe_int) (fun _ _ => rfl)) (pe_str) (nomark _)) (pss_cons (ps_set (i := 5) sc__law_followed.nd rfl (Or.inl rfl) (pe_lst (pa_cons (pe_cal c_run (hr.mono (by first | decide | omega)) pass0 (pa_cons (pv 0) (pa_cons (pv 1) (pa_cons (pv 3) pa_nil)))) (pa_cons (pe_cal c_run (hr.mono (by first | decide | omega)) pass0 (pa_cons (pv 0) (pa_cons (pv 1) (pa_cons (pe_op op_addU (pv 3) (pe_int)) pa_nil)))) (pa_cons (pe_kcal0 ck_run (hr.mono (by first | decide | omega)) pass0 (pk_cons (pe_int) (pk_cons (pv 1) (pk_cons (pv 0) pk_nil)))) pa_nil)))))
      (pss_one (ps_ret (pe_cal c__law_same (hr.mono (by first | decide | omega)) pass0 (pa_cons (pv 5) (pa_cons (pe_op op_rep (pe_lst (pa_cons (pe_tup (pa_cons (pv 4) (pa_cons (pv 2) (pa_cons (pv 3) pa_nil)))) pa_nil)) (pe_int)) pa_nil)))))) pss_nil)
      (pss_cons (ps_if (pt_not (pt_val (pe_cal c__law_same (hr.mono (by first | decide | omega)) pass0 (pa_cons (pe_cal c_run (hr.mono (by first | decide | omega)) pass0 (pa_cons (pv 0) (pa_cons (pv 1) (pa_cons (pv 3) pa_nil)))) (pa_cons (pe_tup (pa_cons (pe_tup (pa_cons (pe_str) pa_nil)) (pa_cons (pv 2) (pa_cons (pv 3) pa_nil)))) pa_nil))))) (pss_one (ps_ret (pe_bl))) pss_nil)
      (pss_cons (ps_set (i := 2) sc__law_followed.nd rfl (Or.inl rfl) (pe_ix ix_seq (pv 4) (pe_int) (fun _ _ => rfl)))
      (pss_one (ps_if (PW.pt (pw_or (pt_cmpR op_isNotU (pe_cal c_is_machine (hr.mono (by first | decide | omega)) pass0 (pa_cons (pv 0) (pa_cons (pv 2) pa_nil))) (pe_bl) (nomark _)) (pw_or1 (pt_cmpR op_isNotU (pe_cal c_is_memory (hr.mono (by first | decide | omega)) pass0 (pa_cons (pe_ix ix_seq (pv 2) (pe_int) (fun _ _ => rfl)) pa_nil)) (pe_bl) (nomark _))))) (pss_one (ps_ret (pe_bl))) pss_nil))))))))
      (pss_one (ps_ret (pe_bl))))), ?_⟩
    try dsimp only [cxOf, Cx.nox, Cx.wish]
    walk_at "sq"
    walk_at "gs"
    walk_at "sq"
    refine S.forS (S.iRng1 ?_)
    walk_at "gs"
    refine ⟨by decide, by decide, ?_⟩
    refine for_it (walk_range (lo := 0) (n := ((12 : Int)).toNat)) (fun i σ H' => ∃ F' w1 m1 o3 o4 o5, Gr [] F H F' H' ∧ MachV K F' w1 m1 ∧ Chain code m i m1 ∧ MchOk code.length m1 ∧ σ = [some v, some u, some w1, o3, o4, o5]) ?_ ?_ ?_ ?_
    · exact ⟨F, u, m, _, _, _, Gr.refl sm, hm, .zero, mok, rfl⟩
    · intros; trivial
    · rintro i x σ H' H'' hi ⟨F', w1, m1, o3, o4, o5, g, hm1, hch, mok1, rfl⟩ ⟨rfl, rfl⟩
      have hi12 : i < 12 := hi
      show gName 3 (V.int (0 + (i : Int))) _ _ _
      rw [Int.zero_add]
      walk_at "gs"
      walk_at "sq"
      walk_at "gs"
      refine ⟨F', v, w1, code, m1, rfl, g.sub, hc.to g.fs, ok, hm1, mok1, fun w2 F2 H2 g2 hr => ?_⟩
      have g02 := g.trans g2
      have rw_ok : ∀ m', stepR code m1 = .goes m' → MchOk code.length m' := fun m' e => (step_ok ok mok1 e).1
      obtain ⟨dr, wr⟩ := res_dw rw_ok
      walk_at "gs"
      walk_at "sq"
      walk_at "gs"
      refine ⟨F2, v, w1, code, m1, rfl, g2.sub, hc.to g02.fs, ok, hm1.to g2.fs, mok1, fun w3 F3 H3 g3 hw3 => ?_⟩
      walk_at "gs"
      refine ⟨F3, w3, w2, resD (stepR code m1), rfl, g3.sub, hw3, hr.dp.to g3.fs, by omega, wr, fun F4 H4 g4 => ?_⟩
      walk_at "gs"
      refine S.iteF rfl ?_
      walk_at "gs"
      walk_at "sq"
      walk_at "gs"
      have g24 := g3.trans g4
      have g04 := g02.trans g24
      obtain ⟨dd, ed⟩ := res_word (r := stepR code m1)
      have hr4 := hr.dp.to g24.fs
      rw [ed] at hr4
      refine S.ixT (K := K) hr4 g4.sub (d := .str (resW (stepR code m1))) S.atI_0 fun w5 hw5 => ?_
      obtain rfl := dp_str hw5
      refine S.neS ?_
      walk_at "gs"
      have runs : ∀ (t : Nat) {F5 H5 : Hp} {QE : VK} {EE : XK}, t ≤ 100000 → Gr [] F H F5 H5 → (∀ w6 F6 H6, Gr [] F5 H5 F6 H6 → Dp K F6 w6 (runsD (runR code t m 0)) → QE w6 H6) → spRun K [v, u, .int t] H5 QE EE := fun t {F5 H5 QE EE} ht g5 q => ⟨F5, v, u, code, m, t, rfl, g5.sub, hc.to g5.fs, ok, hm.to g5.fs, mok, ht, q⟩
      cases eh : haltR code m1 with
      | none =>
        obtain ⟨o, eo, eho, er⟩ := step_halt.2 eh
        rw [er] at hr rw_ok ⊢
        generalize nextO o m1 = m2 at *
        have hn := eh
        have mok2 := rw_ok m2 rfl
        walk_at "gd"
        refine runs i (by omega) g04 fun w6 F6 H6 g6 hw6 => ?_
        rw [run_none hch hn] at hw6
        walk_at "gs"
        refine new_tupG (K := K) (ds := [.str "goes on"]) g6.sub (.cons (.str _) .nil) (by show 1 ≤ sizeLine; decide) fun t7 F7 g7 ht7 hv7 => ?_
        generalize upd H6 t7 _ = H7 at *
        have g27 := (g24.trans g6).trans g7
        walk_at "gs"
        refine new_tupG (K := K) (ds := [.tuple [.str "goes on"], machD m1, .int i]) g7.sub (.cons hv7 (.cons (hm1.dp.to (g2.trans g27).fs) (.cons (.int _) .nil))) (by show 3 ≤ sizeLine; decide) fun t8 F8 g8 ht8 hv8 => ?_
        generalize upd H7 t8 _ = H8 at *
        obtain ⟨d9, w9⟩ := told_dw mok1 (t := .on) (fun r z => nomatch z) i
        walk_at "gs"
        refine ⟨F8, w6, .ref t8, runD .on m1 i, rfl, g8.sub, (hw6.to g7.fs).to g8.fs, hv8, by omega, w9, fun F9 H9 g9 => ?_⟩
        walk_at "gd"
        have g29 := (g27.trans g8).trans g9
        obtain ⟨ra, y, rfl, hra, hy⟩ := hr
        refine S.ixST (same_tup (g29.fs.trans g9.sub) hra) (w := y) S.atI_1 ?_
        walk_at "gd"
        have g09 := g02.trans g29
        refine ⟨F9, v, y, code, m2, rfl, g9.sub, hc.to g09.fs, ok, hy.dp.to g29.fs, mok2, fun F10 H10 g10 => ?_⟩
        walk_at "gd"
        have hy10 := (hy.to g29.fs).to g10.fs
        obtain ⟨a, x1, x2, x3, x4, rfl, ha, rfl, h2, h3, h4⟩ := id hy10
        refine S.ixST (same_tup g10.sub ha) (w := x4) S.atI_3 ?_
        walk_at "gd"
        refine ⟨F10, x4, m2.mem, rfl, g10.sub, h4.dp, mok2.me, fun F11 H11 g11 => ?_⟩
        walk_at "gs"
        refine S.iteF rfl ?_
        exact S.next ⟨F11, _, m2, _, _, _, (g09.trans g10).trans g11, hy10.to g11.fs, .succ hch er, mok2, rfl⟩
      | some r =>
        have er := step_halt.1 r eh
        rw [er] at hr dr wr ⊢
        have nw : decide (resW r = "goes") = false := by
          cases r with
          | goes m2 => exact absurd eh haltR_no
          | _ => rfl
        rw [nw]
        walk_at "gd"
        refine runs i (by omega) g04 fun w6 F6 H6 g6 hw6 => ?_
        rw [run_some hch (Nat.le_refl _) eh] at hw6
        walk_at "gs"
        refine runs (i + 1) (by omega) (g04.trans g6) fun w7 F7 H7 g7 hw7 => ?_
        rw [run_some hch (by omega) eh] at hw7
        refine S.callK ?_
        walk_at "gs"
        refine runs 100000 (by omega) ((g04.trans g6).trans g7) fun w8 F8 H8 g8 hw8 => ?_
        rw [run_some hch (by omega) eh] at hw8
        have ng : ∀ r', Told.ends r = .ends r' → ∀ m, r' ≠ .goes m := fun r' e m' z => by
          cases e
          rw [z] at eh
          exact absurd eh haltR_no
        obtain ⟨d9, w9⟩ := told_dw mok1 (t := .ends r) ng i
        obtain ⟨dt, wt⟩ := three_dw (x := runD (.ends r) m1 i) ⟨d9, w9⟩
        walk_at "gs"
        refine new_lstG (K := K) (ds := [runD (.ends r) m1 i, runD (.ends r) m1 i, runD (.ends r) m1 i]) g8.sub (.cons ((hw6.to g7.fs).to g8.fs) (.cons (hw7.to g8.fs) (.cons hw8 .nil))) (by show 3 ≤ sizeLine; decide) fun t9 F9 g9 ht9 hv9 => ?_
        generalize upd H8 t9 _ = H9 at *
        have g49 := ((g6.trans g7).trans g8).trans g9
        walk_at "gs"
        refine new_tupG (K := K) (ds := [resD r, machD m1, .int i]) g9.sub (.cons ((hr.dp.to g24.fs).to g49.fs) (.cons (hm1.dp.to ((g2.trans g24).trans g49).fs) (.cons (.int _) .nil))) (by show 3 ≤ sizeLine; decide) fun t10 F10 g10 ht10 hv10 => ?_
        have hv10' : Dp K F10 (.ref t10) (runD (.ends r) m1 i) := hv10
        generalize upd H9 t10 _ = H10 at *
        walk_at "gs"
        refine own_lstG g10.sub (by show 1 ≤ sizeLine; decide) fun t11 g11 ht11 ft11 e11 => ?_
        generalize upd H10 t11 _ = H11 at *
        walk_at "gs"
        refine ⟨t11, 3, [.ref t10], rfl, rfl, e11, by decide, by decide, by show 3 ≤ sizeLine; decide, ?_⟩
        rw [show (List.replicate (3 : Int).toNat [V.ref t10]).flatten = [.ref t10, .ref t10, .ref t10] from rfl]
        refine made_lstG (K := K) (ds := [runD (.ends r) m1 i, runD (.ends r) m1 i, runD (.ends r) m1 i]) g11.sub (.cons hv10' (.cons hv10' (.cons hv10' .nil))) fun t12 F12 g12 ht12 hv12 => ?_
        generalize upd H11 t12 _ = H12 at *
        walk_at "gs"
        refine ⟨F12, .ref t9, .ref t12, _, rfl, g12.sub, (hv9.to g10.fs).to g12.fs, hv12, dt, wt, fun F13 H13 g13 => ?_⟩
        exact k F13 H13 ((((((g04.trans g49).trans g10).trans g11)).trans g12).trans g13)
    · rintro σ H' ⟨F', w1, m1, o3, o4, o5, g, _, _, _, rfl⟩
      walk_at "gs"
      exact k F' H' g

theorem ok_law {P : Program} {w : World} {K : PySem.W.Frag} {mg : Str → Option Value} {base : Heap} {f : Addr} {fd : FuncData} (F : Fun K "law" "law" s_law f fd) (B : Blt mg)
    (c__law_deck : Cal P w K mg base CX0 1 "_law_deck" P__law_deck (spDeck K)) (c__law_draw : Cal P w K mg base CX0 1 "_law_draw" P__law_draw spDraw) (c__law_pick : Cal P w K mg base CX0 2 "_law_pick" P__law_pick (spPick K)) (c__law_words : Cal P w K mg base CX0 1 "_law_words" P__law_words (spWords K drawnL)) (c__law_order : Cal P w K mg base CX0 3 "_law_order" P__law_order (spLOrd K)) (c__law_machine : Cal P w K mg base CX0 4 "_law_machine" P__law_machine (spLMach K))
    (c_first_machine : Cal P w K mg base CX0 6 "first_machine" P_first_machine (spFirst K)) (c_is_code : Cal P w K mg base CX0 6 "is_code" P_is_code (spIsCode K)) (c__law_same : Cal P w K mg base CX0 6 "_law_same" P__law_same (spSame K 6)) (c__law_followed : Cal P w K mg base CX0 8 "_law_followed" P__law_followed (spFollow K))
    : FnOk P w K mg base CX0 (8 + 1) f fd P_law (spLawK00 K) := by
  refine F.ok sc_law (fun vs H Q E h => ?_) (fun cdv A outer s H vs Q E hr h => ?_)
  · obtain ⟨a, ns, rfl, _⟩ := h; rfl
  · have hu := hu_of hr
    have hu64 := Room.units hr
    obtain ⟨sa, ns, rfl, hsq, hnl, k⟩ := h
    refine ⟨_, (pss_cons (ps_for PassesOwn.never rfl (pi_range1 rfl B.m_range (pa_cons (pe_callB (call_max2 rfl) rfl B.m_max (by first | exact PySem.boot_max | decide +kernel) (pa_cons (pe_int) (pa_cons (pe_callB (call_min2 rfl) rfl B.m_min (by first | exact PySem.boot_min | decide +kernel) (pa_cons (pe_int) (pa_cons (pe_callB call_lenU rfl B.m_len (by first | exact PySem.boot_len | decide +kernel) (pa_cons (pv 0) pa_nil)) pa_nil))) pa_nil))) pa_nil)) (pg_name (i := 1) sc_law.nd rfl (Or.inl rfl)) (pss_cons (ps_set (i := 2) sc_law.nd rfl (Or.inr rfl) (pe_cal c__law_deck (hr.mono (by first | decide | omega)) pass0 (pa_cons (pv 0) (pa_cons (pv 1) pa_nil))))
      (pss_one (ps_for PassesOwn.never rfl (pi_range1 rfl B.m_range (pa_cons (pe_int) pa_nil)) (pg_name (i := 3) sc_law.nd rfl (Or.inl rfl)) (pss_cons (ps_asg (pe_tup (pa_cons (pe_op op_addU (pe_int) (pe_cal c__law_draw (hr.mono (by first | decide | omega)) pass0 (pa_cons (pv 2) (pa_cons (pe_int) pa_nil)))) (pa_cons (pe_ix ix_seq (pe_lst (pa_cons (pe_int) (pa_cons (pe_int) pa_nil))) (pe_cal c__law_draw (hr.mono (by first | decide | omega)) pass0 (pa_cons (pv 2) (pa_cons (pe_int) pa_nil))) (fun _ _ => rfl)) pa_nil))) (pg_tup rfl (pgs_cons (pg_name (i := 4) sc_law.nd rfl (Or.inl rfl) (by first | exact Or.inl rfl | exact Or.inr rfl)) (pgs_cons (pg_name (i := 5) sc_law.nd rfl (Or.inr rfl) (by first | exact Or.inl rfl | exact Or.inr rfl)) pgs_nil))))
      (pss_cons (ps_set (i := 6) sc_law.nd rfl (Or.inr rfl) (pe_listRg rfl rfl B.m_list (prg_1 rfl B.m_range (pv 4))))
      (pss_cons (ps_set (i := 7) sc_law.nd rfl (Or.inl rfl) (pe_callTy call_tuple_of rfl B.m_tuple (by decide +kernel) (pa_cons (pe_lc (own := [("at", 10)]) rfl sc_law.nd (pi_range1 rfl B.m_range (pa_cons (pv 4) pa_nil)) (blkOk_by (N := N_law) (sc := defScope s_law) (by decide +kernel)) (fun _ _ _ _ _ => (pg_name (i := 10) sc_law.nd rfl (Or.inl rfl))) (fun _ _ _ _ _ => pts_nil) (fun _ _ _ _ _ => (pe_cal c__law_order (hr.mono (by first | decide | omega)) pass0 (pa_cons (pv 2) (pa_cons (pe_cal c__law_pick (hr.mono (by first | decide | omega)) pass0 (pa_cons (pv 2) (pa_cons (pe_cal0 c__law_words (hr.mono (by first | decide | omega)) pass0) pa_nil))) (pa_cons (pv 6) (pa_cons (pv 5) pa_nil))))))) pa_nil)))
      (pss_cons (ps_set (i := 8) sc_law.nd rfl (Or.inl rfl) (pe_cal c__law_machine (hr.mono (by first | decide | omega)) pass0 (pa_cons (pv 2) (pa_cons (pv 4) pa_nil))))
      (pss_cons (ps_set (i := 9) sc_law.nd rfl (Or.inl rfl) (pe_cal c_first_machine (hr.mono (by first | decide | omega)) pass0 (pa_cons (pe_ix ix_seq (pv 8) (pe_int) (fun _ _ => rfl)) pa_nil)))
      (pss_cons (ps_if (PW.pt (pw_or (pt_cmpR op_isNotU (pe_cal c_is_code (hr.mono (by first | decide | omega)) pass0 (pa_cons (pv 7) pa_nil)) (pe_bl) (nomark _)) (pw_or1 (pt_not (pt_val (pe_cal c__law_same (hr.mono (by first | decide | omega)) pass0 (pa_cons (pv 9) (pa_cons (pe_tup (pa_cons (pe_int) (pa_cons (pe_op op_repT (pe_tup (pa_cons (pe_int) pa_nil)) (pe_int)) (pa_cons (pe_tup pa_nil) (pa_cons (pe_ix ix_seq (pv 8) (pe_int) (fun _ _ => rfl)) pa_nil))))) pa_nil)))))))) (pss_one (ps_ret (pe_bl))) pss_nil)
      (pss_one (ps_if (PW.pt (pw_or (pt_not (pt_val (pe_cal c__law_followed (hr.mono (by first | decide | omega)) pass0 (pa_cons (pv 7) (pa_cons (pv 8) pa_nil))))) (pw_or1 (pt_not (pt_val (pe_cal c__law_followed (hr.mono (by first | decide | omega)) pass0 (pa_cons (pv 7) (pa_cons (pv 9) pa_nil)))))))) (pss_one (ps_ret (pe_bl))) pss_nil))))))))))))
      (pss_one (ps_ret (pe_bl)))), ?_⟩
    try dsimp only [cxOf, Cx.nox, Cx.wish]
    walk_at "sq"
    refine S.forS (S.iRng1 ?_)
    walk_at "gs"
    refine S.lenSL hsq ?_
    walk_at "gs"
    have hb := lim3 ((ns.map V.int).length : Int)
    generalize (if (if ((ns.map V.int).length : Int) < 3 then ((ns.map V.int).length : Int) else 3) > 1 then (if ((ns.map V.int).length : Int) < 3 then ((ns.map V.int).length : Int) else 3) else (1 : Int)) = M at hb ⊢
    refine ⟨by omega, by omega, ?_⟩
    refine for_it (walk_range (lo := 0) (n := M.toNat)) (fun i σ H' => ∃ F' o1 o2 o3 o4 o5 o6 o7 o8 o9 o10, Gr [] (fun _ => none) H F' H' ∧ σ = [some (V.ref sa), o1, o2, o3, o4, o5, o6, o7, o8, o9, o10]) ?_ ?_ ?_ ?_
    · exact ⟨fun _ => none, none, none, none, none, none, none, none, none, none, none, Gr.refl (fun _ _ z => by cases z), rfl⟩
    · intros; trivial
    · rintro i x σ H' H'' hi ⟨F', o1, o2, o3, o4, o5, o6, o7, o8, o9, o10, g, rfl⟩ ⟨rfl, rfl⟩
      have hi3 : i < 3 := by omega
      walk_at "gs"
      walk_at "sq"
      walk_at "gs"
      refine ⟨F', sa, ns, 0 + (i : Int), rfl, g.sub, sql_same g hsq, hnl, by omega, by omega, fun q H1 g1 hq fq hdk => ?_⟩
      walk_at "gs"
      with_reducible refine S.forS ?_
      refine S.iRng1 ?_
      walk_at "gs"
      refine ⟨by decide, by decide, ?_⟩
      have hqn : ∀ x ∈ [q], H'' x = none := fun x hx => by rw [List.mem_singleton.mp hx]; exact hq
      refine for_it (walk_range (lo := 0) (n := ((4 : Int)).toNat)) (fun j σ H2 => ∃ F2 p3 p4 p5 p6 p7 p8 p9 p10, Gr [] F' H'' F2 H2 ∧ F2 q = none ∧ DkAt H2 q (400 * j) ∧ σ = [some (V.ref sa), some (V.int (0 + (i : Int))), some (V.ref q), p3, p4, p5, p6, p7, p8, p9, p10]) ?_ ?_ ?_ ?_
      · exact ⟨F', _, _, _, _, _, _, _, _, g1, fq, hdk, rfl⟩
      · intros; trivial
      · rintro j x σ H2 H3 hj ⟨F2, p3, p4, p5, p6, p7, p8, p9, p10, g2, fq2, hdk2, rfl⟩ ⟨rfl, rfl⟩
        have hj4 : j < 4 := hj
        have g2s := g2.sub
        walk_at "gs"
        walk_at "sq"
        walk_at "gs"
        refine ⟨F2, q, 12, _, rfl, g2s, fq2, hdk2, by omega, by decide, by decide, fun mm H4 g4 hdk4 m0 m1 => ?_⟩
        walk_at "gs"
        refine own_lstG g4.sub (by show 2 ≤ sizeLine; decide) fun D1 g5 hD1 fD1 hDD1 => ?_
        have hdk5 := hdk4.gr g5 (by simp)
        have nD : D1 ≠ q := fun z => hdk4.live (by rw [← z]; exact hD1)
        generalize upd H4 D1 _ = H5 at *
        walk_at "gs"
        refine ⟨F2, q, 2, _, rfl, g5.sub, fq2, hdk5, by omega, by decide, by decide, fun fw H6 g6 hdk6 f0 f1 => ?_⟩
        have hD6 := g6.at (by simp [nD]) hDD1
        refine S.ixI (l := [3, 8]) hD6 f0 (by show fw < 2; omega) fun few hfew => ?_
        have hf2 : 1 ≤ few ∧ few ≤ 8 := by simp at hfew; omega
        have g46 := (g4.trans (g5.any (W := [q]))).trans g6
        walk_at "gs"
        obtain ⟨n, hn⟩ := Int.eq_ofNat_of_zero_le (show 0 ≤ 1 + mm by omega)
        have hn1 : 1 ≤ n ∧ n ≤ 12 := by omega
        rw [hn]
        refine new_tupS g6.sub (fun t7 g7 ht7 => ?_) (by show 2 ≤ sizeLine; decide)
        have hdk7 := hdk6.gr g7 (by simp)
        generalize upd H6 t7 _ = H7 at *
        refine S.gTupO ht7 rfl ?_
        walk_at "gs"
        walk_at "sq"
        with_reducible refine S.asg ?_
        refine S.listRg (S.rg1 ?_)
        walk_at "gs"
        refine ⟨RgOk.of_le (by decide) (by omega) (by decide) (by omega), fun pl hpl => ?_⟩
        have erg : rgV 0 (n : Int) = (List.range n).map fun i : Nat => V.int (i : Int) := by
          unfold rgV
          rw [show ((n : Int) - 0).toNat = n by omega]
          exact List.map_congr_left fun i _ => by rw [Int.zero_add]
        rw [erg]
        have g8 : Gr [] F2 H7 _ _ := Gr.new (o := .lst ((List.range n).map fun i : Nat => V.int (i : Int))) g7.sub hpl
        have hpl8 : SqL K (upd F2 pl (.lst ((List.range n).map fun i : Nat => V.int (i : Int)))) pl ((List.range n).map fun i : Nat => V.int (i : Int)) := SqL.of upd_same
        have hdk8 := hdk7.gr g8 (by simp)
        have fq8 := g8.own q fq2 hdk7.live
        generalize upd F2 pl _ = F8 at *
        generalize upd H7 pl _ = H8 at *
        have g48 := (g46.trans (g7.any (W := [q]))).trans (g8.any (W := [q]))
        walk_at "gs"
        walk_at "sq"
        walk_at "gs"
        refine S.lcS (S.iRng1 ?_)
        walk_at "gs"
        refine ⟨by omega, by omega, fun D hD => ?_⟩
        have nqD : D ≠ q := fun z => hdk8.live (by rw [← z]; exact hD)
        have fD8 := sub_free g8.sub hD
        refine lc_it (walk_range (lo := 0) (n := ((n : Int)).toNat)) (fun i H9 => ∃ F9 xs, ∃ os : List Ord, Gr [q] F8 H8 F9 H9 ∧ F9 D = none ∧ F9 q = none ∧ H9 D = some (.lst xs) ∧ DpAll K F9 xs (os.map ordD) ∧ os.length = i ∧ (∀ o ∈ os, OrdOk n o) ∧ DkAt H9 q (400 * j + 2 + 8 * i)) ?_ ?_ ?_ ?_
        · exact ⟨F8, [], [], Gr.newOwn g8.sub hD, fD8, fq8, upd_same, .nil, rfl, (fun o h => by cases h), (hdk8.poke nqD.symm).more (by omega)⟩
        · intros; trivial
        · rintro i2 x H9 H10 hi2 ⟨F9, xs, os, g9, fD9, fq9, hD9, hxs, hol, hos, hdk9⟩ ⟨rfl, rfl⟩
          have hi12 : i2 < 12 := by omega
          walk_at "gs"
          refine ⟨rfl, ?_⟩
          refine S.yes (S.iteT rfl ?_)
          walk_at "gs"
          refine ⟨rfl, F9, g9.sub, fun a2 F11 H11 g11 ha2 => ?_⟩
          have hdk11 := hdk9.gr g11 (by simp)
          have fq11 := g11.own q fq9 hdk9.live
          obtain ⟨p1, p2⟩ := pick_dat (q := q) g11.sub ha2
          walk_at "gs"
          refine ⟨F11, q, a2, _, _, rfl, g11.sub, fq11, hdk11, by omega, p1, p2, by decide, by simp [drawnL], fun i3 x H12 hi3 g12 hdk12 => ?_⟩
          rw [List.getElem?_map] at hi3
          obtain ⟨s, hs, rfl⟩ : ∃ s, s ∈ drawnL ∧ x = .str s := by
            cases q5 : drawnL[i3]? with
            | none => rw [q5] at hi3; cases hi3
            | some t => rw [q5] at hi3; exact ⟨t, List.mem_of_getElem? q5, (Option.some.inj hi3).symm⟩
          walk_at "gs"
          have g812 := (g9.trans (g11.any (W := [q]))).trans g12
          refine ⟨F11, q, pl, s, n, few, _, rfl, g12.sub, fq11, hdk12, by omega, drawn_ok hs, same_lst g812.fs hpl8, by omega, by omega, hf2.1, hf2.2, fun o w13 F13 H13 g13 hdk13 ook hw13 => ?_⟩
          have g913 := ((g11.any (W := [q])).trans g12).trans g13
          have hD13 := g913.at (by simp [nqD]) hD9
          have fD13 : F13 D = none := g913.own D fD9 (by rw [hD9]; exact fun z => nomatch z)
          refine ⟨xs, hD13, size1000000 ?_, F13, xs ++ [w13], os ++ [o], (g812.trans g13).poke hD fD13, fD13, g913.own q fq9 hdk9.live, upd_same, ?_, by simp [hol], fun o2 ho2 => ?_, (hdk13.poke nqD.symm).more (by omega)⟩
          · rw [dp_len hxs, List.length_map]; omega
          · rw [List.map_append]
            exact dp_app (hxs.to g913.fs) (.cons hw13 .nil)
          · rcases List.mem_append.mp ho2 with h | h
            · exact hos o2 h
            · rw [List.mem_singleton.mp h]; exact ook
        · rintro H9 ⟨F9, xs, os, g9, fD9, fq9, hD9, hxs, hol, hos, hdk9⟩
          have hol2 : os.length = n := by rw [hol]; exact Int.toNat_natCast n
          have hdk9' : DkAt H9 q (400 * j + 2 + 8 * 12) := hdk9.more (by rw [Int.toNat_natCast]; omega)
          walk_at "gs"
          refine ⟨D, _, rfl, .inl ⟨SqL.of hD9, ?_⟩⟩
          refine made_tupG (K := K) (ds := os.map ordD) g9.sub hxs fun cd F10 g10 hcd hvc => ?_
          have hdk10 := hdk9'.gr g10 (by simp)
          have fq10 := g10.own q fq9 hdk9.live
          generalize upd H9 cd _ = H10 at *
          have cok : CodeOk os := ⟨by omega, by omega, fun o ho => by rw [hol2]; exact hos o ho⟩
          have g210 := (g48.trans g9).trans (g10.any (W := [q]))
          walk_at "gs"
          walk_at "sq"
          walk_at "gs"
          refine ⟨F10, q, _, n, rfl, g10.sub, fq10, hdk10, by omega, by omega, fun mc w11 F11 H11 g11 hdk11 hmc mcok => ?_⟩
          have g211 := g210.trans g11
          rw [← hol2] at mcok
          walk_at "gs"
          walk_at "sq"
          walk_at "gs"
          obtain ⟨ma, x1, x2, x3, x4, rfl, hma, rfl, h2, h3, h4⟩ := id hmc
          refine S.ixST (same_tup g11.sub hma) (w := x4) S.atI_3 ?_
          walk_at "gs"
          refine ⟨F11, x4, mc.mem, rfl, g11.sub, h4, mcok.me, fun w12 F12 H12 g12 hbg => ?_⟩
          walk_at "gs"
          walk_at "sq"
          walk_at "gs"
          refine ⟨F12, .ref cd, os, rfl, g12.sub, (hvc.to g11.fs).to g12.fs, cok, fun F13 H13 g13 => ?_⟩
          walk_at "gd"
          refine new_tupS g13.sub (fun z g14 hz => ?_) (by show 1 ≤ sizeLine; decide)
          generalize upd H13 z _ = H14 at *
          walk_at "go"
          refine ⟨z, 8, [.int 0], rfl, rfl, .inl (.inl hz), by simp, by decide, by decide, by simp, ?_⟩
          rw [show (List.replicate (8 : Int).toNat [V.int 0]).flatten = [0, 0, 0, 0, 0, 0, 0, 0].map V.int from rfl]
          refine made_tupG (K := K) (ds := [0, 0, 0, 0, 0, 0, 0, 0].map .int) g14.sub (dp_ints [0, 0, 0, 0, 0, 0, 0, 0]) fun l15 F15 g15 hl15 hv15 => ?_
          generalize upd H14 l15 _ = H15 at *
          walk_at "go"
          refine new_tupG (K := K) (ds := []) g15.sub .nil (by show 0 ≤ sizeLine; decide) fun l16 F16 g16 hl16 hv16 => ?_
          generalize upd H15 l16 _ = H16 at *
          have g1216 := ((g13.trans g14).trans g15).trans g16
          have g1116 := g12.trans g1216
          walk_at "go"
          refine S.ixST (same_tup (g1116.fs.trans g16.sub) hma) (w := x4) S.atI_3 ?_
          walk_at "go"
          refine new_tupG (K := K) (ds := [.int 0, .tuple ([0, 0, 0, 0, 0, 0, 0, 0].map .int), .tuple [], .tuple (mc.mem.map prZ)]) g16.sub (.cons (.int _) (.cons (hv15.to g16.fs) (.cons hv16 (.cons (h4.dp.to g1116.fs) .nil)))) (by show 4 ≤ sizeLine; decide) fun t17 F17 g17 ht17 hv17 => ?_
          generalize upd H16 t17 _ = H17 at *
          have mf : MchOk os.length (firstM mc.mem) := ⟨Int.le_refl _, (by show (0 : Int) ≤ _; omega), rfl, (fun f hf => by simp [firstM] at hf; rw [hf]; exact ⟨by decide, by decide⟩), (by show 0 ≤ 32; decide), (fun c hc => by cases hc), mcok.me⟩
          obtain ⟨df, wf⟩ := mach_ok mf
          have g1217 := g1216.trans g17
          walk_at "go"
          refine ⟨F17, w12, .ref t17, machD (firstM mc.mem), rfl, g17.sub, hbg.dp.to g1217.fs, hv17, by omega, wf, fun F18 H18 g18 => ?_⟩
          have g1118 := g1116.trans (g17.trans g18)
          walk_at "gd"
          refine ⟨F18, .ref cd, _, os, mc, rfl, g18.sub, (hvc.to g11.fs).to g1118.fs, cok, hmc.to g1118.fs, mcok, fun F19 H19 g19 => ?_⟩
          walk_at "gd"
          refine ⟨F19, .ref cd, w12, os, firstM mc.mem, rfl, g19.sub, ((hvc.to g11.fs).to g1118.fs).to g19.fs, cok, (hbg.to (g1217.trans g18).fs).to g19.fs, mf, fun F20 H20 g20 => ?_⟩
          walk_at "gs"
          refine S.iteF rfl ?_
          have gA := g211.trans (((g1118.trans g19).trans g20).any (W := [q]))
          have gAll := g2.fresh gA hqn
          have hdkA := hdk11.gr ((g1118.trans g19).trans g20) (by simp)
          exact S.next ⟨F20, _, _, _, _, _, _, _, _, gAll, gA.own q fq2 hdk2.live, hdkA.more (by omega), rfl⟩
      · rintro σ H2 ⟨F2, p3, p4, p5, p6, p7, p8, p9, p10, g2, fq2, hdk2, rfl⟩
        exact S.next ⟨F2, _, _, _, _, _, _, _, _, _, _, g.trans g2, rfl⟩
    · rintro σ H' ⟨F', o1, o2, o3, o4, o5, o6, o7, o8, o9, o10, g, rfl⟩
      walk_at "gs"
      exact k H'

structure DefAt (K : PySem.W.Frag) (mg : Str → Option Value) (x q : Str) (s : Stmt) (ps : List Str) : Prop where
  ex : ∃ (f : Addr) (fd : FuncData), Fun K x q s f fd ∧ mg x = some (.ref f) ∧ PySem.W.keepIn K (.ref f) = true ∧ Binds K fd ps []
structure KDefAt (K : PySem.W.Frag) (mg : Str → Option Value) (x q : Str) (s : Stmt) (ps ks : List Str) (gg : List Value → List Value → List Value) (gV : List V → List V → List V) : Prop where
  ex : ∃ (f : Addr) (fd : FuncData), Fun K x q s f fd ∧ mg x = some (.ref f) ∧ PySem.W.keepIn K (.ref f) = true ∧ KBinds K fd ps ks gg gV
structure MethAt (K : PySem.W.Frag) (C : Addr) (x q : Str) (s : Stmt) (ps : List Str) : Prop where
  ex : ∃ (f : Addr) (fd : FuncData), Fun K x q s f fd ∧ Meth K C x f ∧ Binds K fd ps []
structure InitAt (K : PySem.W.Frag) (mg : Str → Option Value) (C : Addr) (x q : Str) (s : Stmt) (ps : List Str) : Prop where
  ex : ∃ (f : Addr) (fd : FuncData), Fun K "__init__" q s f fd ∧ Mk K C f ∧ mg x = some (.ref C) ∧ Binds K fd ps []
theorem at_is_from {K : PySem.W.Frag} {h : Heap} {mg : Str → Option Value} {f : Addr} {od an : Option Addr} {sl : Array (Option Value)} {oc kV dc pm cd ct : Value} (X : K.In h) (G : h.Ns mainGlobals mg) (a : PySem.W.nsIn K mainGlobals "is_from" = some (some (.ref f))) (l : K.lookup f = some ⟨oc, od, .func (PySem.W.fnOf "is_from" "is_from" (defArgs s_is_from) (defBody s_is_from) (defScope s_is_from) .none kV dc pm an cd ct), sl⟩) (c : PySem.W.codeIn K cd "is_from" = true) (k : PySem.W.keepIn K (.ref f) = true) : DefAt K mg "is_from" "is_from" s_is_from P_is_from :=
  ⟨f, _, fun_mk l c k, PySem.W.mg_of X G a, k, (fun_mk (st := s_is_from) l c k).binds (ps := P_is_from) fun _ _ _ _ _ _ us hl => match us, hl with | [_, _, _], _ => rfl⟩
theorem at_is_tuple {K : PySem.W.Frag} {h : Heap} {mg : Str → Option Value} {f : Addr} {od an : Option Addr} {sl : Array (Option Value)} {oc kV dc pm cd ct : Value} (X : K.In h) (G : h.Ns mainGlobals mg) (a : PySem.W.nsIn K mainGlobals "is_tuple" = some (some (.ref f))) (l : K.lookup f = some ⟨oc, od, .func (PySem.W.fnOf "is_tuple" "is_tuple" (defArgs s_is_tuple) (defBody s_is_tuple) (defScope s_is_tuple) .none kV dc pm an cd ct), sl⟩) (c : PySem.W.codeIn K cd "is_tuple" = true) (k : PySem.W.keepIn K (.ref f) = true) : DefAt K mg "is_tuple" "is_tuple" s_is_tuple P_is_tuple :=
  ⟨f, _, fun_mk l c k, PySem.W.mg_of X G a, k, (fun_mk (st := s_is_tuple) l c k).binds (ps := P_is_tuple) fun _ _ _ _ _ _ us hl => match us, hl with | [_, _, _], _ => rfl⟩
theorem at_is_figure {K : PySem.W.Frag} {h : Heap} {mg : Str → Option Value} {f : Addr} {od an : Option Addr} {sl : Array (Option Value)} {oc kV dc pm cd ct : Value} (X : K.In h) (G : h.Ns mainGlobals mg) (a : PySem.W.nsIn K mainGlobals "is_figure" = some (some (.ref f))) (l : K.lookup f = some ⟨oc, od, .func (PySem.W.fnOf "is_figure" "is_figure" (defArgs s_is_figure) (defBody s_is_figure) (defScope s_is_figure) .none kV dc pm an cd ct), sl⟩) (c : PySem.W.codeIn K cd "is_figure" = true) (k : PySem.W.keepIn K (.ref f) = true) : DefAt K mg "is_figure" "is_figure" s_is_figure P_is_figure :=
  ⟨f, _, fun_mk l c k, PySem.W.mg_of X G a, k, (fun_mk (st := s_is_figure) l c k).binds (ps := P_is_figure) fun _ _ _ _ _ _ us hl => match us, hl with | [_], _ => rfl⟩
theorem at_is_address {K : PySem.W.Frag} {h : Heap} {mg : Str → Option Value} {f : Addr} {od an : Option Addr} {sl : Array (Option Value)} {oc kV dc pm cd ct : Value} (X : K.In h) (G : h.Ns mainGlobals mg) (a : PySem.W.nsIn K mainGlobals "is_address" = some (some (.ref f))) (l : K.lookup f = some ⟨oc, od, .func (PySem.W.fnOf "is_address" "is_address" (defArgs s_is_address) (defBody s_is_address) (defScope s_is_address) .none kV dc pm an cd ct), sl⟩) (c : PySem.W.codeIn K cd "is_address" = true) (k : PySem.W.keepIn K (.ref f) = true) : DefAt K mg "is_address" "is_address" s_is_address P_is_address :=
  ⟨f, _, fun_mk l c k, PySem.W.mg_of X G a, k, (fun_mk (st := s_is_address) l c k).binds (ps := P_is_address) fun _ _ _ _ _ _ us hl => match us, hl with | [_], _ => rfl⟩
theorem at_is_register {K : PySem.W.Frag} {h : Heap} {mg : Str → Option Value} {f : Addr} {od an : Option Addr} {sl : Array (Option Value)} {oc kV dc pm cd ct : Value} (X : K.In h) (G : h.Ns mainGlobals mg) (a : PySem.W.nsIn K mainGlobals "is_register" = some (some (.ref f))) (l : K.lookup f = some ⟨oc, od, .func (PySem.W.fnOf "is_register" "is_register" (defArgs s_is_register) (defBody s_is_register) (defScope s_is_register) .none kV dc pm an cd ct), sl⟩) (c : PySem.W.codeIn K cd "is_register" = true) (k : PySem.W.keepIn K (.ref f) = true) : DefAt K mg "is_register" "is_register" s_is_register P_is_register :=
  ⟨f, _, fun_mk l c k, PySem.W.mg_of X G a, k, (fun_mk (st := s_is_register) l c k).binds (ps := P_is_register) fun _ _ _ _ _ _ us hl => match us, hl with | [_], _ => rfl⟩
theorem at_memory_dict {K : PySem.W.Frag} {h : Heap} {mg : Str → Option Value} {f : Addr} {od an : Option Addr} {sl : Array (Option Value)} {oc kV dc pm cd ct : Value} (X : K.In h) (G : h.Ns mainGlobals mg) (a : PySem.W.nsIn K mainGlobals "memory_dict" = some (some (.ref f))) (l : K.lookup f = some ⟨oc, od, .func (PySem.W.fnOf "memory_dict" "memory_dict" (defArgs s_memory_dict) (defBody s_memory_dict) (defScope s_memory_dict) .none kV dc pm an cd ct), sl⟩) (c : PySem.W.codeIn K cd "memory_dict" = true) (k : PySem.W.keepIn K (.ref f) = true) : DefAt K mg "memory_dict" "memory_dict" s_memory_dict P_memory_dict :=
  ⟨f, _, fun_mk l c k, PySem.W.mg_of X G a, k, (fun_mk (st := s_memory_dict) l c k).binds (ps := P_memory_dict) fun _ _ _ _ _ _ us hl => match us, hl with | [_], _ => rfl⟩
theorem at_memory_tuple {K : PySem.W.Frag} {h : Heap} {mg : Str → Option Value} {f : Addr} {od an : Option Addr} {sl : Array (Option Value)} {oc kV dc pm cd ct : Value} (X : K.In h) (G : h.Ns mainGlobals mg) (a : PySem.W.nsIn K mainGlobals "memory_tuple" = some (some (.ref f))) (l : K.lookup f = some ⟨oc, od, .func (PySem.W.fnOf "memory_tuple" "memory_tuple" (defArgs s_memory_tuple) (defBody s_memory_tuple) (defScope s_memory_tuple) .none kV dc pm an cd ct), sl⟩) (c : PySem.W.codeIn K cd "memory_tuple" = true) (k : PySem.W.keepIn K (.ref f) = true) : DefAt K mg "memory_tuple" "memory_tuple" s_memory_tuple P_memory_tuple :=
  ⟨f, _, fun_mk l c k, PySem.W.mg_of X G a, k, (fun_mk (st := s_memory_tuple) l c k).binds (ps := P_memory_tuple) fun _ _ _ _ _ _ us hl => match us, hl with | [_], _ => rfl⟩
theorem at_is_cell {K : PySem.W.Frag} {h : Heap} {mg : Str → Option Value} {f : Addr} {od an : Option Addr} {sl : Array (Option Value)} {oc kV dc pm cd ct : Value} (X : K.In h) (G : h.Ns mainGlobals mg) (a : PySem.W.nsIn K mainGlobals "is_cell" = some (some (.ref f))) (l : K.lookup f = some ⟨oc, od, .func (PySem.W.fnOf "is_cell" "is_cell" (defArgs s_is_cell) (defBody s_is_cell) (defScope s_is_cell) .none kV dc pm an cd ct), sl⟩) (c : PySem.W.codeIn K cd "is_cell" = true) (k : PySem.W.keepIn K (.ref f) = true) : DefAt K mg "is_cell" "is_cell" s_is_cell P_is_cell :=
  ⟨f, _, fun_mk l c k, PySem.W.mg_of X G a, k, (fun_mk (st := s_is_cell) l c k).binds (ps := P_is_cell) fun _ _ _ _ _ _ us hl => match us, hl with | [_], _ => rfl⟩
theorem at_is_a_memory {K : PySem.W.Frag} {h : Heap} {mg : Str → Option Value} {f : Addr} {od an : Option Addr} {sl : Array (Option Value)} {oc kV dc pm cd ct : Value} (X : K.In h) (G : h.Ns mainGlobals mg) (a : PySem.W.nsIn K mainGlobals "is_a_memory" = some (some (.ref f))) (l : K.lookup f = some ⟨oc, od, .func (PySem.W.fnOf "is_a_memory" "is_a_memory" (defArgs s_is_a_memory) (defBody s_is_a_memory) (defScope s_is_a_memory) .none kV dc pm an cd ct), sl⟩) (c : PySem.W.codeIn K cd "is_a_memory" = true) (k : PySem.W.keepIn K (.ref f) = true) : DefAt K mg "is_a_memory" "is_a_memory" s_is_a_memory P_is_a_memory :=
  ⟨f, _, fun_mk l c k, PySem.W.mg_of X G a, k, (fun_mk (st := s_is_a_memory) l c k).binds (ps := P_is_a_memory) fun _ _ _ _ _ _ us hl => match us, hl with | [_], _ => rfl⟩
theorem at_need_memory {K : PySem.W.Frag} {h : Heap} {mg : Str → Option Value} {f : Addr} {od an : Option Addr} {sl : Array (Option Value)} {oc kV dc pm cd ct : Value} (X : K.In h) (G : h.Ns mainGlobals mg) (a : PySem.W.nsIn K mainGlobals "need_memory" = some (some (.ref f))) (l : K.lookup f = some ⟨oc, od, .func (PySem.W.fnOf "need_memory" "need_memory" (defArgs s_need_memory) (defBody s_need_memory) (defScope s_need_memory) .none kV dc pm an cd ct), sl⟩) (c : PySem.W.codeIn K cd "need_memory" = true) (k : PySem.W.keepIn K (.ref f) = true) : DefAt K mg "need_memory" "need_memory" s_need_memory P_need_memory :=
  ⟨f, _, fun_mk l c k, PySem.W.mg_of X G a, k, (fun_mk (st := s_need_memory) l c k).binds (ps := P_need_memory) fun _ _ _ _ _ _ us hl => match us, hl with | [_], _ => rfl⟩
theorem at_kinds_behind {K : PySem.W.Frag} {h : Heap} {mg : Str → Option Value} {f : Addr} {od an : Option Addr} {sl : Array (Option Value)} {oc kV dc pm cd ct : Value} (X : K.In h) (G : h.Ns mainGlobals mg) (a : PySem.W.nsIn K mainGlobals "kinds_behind" = some (some (.ref f))) (l : K.lookup f = some ⟨oc, od, .func (PySem.W.fnOf "kinds_behind" "kinds_behind" (defArgs s_kinds_behind) (defBody s_kinds_behind) (defScope s_kinds_behind) .none kV dc pm an cd ct), sl⟩) (c : PySem.W.codeIn K cd "kinds_behind" = true) (k : PySem.W.keepIn K (.ref f) = true) : DefAt K mg "kinds_behind" "kinds_behind" s_kinds_behind P_kinds_behind :=
  ⟨f, _, fun_mk l c k, PySem.W.mg_of X G a, k, (fun_mk (st := s_kinds_behind) l c k).binds (ps := P_kinds_behind) fun _ _ _ _ _ _ us hl => match us, hl with | [_], _ => rfl⟩
theorem at_is_plain_part {K : PySem.W.Frag} {h : Heap} {mg : Str → Option Value} {f : Addr} {od an : Option Addr} {sl : Array (Option Value)} {oc kV dc pm cd ct : Value} (X : K.In h) (G : h.Ns mainGlobals mg) (a : PySem.W.nsIn K mainGlobals "is_plain_part" = some (some (.ref f))) (l : K.lookup f = some ⟨oc, od, .func (PySem.W.fnOf "is_plain_part" "is_plain_part" (defArgs s_is_plain_part) (defBody s_is_plain_part) (defScope s_is_plain_part) .none kV dc pm an cd ct), sl⟩) (c : PySem.W.codeIn K cd "is_plain_part" = true) (k : PySem.W.keepIn K (.ref f) = true) : DefAt K mg "is_plain_part" "is_plain_part" s_is_plain_part P_is_plain_part :=
  ⟨f, _, fun_mk l c k, PySem.W.mg_of X G a, k, (fun_mk (st := s_is_plain_part) l c k).binds (ps := P_is_plain_part) fun _ _ _ _ _ _ us hl => match us, hl with | [_, _], _ => rfl⟩
theorem at_is_order {K : PySem.W.Frag} {h : Heap} {mg : Str → Option Value} {f : Addr} {od an : Option Addr} {sl : Array (Option Value)} {oc kV dc pm cd ct : Value} (X : K.In h) (G : h.Ns mainGlobals mg) (a : PySem.W.nsIn K mainGlobals "is_order" = some (some (.ref f))) (l : K.lookup f = some ⟨oc, od, .func (PySem.W.fnOf "is_order" "is_order" (defArgs s_is_order) (defBody s_is_order) (defScope s_is_order) .none kV dc pm an cd ct), sl⟩) (c : PySem.W.codeIn K cd "is_order" = true) (k : PySem.W.keepIn K (.ref f) = true) : DefAt K mg "is_order" "is_order" s_is_order P_is_order :=
  ⟨f, _, fun_mk l c k, PySem.W.mg_of X G a, k, (fun_mk (st := s_is_order) l c k).binds (ps := P_is_order) fun _ _ _ _ _ _ us hl => match us, hl with | [_, _], _ => rfl⟩
theorem at_is_a_code {K : PySem.W.Frag} {h : Heap} {mg : Str → Option Value} {f : Addr} {od an : Option Addr} {sl : Array (Option Value)} {oc kV dc pm cd ct : Value} (X : K.In h) (G : h.Ns mainGlobals mg) (a : PySem.W.nsIn K mainGlobals "is_a_code" = some (some (.ref f))) (l : K.lookup f = some ⟨oc, od, .func (PySem.W.fnOf "is_a_code" "is_a_code" (defArgs s_is_a_code) (defBody s_is_a_code) (defScope s_is_a_code) .none kV dc pm an cd ct), sl⟩) (c : PySem.W.codeIn K cd "is_a_code" = true) (k : PySem.W.keepIn K (.ref f) = true) : DefAt K mg "is_a_code" "is_a_code" s_is_a_code P_is_a_code :=
  ⟨f, _, fun_mk l c k, PySem.W.mg_of X G a, k, (fun_mk (st := s_is_a_code) l c k).binds (ps := P_is_a_code) fun _ _ _ _ _ _ us hl => match us, hl with | [_], _ => rfl⟩
theorem at_need_code {K : PySem.W.Frag} {h : Heap} {mg : Str → Option Value} {f : Addr} {od an : Option Addr} {sl : Array (Option Value)} {oc kV dc pm cd ct : Value} (X : K.In h) (G : h.Ns mainGlobals mg) (a : PySem.W.nsIn K mainGlobals "need_code" = some (some (.ref f))) (l : K.lookup f = some ⟨oc, od, .func (PySem.W.fnOf "need_code" "need_code" (defArgs s_need_code) (defBody s_need_code) (defScope s_need_code) .none kV dc pm an cd ct), sl⟩) (c : PySem.W.codeIn K cd "need_code" = true) (k : PySem.W.keepIn K (.ref f) = true) : DefAt K mg "need_code" "need_code" s_need_code P_need_code :=
  ⟨f, _, fun_mk l c k, PySem.W.mg_of X G a, k, (fun_mk (st := s_need_code) l c k).binds (ps := P_need_code) fun _ _ _ _ _ _ us hl => match us, hl with | [_], _ => rfl⟩
theorem at_Spot___init__ {K : PySem.W.Frag} {h : Heap} {mg : Str → Option Value} {f : Addr} {od an : Option Addr} {sl : Array (Option Value)} {oc kV dc pm cd ct : Value} {C : Addr} (X : K.In h) (G : h.Ns mainGlobals mg) (aC : PySem.W.nsIn K mainGlobals "Spot" = some (some (.ref C))) (a : PySem.W.findIn K (.ref C) "__init__" = some (some (.ref f))) (i : PySem.W.isFn K (.ref f) = true) (l : K.lookup f = some ⟨oc, od, .func (PySem.W.fnOf "__init__" "Spot.__init__" (defArgs s_Spot___init__) (defBody s_Spot___init__) (defScope s_Spot___init__) .none kV dc pm an cd ct), sl⟩) (c : PySem.W.codeIn K cd "Spot.__init__" = true) (k : PySem.W.keepIn K (.ref f) = true) (mk : PySem.W.makesIn K C = true) (kc : PySem.W.keepIn K (.ref C) = true) : InitAt K mg C "Spot" "Spot.__init__" s_Spot___init__ P_Spot___init__ :=
  ⟨f, _, fun_mk l c k, ⟨mk, a, i, kc⟩, PySem.W.mg_of X G aC, (fun_mk (st := s_Spot___init__) l c k).binds (ps := P_Spot___init__) fun _ _ _ _ _ _ us hl => match us, hl with | [_, _, _, _], _ => rfl⟩
theorem at_address_in {K : PySem.W.Frag} {h : Heap} {mg : Str → Option Value} {f : Addr} {od an : Option Addr} {sl : Array (Option Value)} {oc kV dc pm cd ct : Value} (X : K.In h) (G : h.Ns mainGlobals mg) (a : PySem.W.nsIn K mainGlobals "address_in" = some (some (.ref f))) (l : K.lookup f = some ⟨oc, od, .func (PySem.W.fnOf "address_in" "address_in" (defArgs s_address_in) (defBody s_address_in) (defScope s_address_in) .none kV dc pm an cd ct), sl⟩) (c : PySem.W.codeIn K cd "address_in" = true) (k : PySem.W.keepIn K (.ref f) = true) : DefAt K mg "address_in" "address_in" s_address_in P_address_in :=
  ⟨f, _, fun_mk l c k, PySem.W.mg_of X G a, k, (fun_mk (st := s_address_in) l c k).binds (ps := P_address_in) fun _ _ _ _ _ _ us hl => match us, hl with | [_, _], _ => rfl⟩
theorem at_halting {K : PySem.W.Frag} {h : Heap} {mg : Str → Option Value} {f : Addr} {od an : Option Addr} {sl : Array (Option Value)} {oc kV dc pm cd ct : Value} (X : K.In h) (G : h.Ns mainGlobals mg) (a : PySem.W.nsIn K mainGlobals "halting" = some (some (.ref f))) (l : K.lookup f = some ⟨oc, od, .func (PySem.W.fnOf "halting" "halting" (defArgs s_halting) (defBody s_halting) (defScope s_halting) .none kV dc pm an cd ct), sl⟩) (c : PySem.W.codeIn K cd "halting" = true) (k : PySem.W.keepIn K (.ref f) = true) : DefAt K mg "halting" "halting" s_halting P_halting :=
  ⟨f, _, fun_mk l c k, PySem.W.mg_of X G a, k, (fun_mk (st := s_halting) l c k).binds (ps := P_halting) fun _ _ _ _ _ _ us hl => match us, hl with | [_, _], _ => rfl⟩
theorem at_joined {K : PySem.W.Frag} {h : Heap} {mg : Str → Option Value} {f : Addr} {od an : Option Addr} {sl : Array (Option Value)} {oc kV dc pm cd ct : Value} (X : K.In h) (G : h.Ns mainGlobals mg) (a : PySem.W.nsIn K mainGlobals "joined" = some (some (.ref f))) (l : K.lookup f = some ⟨oc, od, .func (PySem.W.fnOf "joined" "joined" (defArgs s_joined) (defBody s_joined) (defScope s_joined) .none kV dc pm an cd ct), sl⟩) (c : PySem.W.codeIn K cd "joined" = true) (k : PySem.W.keepIn K (.ref f) = true) : DefAt K mg "joined" "joined" s_joined P_joined :=
  ⟨f, _, fun_mk l c k, PySem.W.mg_of X G a, k, (fun_mk (st := s_joined) l c k).binds (ps := P_joined) fun _ _ _ _ _ _ us hl => match us, hl with | [_, _, _], _ => rfl⟩
theorem at_PlainCells___init__ {K : PySem.W.Frag} {h : Heap} {mg : Str → Option Value} {f : Addr} {od an : Option Addr} {sl : Array (Option Value)} {oc kV dc pm cd ct : Value} {C : Addr} (X : K.In h) (G : h.Ns mainGlobals mg) (aC : PySem.W.nsIn K mainGlobals "PlainCells" = some (some (.ref C))) (a : PySem.W.findIn K (.ref C) "__init__" = some (some (.ref f))) (i : PySem.W.isFn K (.ref f) = true) (l : K.lookup f = some ⟨oc, od, .func (PySem.W.fnOf "__init__" "PlainCells.__init__" (defArgs s_PlainCells___init__) (defBody s_PlainCells___init__) (defScope s_PlainCells___init__) .none kV dc pm an cd ct), sl⟩) (c : PySem.W.codeIn K cd "PlainCells.__init__" = true) (k : PySem.W.keepIn K (.ref f) = true) (mk : PySem.W.makesIn K C = true) (kc : PySem.W.keepIn K (.ref C) = true) : InitAt K mg C "PlainCells" "PlainCells.__init__" s_PlainCells___init__ P_PlainCells___init__ :=
  ⟨f, _, fun_mk l c k, ⟨mk, a, i, kc⟩, PySem.W.mg_of X G aC, (fun_mk (st := s_PlainCells___init__) l c k).binds (ps := P_PlainCells___init__) fun _ _ _ _ _ _ us hl => match us, hl with | [_, _], _ => rfl⟩
theorem at_PlainCells_load {K : PySem.W.Frag} {h : Heap} {mg : Str → Option Value} {f : Addr} {od an : Option Addr} {sl : Array (Option Value)} {oc kV dc pm cd ct : Value} {C : Addr} (X : K.In h) (G : h.Ns mainGlobals mg) (a : PySem.W.findIn K (.ref C) "load" = some (some (.ref f))) (i : PySem.W.isFn K (.ref f) = true) (l : K.lookup f = some ⟨oc, od, .func (PySem.W.fnOf "load" "PlainCells.load" (defArgs s_PlainCells_load) (defBody s_PlainCells_load) (defScope s_PlainCells_load) .none kV dc pm an cd ct), sl⟩) (c : PySem.W.codeIn K cd "PlainCells.load" = true) (k : PySem.W.keepIn K (.ref f) = true) : MethAt K C "load" "PlainCells.load" s_PlainCells_load P_PlainCells_load :=
  ⟨f, _, fun_mk l c k, ⟨a, i, k⟩, (fun_mk (st := s_PlainCells_load) l c k).binds (ps := P_PlainCells_load) fun _ _ _ _ _ _ us hl => match us, hl with | [_, _], _ => rfl⟩
theorem at_PlainCells_store {K : PySem.W.Frag} {h : Heap} {mg : Str → Option Value} {f : Addr} {od an : Option Addr} {sl : Array (Option Value)} {oc kV dc pm cd ct : Value} {C : Addr} (X : K.In h) (G : h.Ns mainGlobals mg) (a : PySem.W.findIn K (.ref C) "store" = some (some (.ref f))) (i : PySem.W.isFn K (.ref f) = true) (l : K.lookup f = some ⟨oc, od, .func (PySem.W.fnOf "store" "PlainCells.store" (defArgs s_PlainCells_store) (defBody s_PlainCells_store) (defScope s_PlainCells_store) .none kV dc pm an cd ct), sl⟩) (c : PySem.W.codeIn K cd "PlainCells.store" = true) (k : PySem.W.keepIn K (.ref f) = true) : MethAt K C "store" "PlainCells.store" s_PlainCells_store P_PlainCells_store :=
  ⟨f, _, fun_mk l c k, ⟨a, i, k⟩, (fun_mk (st := s_PlainCells_store) l c k).binds (ps := P_PlainCells_store) fun _ _ _ _ _ _ us hl => match us, hl with | [_, _, _], _ => rfl⟩
theorem at_figure_for {K : PySem.W.Frag} {h : Heap} {mg : Str → Option Value} {f : Addr} {od an : Option Addr} {sl : Array (Option Value)} {oc kV dc pm cd ct : Value} (X : K.In h) (G : h.Ns mainGlobals mg) (a : PySem.W.nsIn K mainGlobals "figure_for" = some (some (.ref f))) (l : K.lookup f = some ⟨oc, od, .func (PySem.W.fnOf "figure_for" "figure_for" (defArgs s_figure_for) (defBody s_figure_for) (defScope s_figure_for) .none kV dc pm an cd ct), sl⟩) (c : PySem.W.codeIn K cd "figure_for" = true) (k : PySem.W.keepIn K (.ref f) = true) : DefAt K mg "figure_for" "figure_for" s_figure_for P_figure_for :=
  ⟨f, _, fun_mk l c k, PySem.W.mg_of X G a, k, (fun_mk (st := s_figure_for) l c k).binds (ps := P_figure_for) fun _ _ _ _ _ _ us hl => match us, hl with | [_, _, _], _ => rfl⟩
theorem at_next_index {K : PySem.W.Frag} {h : Heap} {mg : Str → Option Value} {f : Addr} {od an : Option Addr} {sl : Array (Option Value)} {oc kV dc pm cd ct : Value} (X : K.In h) (G : h.Ns mainGlobals mg) (a : PySem.W.nsIn K mainGlobals "next_index" = some (some (.ref f))) (l : K.lookup f = some ⟨oc, od, .func (PySem.W.fnOf "next_index" "next_index" (defArgs s_next_index) (defBody s_next_index) (defScope s_next_index) .none kV dc pm an cd ct), sl⟩) (c : PySem.W.codeIn K cd "next_index" = true) (k : PySem.W.keepIn K (.ref f) = true) : DefAt K mg "next_index" "next_index" s_next_index P_next_index :=
  ⟨f, _, fun_mk l c k, PySem.W.mg_of X G a, k, (fun_mk (st := s_next_index) l c k).binds (ps := P_next_index) fun _ _ _ _ _ _ us hl => match us, hl with | [_, _], _ => rfl⟩
theorem at_do_order {K : PySem.W.Frag} {h : Heap} {mg : Str → Option Value} {f : Addr} {od an : Option Addr} {sl : Array (Option Value)} {oc kV dc pm cd ct : Value} (X : K.In h) (G : h.Ns mainGlobals mg) (a : PySem.W.nsIn K mainGlobals "do_order" = some (some (.ref f))) (l : K.lookup f = some ⟨oc, od, .func (PySem.W.fnOf "do_order" "do_order" (defArgs s_do_order) (defBody s_do_order) (defScope s_do_order) .none kV dc pm an cd ct), sl⟩) (c : PySem.W.codeIn K cd "do_order" = true) (k : PySem.W.keepIn K (.ref f) = true) : DefAt K mg "do_order" "do_order" s_do_order P_do_order :=
  ⟨f, _, fun_mk l c k, PySem.W.mg_of X G a, k, (fun_mk (st := s_do_order) l c k).binds (ps := P_do_order) fun _ _ _ _ _ _ us hl => match us, hl with | [_, _, _], _ => rfl⟩
theorem at_Running___init__ {K : PySem.W.Frag} {h : Heap} {mg : Str → Option Value} {f : Addr} {od an : Option Addr} {sl : Array (Option Value)} {oc kV dc pm cd ct : Value} {C : Addr} (X : K.In h) (G : h.Ns mainGlobals mg) (aC : PySem.W.nsIn K mainGlobals "Running" = some (some (.ref C))) (a : PySem.W.findIn K (.ref C) "__init__" = some (some (.ref f))) (i : PySem.W.isFn K (.ref f) = true) (l : K.lookup f = some ⟨oc, od, .func (PySem.W.fnOf "__init__" "Running.__init__" (defArgs s_Running___init__) (defBody s_Running___init__) (defScope s_Running___init__) .none kV dc pm an cd ct), sl⟩) (c : PySem.W.codeIn K cd "Running.__init__" = true) (k : PySem.W.keepIn K (.ref f) = true) (mk : PySem.W.makesIn K C = true) (kc : PySem.W.keepIn K (.ref C) = true) : InitAt K mg C "Running" "Running.__init__" s_Running___init__ P_Running___init__ :=
  ⟨f, _, fun_mk l c k, ⟨mk, a, i, kc⟩, PySem.W.mg_of X G aC, (fun_mk (st := s_Running___init__) l c k).binds (ps := P_Running___init__) fun _ _ _ _ _ _ us hl => match us, hl with | [_, _, _], _ => rfl⟩
theorem at_Running_ahead {K : PySem.W.Frag} {h : Heap} {mg : Str → Option Value} {f : Addr} {od an : Option Addr} {sl : Array (Option Value)} {oc kV dc pm cd ct : Value} {C : Addr} (X : K.In h) (G : h.Ns mainGlobals mg) (a : PySem.W.findIn K (.ref C) "ahead" = some (some (.ref f))) (i : PySem.W.isFn K (.ref f) = true) (l : K.lookup f = some ⟨oc, od, .func (PySem.W.fnOf "ahead" "Running.ahead" (defArgs s_Running_ahead) (defBody s_Running_ahead) (defScope s_Running_ahead) .none kV dc pm an cd ct), sl⟩) (c : PySem.W.codeIn K cd "Running.ahead" = true) (k : PySem.W.keepIn K (.ref f) = true) : MethAt K C "ahead" "Running.ahead" s_Running_ahead P_Running_ahead :=
  ⟨f, _, fun_mk l c k, ⟨a, i, k⟩, (fun_mk (st := s_Running_ahead) l c k).binds (ps := P_Running_ahead) fun _ _ _ _ _ _ us hl => match us, hl with | [_], _ => rfl⟩
theorem at_Running_go {K : PySem.W.Frag} {h : Heap} {mg : Str → Option Value} {f : Addr} {od an : Option Addr} {sl : Array (Option Value)} {oc kV dc pm cd ct : Value} {C : Addr} (X : K.In h) (G : h.Ns mainGlobals mg) (a : PySem.W.findIn K (.ref C) "go" = some (some (.ref f))) (i : PySem.W.isFn K (.ref f) = true) (l : K.lookup f = some ⟨oc, od, .func (PySem.W.fnOf "go" "Running.go" (defArgs s_Running_go) (defBody s_Running_go) (defScope s_Running_go) .none kV dc pm an cd ct), sl⟩) (c : PySem.W.codeIn K cd "Running.go" = true) (k : PySem.W.keepIn K (.ref f) = true) : MethAt K C "go" "Running.go" s_Running_go P_Running_go :=
  ⟨f, _, fun_mk l c k, ⟨a, i, k⟩, (fun_mk (st := s_Running_go) l c k).binds (ps := P_Running_go) fun _ _ _ _ _ _ us hl => match us, hl with | [_], _ => rfl⟩
theorem at_Running_as_machine {K : PySem.W.Frag} {h : Heap} {mg : Str → Option Value} {f : Addr} {od an : Option Addr} {sl : Array (Option Value)} {oc kV dc pm cd ct : Value} {C : Addr} (X : K.In h) (G : h.Ns mainGlobals mg) (a : PySem.W.findIn K (.ref C) "as_machine" = some (some (.ref f))) (i : PySem.W.isFn K (.ref f) = true) (l : K.lookup f = some ⟨oc, od, .func (PySem.W.fnOf "as_machine" "Running.as_machine" (defArgs s_Running_as_machine) (defBody s_Running_as_machine) (defScope s_Running_as_machine) .none kV dc pm an cd ct), sl⟩) (c : PySem.W.codeIn K cd "Running.as_machine" = true) (k : PySem.W.keepIn K (.ref f) = true) : MethAt K C "as_machine" "Running.as_machine" s_Running_as_machine P_Running_as_machine :=
  ⟨f, _, fun_mk l c k, ⟨a, i, k⟩, (fun_mk (st := s_Running_as_machine) l c k).binds (ps := P_Running_as_machine) fun _ _ _ _ _ _ us hl => match us, hl with | [_], _ => rfl⟩
theorem at_is_code {K : PySem.W.Frag} {h : Heap} {mg : Str → Option Value} {f : Addr} {od an : Option Addr} {sl : Array (Option Value)} {oc kV dc pm cd ct : Value} (X : K.In h) (G : h.Ns mainGlobals mg) (a : PySem.W.nsIn K mainGlobals "is_code" = some (some (.ref f))) (l : K.lookup f = some ⟨oc, od, .func (PySem.W.fnOf "is_code" "is_code" (defArgs s_is_code) (defBody s_is_code) (defScope s_is_code) .none kV dc pm an cd ct), sl⟩) (c : PySem.W.codeIn K cd "is_code" = true) (k : PySem.W.keepIn K (.ref f) = true) : DefAt K mg "is_code" "is_code" s_is_code P_is_code :=
  ⟨f, _, fun_mk l c k, PySem.W.mg_of X G a, k, (fun_mk (st := s_is_code) l c k).binds (ps := P_is_code) fun _ _ _ _ _ _ us hl => match us, hl with | [_], _ => rfl⟩
theorem at_is_memory {K : PySem.W.Frag} {h : Heap} {mg : Str → Option Value} {f : Addr} {od an : Option Addr} {sl : Array (Option Value)} {oc kV dc pm cd ct : Value} (X : K.In h) (G : h.Ns mainGlobals mg) (a : PySem.W.nsIn K mainGlobals "is_memory" = some (some (.ref f))) (l : K.lookup f = some ⟨oc, od, .func (PySem.W.fnOf "is_memory" "is_memory" (defArgs s_is_memory) (defBody s_is_memory) (defScope s_is_memory) .none kV dc pm an cd ct), sl⟩) (c : PySem.W.codeIn K cd "is_memory" = true) (k : PySem.W.keepIn K (.ref f) = true) : DefAt K mg "is_memory" "is_memory" s_is_memory P_is_memory :=
  ⟨f, _, fun_mk l c k, PySem.W.mg_of X G a, k, (fun_mk (st := s_is_memory) l c k).binds (ps := P_is_memory) fun _ _ _ _ _ _ us hl => match us, hl with | [_], _ => rfl⟩
theorem at_is_a_machine {K : PySem.W.Frag} {h : Heap} {mg : Str → Option Value} {f : Addr} {od an : Option Addr} {sl : Array (Option Value)} {oc kV dc pm cd ct : Value} (X : K.In h) (G : h.Ns mainGlobals mg) (a : PySem.W.nsIn K mainGlobals "is_a_machine" = some (some (.ref f))) (l : K.lookup f = some ⟨oc, od, .func (PySem.W.fnOf "is_a_machine" "is_a_machine" (defArgs s_is_a_machine) (defBody s_is_a_machine) (defScope s_is_a_machine) .none kV dc pm an cd ct), sl⟩) (c : PySem.W.codeIn K cd "is_a_machine" = true) (k : PySem.W.keepIn K (.ref f) = true) : DefAt K mg "is_a_machine" "is_a_machine" s_is_a_machine P_is_a_machine :=
  ⟨f, _, fun_mk l c k, PySem.W.mg_of X G a, k, (fun_mk (st := s_is_a_machine) l c k).binds (ps := P_is_a_machine) fun _ _ _ _ _ _ us hl => match us, hl with | [_, _], _ => rfl⟩
theorem at_is_machine {K : PySem.W.Frag} {h : Heap} {mg : Str → Option Value} {f : Addr} {od an : Option Addr} {sl : Array (Option Value)} {oc kV dc pm cd ct : Value} (X : K.In h) (G : h.Ns mainGlobals mg) (a : PySem.W.nsIn K mainGlobals "is_machine" = some (some (.ref f))) (l : K.lookup f = some ⟨oc, od, .func (PySem.W.fnOf "is_machine" "is_machine" (defArgs s_is_machine) (defBody s_is_machine) (defScope s_is_machine) .none kV dc pm an cd ct), sl⟩) (c : PySem.W.codeIn K cd "is_machine" = true) (k : PySem.W.keepIn K (.ref f) = true) : DefAt K mg "is_machine" "is_machine" s_is_machine P_is_machine :=
  ⟨f, _, fun_mk l c k, PySem.W.mg_of X G a, k, (fun_mk (st := s_is_machine) l c k).binds (ps := P_is_machine) fun _ _ _ _ _ _ us hl => match us, hl with | [_, _], _ => rfl⟩
theorem at_need_machine {K : PySem.W.Frag} {h : Heap} {mg : Str → Option Value} {f : Addr} {od an : Option Addr} {sl : Array (Option Value)} {oc kV dc pm cd ct : Value} (X : K.In h) (G : h.Ns mainGlobals mg) (a : PySem.W.nsIn K mainGlobals "need_machine" = some (some (.ref f))) (l : K.lookup f = some ⟨oc, od, .func (PySem.W.fnOf "need_machine" "need_machine" (defArgs s_need_machine) (defBody s_need_machine) (defScope s_need_machine) .none kV dc pm an cd ct), sl⟩) (c : PySem.W.codeIn K cd "need_machine" = true) (k : PySem.W.keepIn K (.ref f) = true) : DefAt K mg "need_machine" "need_machine" s_need_machine P_need_machine :=
  ⟨f, _, fun_mk l c k, PySem.W.mg_of X G a, k, (fun_mk (st := s_need_machine) l c k).binds (ps := P_need_machine) fun _ _ _ _ _ _ us hl => match us, hl with | [_, _], _ => rfl⟩
theorem at_need_turns {K : PySem.W.Frag} {h : Heap} {mg : Str → Option Value} {f : Addr} {od an : Option Addr} {sl : Array (Option Value)} {oc kV dc pm cd ct : Value} (X : K.In h) (G : h.Ns mainGlobals mg) (a : PySem.W.nsIn K mainGlobals "need_turns" = some (some (.ref f))) (l : K.lookup f = some ⟨oc, od, .func (PySem.W.fnOf "need_turns" "need_turns" (defArgs s_need_turns) (defBody s_need_turns) (defScope s_need_turns) .none kV dc pm an cd ct), sl⟩) (c : PySem.W.codeIn K cd "need_turns" = true) (k : PySem.W.keepIn K (.ref f) = true) : DefAt K mg "need_turns" "need_turns" s_need_turns P_need_turns :=
  ⟨f, _, fun_mk l c k, PySem.W.mg_of X G a, k, (fun_mk (st := s_need_turns) l c k).binds (ps := P_need_turns) fun _ _ _ _ _ _ us hl => match us, hl with | [_, _], _ => rfl⟩
theorem at_first_machine {K : PySem.W.Frag} {h : Heap} {mg : Str → Option Value} {f : Addr} {od an : Option Addr} {sl : Array (Option Value)} {oc kV dc pm cd ct : Value} (X : K.In h) (G : h.Ns mainGlobals mg) (a : PySem.W.nsIn K mainGlobals "first_machine" = some (some (.ref f))) (l : K.lookup f = some ⟨oc, od, .func (PySem.W.fnOf "first_machine" "first_machine" (defArgs s_first_machine) (defBody s_first_machine) (defScope s_first_machine) .none kV dc pm an cd ct), sl⟩) (c : PySem.W.codeIn K cd "first_machine" = true) (k : PySem.W.keepIn K (.ref f) = true) : DefAt K mg "first_machine" "first_machine" s_first_machine P_first_machine :=
  ⟨f, _, fun_mk l c k, PySem.W.mg_of X G a, k, (fun_mk (st := s_first_machine) l c k).binds (ps := P_first_machine) fun _ _ _ _ _ _ us hl => match us, hl with | [_], _ => rfl⟩
theorem at_turned {K : PySem.W.Frag} {h : Heap} {mg : Str → Option Value} {f : Addr} {od an : Option Addr} {sl : Array (Option Value)} {oc kV dc pm cd ct : Value} (X : K.In h) (G : h.Ns mainGlobals mg) (a : PySem.W.nsIn K mainGlobals "turned" = some (some (.ref f))) (l : K.lookup f = some ⟨oc, od, .func (PySem.W.fnOf "turned" "turned" (defArgs s_turned) (defBody s_turned) (defScope s_turned) .none kV dc pm an cd ct), sl⟩) (c : PySem.W.codeIn K cd "turned" = true) (k : PySem.W.keepIn K (.ref f) = true) : DefAt K mg "turned" "turned" s_turned P_turned :=
  ⟨f, _, fun_mk l c k, PySem.W.mg_of X G a, k, (fun_mk (st := s_turned) l c k).binds (ps := P_turned) fun _ _ _ _ _ _ us hl => match us, hl with | [_, _], _ => rfl⟩
theorem at_run {K : PySem.W.Frag} {h : Heap} {mg : Str → Option Value} {f : Addr} {od an : Option Addr} {sl : Array (Option Value)} {oc kV dc pm cd ct : Value} (X : K.In h) (G : h.Ns mainGlobals mg) (a : PySem.W.nsIn K mainGlobals "run" = some (some (.ref f))) (l : K.lookup f = some ⟨oc, od, .func (PySem.W.fnOf "run" "run" (defArgs s_run) (defBody s_run) (defScope s_run) .none kV dc pm an cd ct), sl⟩) (c : PySem.W.codeIn K cd "run" = true) (k : PySem.W.keepIn K (.ref f) = true) : DefAt K mg "run" "run" s_run P_run :=
  ⟨f, _, fun_mk l c k, PySem.W.mg_of X G a, k, (fun_mk (st := s_run) l c k).binds (ps := P_run) fun _ _ _ _ _ _ us hl => match us, hl with | [_, _, _], _ => rfl⟩
theorem kat_run {K : PySem.W.Frag} {h : Heap} {mg : Str → Option Value} {f : Addr} {od an : Option Addr} {sl : Array (Option Value)} {oc kV dc pm cd ct : Value} (X : K.In h) (G : h.Ns mainGlobals mg) (a : PySem.W.nsIn K mainGlobals "run" = some (some (.ref f))) (l : K.lookup f = some ⟨oc, od, .func (PySem.W.fnOf "run" "run" (defArgs s_run) (defBody s_run) (defScope s_run) .none kV dc pm an cd ct), sl⟩) (c : PySem.W.codeIn K cd "run" = true) (k : PySem.W.keepIn K (.ref f) = true) : KDefAt K mg "run" "run" s_run P_run ["turns", "machine", "code"] rev3 rev3 :=
  ⟨f, _, fun_mk l c k, PySem.W.mg_of X G a, k, ⟨fun s us ws _ hl => by
    match us, ws, hl with
    | [], [_, _, _], _ => exact .of_eq rfl, fun h1 h2 => rev3_rel h1 h2⟩⟩
theorem at__law_deck {K : PySem.W.Frag} {h : Heap} {mg : Str → Option Value} {f : Addr} {od an : Option Addr} {sl : Array (Option Value)} {oc kV dc pm cd ct : Value} (X : K.In h) (G : h.Ns mainGlobals mg) (a : PySem.W.nsIn K mainGlobals "_law_deck" = some (some (.ref f))) (l : K.lookup f = some ⟨oc, od, .func (PySem.W.fnOf "_law_deck" "_law_deck" (defArgs s__law_deck) (defBody s__law_deck) (defScope s__law_deck) .none kV dc pm an cd ct), sl⟩) (c : PySem.W.codeIn K cd "_law_deck" = true) (k : PySem.W.keepIn K (.ref f) = true) : DefAt K mg "_law_deck" "_law_deck" s__law_deck P__law_deck :=
  ⟨f, _, fun_mk l c k, PySem.W.mg_of X G a, k, (fun_mk (st := s__law_deck) l c k).binds (ps := P__law_deck) fun _ _ _ _ _ _ us hl => match us, hl with | [_, _], _ => rfl⟩
theorem at__law_draw {K : PySem.W.Frag} {h : Heap} {mg : Str → Option Value} {f : Addr} {od an : Option Addr} {sl : Array (Option Value)} {oc kV dc pm cd ct : Value} (X : K.In h) (G : h.Ns mainGlobals mg) (a : PySem.W.nsIn K mainGlobals "_law_draw" = some (some (.ref f))) (l : K.lookup f = some ⟨oc, od, .func (PySem.W.fnOf "_law_draw" "_law_draw" (defArgs s__law_draw) (defBody s__law_draw) (defScope s__law_draw) .none kV dc pm an cd ct), sl⟩) (c : PySem.W.codeIn K cd "_law_draw" = true) (k : PySem.W.keepIn K (.ref f) = true) : DefAt K mg "_law_draw" "_law_draw" s__law_draw P__law_draw :=
  ⟨f, _, fun_mk l c k, PySem.W.mg_of X G a, k, (fun_mk (st := s__law_draw) l c k).binds (ps := P__law_draw) fun _ _ _ _ _ _ us hl => match us, hl with | [_, _], _ => rfl⟩
theorem at__law_pick {K : PySem.W.Frag} {h : Heap} {mg : Str → Option Value} {f : Addr} {od an : Option Addr} {sl : Array (Option Value)} {oc kV dc pm cd ct : Value} (X : K.In h) (G : h.Ns mainGlobals mg) (a : PySem.W.nsIn K mainGlobals "_law_pick" = some (some (.ref f))) (l : K.lookup f = some ⟨oc, od, .func (PySem.W.fnOf "_law_pick" "_law_pick" (defArgs s__law_pick) (defBody s__law_pick) (defScope s__law_pick) .none kV dc pm an cd ct), sl⟩) (c : PySem.W.codeIn K cd "_law_pick" = true) (k : PySem.W.keepIn K (.ref f) = true) : DefAt K mg "_law_pick" "_law_pick" s__law_pick P__law_pick :=
  ⟨f, _, fun_mk l c k, PySem.W.mg_of X G a, k, (fun_mk (st := s__law_pick) l c k).binds (ps := P__law_pick) fun _ _ _ _ _ _ us hl => match us, hl with | [_, _], _ => rfl⟩
theorem at__law_same {K : PySem.W.Frag} {h : Heap} {mg : Str → Option Value} {f : Addr} {od an : Option Addr} {sl : Array (Option Value)} {oc kV dc pm cd ct : Value} (X : K.In h) (G : h.Ns mainGlobals mg) (a : PySem.W.nsIn K mainGlobals "_law_same" = some (some (.ref f))) (l : K.lookup f = some ⟨oc, od, .func (PySem.W.fnOf "_law_same" "_law_same" (defArgs s__law_same) (defBody s__law_same) (defScope s__law_same) .none kV dc pm an cd ct), sl⟩) (c : PySem.W.codeIn K cd "_law_same" = true) (k : PySem.W.keepIn K (.ref f) = true) : DefAt K mg "_law_same" "_law_same" s__law_same P__law_same :=
  ⟨f, _, fun_mk l c k, PySem.W.mg_of X G a, k, (fun_mk (st := s__law_same) l c k).binds (ps := P__law_same) fun _ _ _ _ _ _ us hl => match us, hl with | [_, _], _ => rfl⟩
theorem at__law_calls {K : PySem.W.Frag} {h : Heap} {mg : Str → Option Value} {f : Addr} {od an : Option Addr} {sl : Array (Option Value)} {oc kV dc pm cd ct : Value} (X : K.In h) (G : h.Ns mainGlobals mg) (a : PySem.W.nsIn K mainGlobals "_law_calls" = some (some (.ref f))) (l : K.lookup f = some ⟨oc, od, .func (PySem.W.fnOf "_law_calls" "_law_calls" (defArgs s__law_calls) (defBody s__law_calls) (defScope s__law_calls) .none kV dc pm an cd ct), sl⟩) (c : PySem.W.codeIn K cd "_law_calls" = true) (k : PySem.W.keepIn K (.ref f) = true) : DefAt K mg "_law_calls" "_law_calls" s__law_calls P__law_calls :=
  ⟨f, _, fun_mk l c k, PySem.W.mg_of X G a, k, (fun_mk (st := s__law_calls) l c k).binds (ps := P__law_calls) fun _ _ _ _ _ _ us hl => match us, hl with | [], _ => rfl⟩
theorem at__law_words {K : PySem.W.Frag} {h : Heap} {mg : Str → Option Value} {f : Addr} {od an : Option Addr} {sl : Array (Option Value)} {oc kV dc pm cd ct : Value} (X : K.In h) (G : h.Ns mainGlobals mg) (a : PySem.W.nsIn K mainGlobals "_law_words" = some (some (.ref f))) (l : K.lookup f = some ⟨oc, od, .func (PySem.W.fnOf "_law_words" "_law_words" (defArgs s__law_words) (defBody s__law_words) (defScope s__law_words) .none kV dc pm an cd ct), sl⟩) (c : PySem.W.codeIn K cd "_law_words" = true) (k : PySem.W.keepIn K (.ref f) = true) : DefAt K mg "_law_words" "_law_words" s__law_words P__law_words :=
  ⟨f, _, fun_mk l c k, PySem.W.mg_of X G a, k, (fun_mk (st := s__law_words) l c k).binds (ps := P__law_words) fun _ _ _ _ _ _ us hl => match us, hl with | [], _ => rfl⟩
theorem at__law_figure {K : PySem.W.Frag} {h : Heap} {mg : Str → Option Value} {f : Addr} {od an : Option Addr} {sl : Array (Option Value)} {oc kV dc pm cd ct : Value} (X : K.In h) (G : h.Ns mainGlobals mg) (a : PySem.W.nsIn K mainGlobals "_law_figure" = some (some (.ref f))) (l : K.lookup f = some ⟨oc, od, .func (PySem.W.fnOf "_law_figure" "_law_figure" (defArgs s__law_figure) (defBody s__law_figure) (defScope s__law_figure) .none kV dc pm an cd ct), sl⟩) (c : PySem.W.codeIn K cd "_law_figure" = true) (k : PySem.W.keepIn K (.ref f) = true) : DefAt K mg "_law_figure" "_law_figure" s__law_figure P__law_figure :=
  ⟨f, _, fun_mk l c k, PySem.W.mg_of X G a, k, (fun_mk (st := s__law_figure) l c k).binds (ps := P__law_figure) fun _ _ _ _ _ _ us hl => match us, hl with | [_], _ => rfl⟩
theorem at__law_order {K : PySem.W.Frag} {h : Heap} {mg : Str → Option Value} {f : Addr} {od an : Option Addr} {sl : Array (Option Value)} {oc kV dc pm cd ct : Value} (X : K.In h) (G : h.Ns mainGlobals mg) (a : PySem.W.nsIn K mainGlobals "_law_order" = some (some (.ref f))) (l : K.lookup f = some ⟨oc, od, .func (PySem.W.fnOf "_law_order" "_law_order" (defArgs s__law_order) (defBody s__law_order) (defScope s__law_order) .none kV dc pm an cd ct), sl⟩) (c : PySem.W.codeIn K cd "_law_order" = true) (k : PySem.W.keepIn K (.ref f) = true) : DefAt K mg "_law_order" "_law_order" s__law_order P__law_order :=
  ⟨f, _, fun_mk l c k, PySem.W.mg_of X G a, k, (fun_mk (st := s__law_order) l c k).binds (ps := P__law_order) fun _ _ _ _ _ _ us hl => match us, hl with | [_, _, _, _], _ => rfl⟩
theorem at__law_reckoned {K : PySem.W.Frag} {h : Heap} {mg : Str → Option Value} {f : Addr} {od an : Option Addr} {sl : Array (Option Value)} {oc kV dc pm cd ct : Value} (X : K.In h) (G : h.Ns mainGlobals mg) (a : PySem.W.nsIn K mainGlobals "_law_reckoned" = some (some (.ref f))) (l : K.lookup f = some ⟨oc, od, .func (PySem.W.fnOf "_law_reckoned" "_law_reckoned" (defArgs s__law_reckoned) (defBody s__law_reckoned) (defScope s__law_reckoned) .none kV dc pm an cd ct), sl⟩) (c : PySem.W.codeIn K cd "_law_reckoned" = true) (k : PySem.W.keepIn K (.ref f) = true) : DefAt K mg "_law_reckoned" "_law_reckoned" s__law_reckoned P__law_reckoned :=
  ⟨f, _, fun_mk l c k, PySem.W.mg_of X G a, k, (fun_mk (st := s__law_reckoned) l c k).binds (ps := P__law_reckoned) fun _ _ _ _ _ _ us hl => match us, hl with | [_, _], _ => rfl⟩
theorem at__law_cells {K : PySem.W.Frag} {h : Heap} {mg : Str → Option Value} {f : Addr} {od an : Option Addr} {sl : Array (Option Value)} {oc kV dc pm cd ct : Value} (X : K.In h) (G : h.Ns mainGlobals mg) (a : PySem.W.nsIn K mainGlobals "_law_cells" = some (some (.ref f))) (l : K.lookup f = some ⟨oc, od, .func (PySem.W.fnOf "_law_cells" "_law_cells" (defArgs s__law_cells) (defBody s__law_cells) (defScope s__law_cells) .none kV dc pm an cd ct), sl⟩) (c : PySem.W.codeIn K cd "_law_cells" = true) (k : PySem.W.keepIn K (.ref f) = true) : DefAt K mg "_law_cells" "_law_cells" s__law_cells P__law_cells :=
  ⟨f, _, fun_mk l c k, PySem.W.mg_of X G a, k, (fun_mk (st := s__law_cells) l c k).binds (ps := P__law_cells) fun _ _ _ _ _ _ us hl => match us, hl with | [_, _, _], _ => rfl⟩
theorem at__law_at {K : PySem.W.Frag} {h : Heap} {mg : Str → Option Value} {f : Addr} {od an : Option Addr} {sl : Array (Option Value)} {oc kV dc pm cd ct : Value} (X : K.In h) (G : h.Ns mainGlobals mg) (a : PySem.W.nsIn K mainGlobals "_law_at" = some (some (.ref f))) (l : K.lookup f = some ⟨oc, od, .func (PySem.W.fnOf "_law_at" "_law_at" (defArgs s__law_at) (defBody s__law_at) (defScope s__law_at) .none kV dc pm an cd ct), sl⟩) (c : PySem.W.codeIn K cd "_law_at" = true) (k : PySem.W.keepIn K (.ref f) = true) : DefAt K mg "_law_at" "_law_at" s__law_at P__law_at :=
  ⟨f, _, fun_mk l c k, PySem.W.mg_of X G a, k, (fun_mk (st := s__law_at) l c k).binds (ps := P__law_at) fun _ _ _ _ _ _ us hl => match us, hl with | [_, _], _ => rfl⟩
theorem at__law_next {K : PySem.W.Frag} {h : Heap} {mg : Str → Option Value} {f : Addr} {od an : Option Addr} {sl : Array (Option Value)} {oc kV dc pm cd ct : Value} (X : K.In h) (G : h.Ns mainGlobals mg) (a : PySem.W.nsIn K mainGlobals "_law_next" = some (some (.ref f))) (l : K.lookup f = some ⟨oc, od, .func (PySem.W.fnOf "_law_next" "_law_next" (defArgs s__law_next) (defBody s__law_next) (defScope s__law_next) .none kV dc pm an cd ct), sl⟩) (c : PySem.W.codeIn K cd "_law_next" = true) (k : PySem.W.keepIn K (.ref f) = true) : DefAt K mg "_law_next" "_law_next" s__law_next P__law_next :=
  ⟨f, _, fun_mk l c k, PySem.W.mg_of X G a, k, (fun_mk (st := s__law_next) l c k).binds (ps := P__law_next) fun _ _ _ _ _ _ us hl => match us, hl with | [_, _], _ => rfl⟩
theorem at__law_memory {K : PySem.W.Frag} {h : Heap} {mg : Str → Option Value} {f : Addr} {od an : Option Addr} {sl : Array (Option Value)} {oc kV dc pm cd ct : Value} (X : K.In h) (G : h.Ns mainGlobals mg) (a : PySem.W.nsIn K mainGlobals "_law_memory" = some (some (.ref f))) (l : K.lookup f = some ⟨oc, od, .func (PySem.W.fnOf "_law_memory" "_law_memory" (defArgs s__law_memory) (defBody s__law_memory) (defScope s__law_memory) .none kV dc pm an cd ct), sl⟩) (c : PySem.W.codeIn K cd "_law_memory" = true) (k : PySem.W.keepIn K (.ref f) = true) : DefAt K mg "_law_memory" "_law_memory" s__law_memory P__law_memory :=
  ⟨f, _, fun_mk l c k, PySem.W.mg_of X G a, k, (fun_mk (st := s__law_memory) l c k).binds (ps := P__law_memory) fun _ _ _ _ _ _ us hl => match us, hl with | [_], _ => rfl⟩
theorem at__law_machine {K : PySem.W.Frag} {h : Heap} {mg : Str → Option Value} {f : Addr} {od an : Option Addr} {sl : Array (Option Value)} {oc kV dc pm cd ct : Value} (X : K.In h) (G : h.Ns mainGlobals mg) (a : PySem.W.nsIn K mainGlobals "_law_machine" = some (some (.ref f))) (l : K.lookup f = some ⟨oc, od, .func (PySem.W.fnOf "_law_machine" "_law_machine" (defArgs s__law_machine) (defBody s__law_machine) (defScope s__law_machine) .none kV dc pm an cd ct), sl⟩) (c : PySem.W.codeIn K cd "_law_machine" = true) (k : PySem.W.keepIn K (.ref f) = true) : DefAt K mg "_law_machine" "_law_machine" s__law_machine P__law_machine :=
  ⟨f, _, fun_mk l c k, PySem.W.mg_of X G a, k, (fun_mk (st := s__law_machine) l c k).binds (ps := P__law_machine) fun _ _ _ _ _ _ us hl => match us, hl with | [_, _], _ => rfl⟩
theorem at__law_followed {K : PySem.W.Frag} {h : Heap} {mg : Str → Option Value} {f : Addr} {od an : Option Addr} {sl : Array (Option Value)} {oc kV dc pm cd ct : Value} (X : K.In h) (G : h.Ns mainGlobals mg) (a : PySem.W.nsIn K mainGlobals "_law_followed" = some (some (.ref f))) (l : K.lookup f = some ⟨oc, od, .func (PySem.W.fnOf "_law_followed" "_law_followed" (defArgs s__law_followed) (defBody s__law_followed) (defScope s__law_followed) .none kV dc pm an cd ct), sl⟩) (c : PySem.W.codeIn K cd "_law_followed" = true) (k : PySem.W.keepIn K (.ref f) = true) : DefAt K mg "_law_followed" "_law_followed" s__law_followed P__law_followed :=
  ⟨f, _, fun_mk l c k, PySem.W.mg_of X G a, k, (fun_mk (st := s__law_followed) l c k).binds (ps := P__law_followed) fun _ _ _ _ _ _ us hl => match us, hl with | [_, _], _ => rfl⟩
theorem all_ok {P : Program} {w : World} {K : PySem.W.Frag} {mg : Str → Option Value} {base : Heap} {C4 : Addr} {C6 : Addr} {C5 : Addr} (B : Blt mg) (TS : SpC K C4) (TC : PcC K C6) (TR : RnC K C5) {aW : Addr} (hW : ∀ H, SqT K H aW (wordsL.map V.str)) (g_WORDS : GV mg "WORDS" (.ref aW)) {aL : Addr} (hL : ∀ H, SqT K H aL (leadL.map V.str)) (g_LEADING : GV mg "LEADING" (.ref aL)) {dF : Addr} (FC : FormsC K w dF) (g_FORMS : GV mg "FORMS" (.ref dF))  (g_CELLS : GV mg "CELLS" (.int 4096)) (g_FIGURE : GV mg "FIGURE" (.str "figure")) (g_MODULUS : GV mg "MODULUS" (.int 65536)) (g_MOST_CALLS : GV mg "MOST_CALLS" (.int 32)) (g_MOST_FIGURE : GV mg "MOST_FIGURE" (.int 65535)) (g_MOST_NUMBER : GV mg "MOST_NUMBER" (.int 256)) (g_MOST_ORDERS : GV mg "MOST_ORDERS" (.int 4000)) (g_MOST_TURNS : GV mg "MOST_TURNS" (.int 100000)) (g_PLACE : GV mg "PLACE" (.str "place")) (g_REGISTER : GV mg "REGISTER" (.str "register")) (g_REGISTERS : GV mg "REGISTERS" (.int 8))
    (d_is_from : DefAt K mg "is_from" "is_from" s_is_from P_is_from)
    (d_is_tuple : DefAt K mg "is_tuple" "is_tuple" s_is_tuple P_is_tuple)
    (d_is_figure : DefAt K mg "is_figure" "is_figure" s_is_figure P_is_figure)
    (d_is_address : DefAt K mg "is_address" "is_address" s_is_address P_is_address)
    (d_is_register : DefAt K mg "is_register" "is_register" s_is_register P_is_register)
    (d_memory_dict : DefAt K mg "memory_dict" "memory_dict" s_memory_dict P_memory_dict)
    (d_memory_tuple : DefAt K mg "memory_tuple" "memory_tuple" s_memory_tuple P_memory_tuple)
    (d_is_cell : DefAt K mg "is_cell" "is_cell" s_is_cell P_is_cell)
    (d_is_a_memory : DefAt K mg "is_a_memory" "is_a_memory" s_is_a_memory P_is_a_memory)
    (d_need_memory : DefAt K mg "need_memory" "need_memory" s_need_memory P_need_memory)
    (d_kinds_behind : DefAt K mg "kinds_behind" "kinds_behind" s_kinds_behind P_kinds_behind)
    (d_is_plain_part : DefAt K mg "is_plain_part" "is_plain_part" s_is_plain_part P_is_plain_part)
    (d_is_order : DefAt K mg "is_order" "is_order" s_is_order P_is_order)
    (d_is_a_code : DefAt K mg "is_a_code" "is_a_code" s_is_a_code P_is_a_code)
    (d_need_code : DefAt K mg "need_code" "need_code" s_need_code P_need_code)
    (d_Spot___init__ : InitAt K mg C4 "Spot" "Spot.__init__" s_Spot___init__ P_Spot___init__)
    (d_address_in : DefAt K mg "address_in" "address_in" s_address_in P_address_in)
    (d_halting : DefAt K mg "halting" "halting" s_halting P_halting)
    (d_joined : DefAt K mg "joined" "joined" s_joined P_joined)
    (d_PlainCells___init__ : InitAt K mg C6 "PlainCells" "PlainCells.__init__" s_PlainCells___init__ P_PlainCells___init__)
    (d_PlainCells_load : MethAt K C6 "load" "PlainCells.load" s_PlainCells_load P_PlainCells_load)
    (d_PlainCells_store : MethAt K C6 "store" "PlainCells.store" s_PlainCells_store P_PlainCells_store)
    (d_figure_for : DefAt K mg "figure_for" "figure_for" s_figure_for P_figure_for)
    (d_next_index : DefAt K mg "next_index" "next_index" s_next_index P_next_index)
    (d_do_order : DefAt K mg "do_order" "do_order" s_do_order P_do_order)
    (d_Running___init__ : InitAt K mg C5 "Running" "Running.__init__" s_Running___init__ P_Running___init__)
    (d_Running_ahead : MethAt K C5 "ahead" "Running.ahead" s_Running_ahead P_Running_ahead)
    (d_Running_go : MethAt K C5 "go" "Running.go" s_Running_go P_Running_go)
    (d_Running_as_machine : MethAt K C5 "as_machine" "Running.as_machine" s_Running_as_machine P_Running_as_machine)
    (d_is_code : DefAt K mg "is_code" "is_code" s_is_code P_is_code)
    (d_is_memory : DefAt K mg "is_memory" "is_memory" s_is_memory P_is_memory)
    (d_is_a_machine : DefAt K mg "is_a_machine" "is_a_machine" s_is_a_machine P_is_a_machine)
    (d_is_machine : DefAt K mg "is_machine" "is_machine" s_is_machine P_is_machine)
    (d_need_machine : DefAt K mg "need_machine" "need_machine" s_need_machine P_need_machine)
    (d_need_turns : DefAt K mg "need_turns" "need_turns" s_need_turns P_need_turns)
    (d_first_machine : DefAt K mg "first_machine" "first_machine" s_first_machine P_first_machine)
    (d_turned : DefAt K mg "turned" "turned" s_turned P_turned)
    (d_run : DefAt K mg "run" "run" s_run P_run)
    (kd_run : KDefAt K mg "run" "run" s_run P_run ["turns", "machine", "code"] rev3 rev3)
    (d__law_deck : DefAt K mg "_law_deck" "_law_deck" s__law_deck P__law_deck)
    (d__law_draw : DefAt K mg "_law_draw" "_law_draw" s__law_draw P__law_draw)
    (d__law_pick : DefAt K mg "_law_pick" "_law_pick" s__law_pick P__law_pick)
    (d__law_same : DefAt K mg "_law_same" "_law_same" s__law_same P__law_same)
    (d__law_calls : DefAt K mg "_law_calls" "_law_calls" s__law_calls P__law_calls)
    (d__law_words : DefAt K mg "_law_words" "_law_words" s__law_words P__law_words)
    (d__law_figure : DefAt K mg "_law_figure" "_law_figure" s__law_figure P__law_figure)
    (d__law_order : DefAt K mg "_law_order" "_law_order" s__law_order P__law_order)
    (d__law_reckoned : DefAt K mg "_law_reckoned" "_law_reckoned" s__law_reckoned P__law_reckoned)
    (d__law_cells : DefAt K mg "_law_cells" "_law_cells" s__law_cells P__law_cells)
    (d__law_at : DefAt K mg "_law_at" "_law_at" s__law_at P__law_at)
    (d__law_next : DefAt K mg "_law_next" "_law_next" s__law_next P__law_next)
    (d__law_memory : DefAt K mg "_law_memory" "_law_memory" s__law_memory P__law_memory)
    (d__law_machine : DefAt K mg "_law_machine" "_law_machine" s__law_machine P__law_machine)
    (d__law_followed : DefAt K mg "_law_followed" "_law_followed" s__law_followed P__law_followed)
    {f : Addr} {fd : FuncData} (F : Fun K "law" "law" s_law f fd) : FnOk P w K mg base CX0 9 f fd P_law (spLawK00 K) := by
  have c_is_from : Cal P w K mg base CX0 1 "is_from" P_is_from (spIsFrom K) := by
    obtain ⟨f, fd, F, m, k, b⟩ := d_is_from.ex
    exact ⟨f, fd, ok_is_from F B  , m, k, b⟩
  have c_is_tuple : Cal P w K mg base CX0 1 "is_tuple" P_is_tuple (spIsTuple K) := by
    obtain ⟨f, fd, F, m, k, b⟩ := d_is_tuple.ex
    exact ⟨f, fd, ok_is_tuple F B  , m, k, b⟩
  have c_is_figure : Cal P w K mg base CX0 2 "is_figure" P_is_figure (spFig) := by
    obtain ⟨f, fd, F, m, k, b⟩ := d_is_figure.ex
    exact ⟨f, fd, ok_is_figure F B  (c_is_from := c_is_from) (g_MOST_FIGURE := g_MOST_FIGURE), m, k, b⟩
  have c_is_address : Cal P w K mg base CX0 2 "is_address" P_is_address (spAdr) := by
    obtain ⟨f, fd, F, m, k, b⟩ := d_is_address.ex
    exact ⟨f, fd, ok_is_address F B  (c_is_from := c_is_from) (g_CELLS := g_CELLS), m, k, b⟩
  have c_is_register : Cal P w K mg base CX0 2 "is_register" P_is_register (spReg) := by
    obtain ⟨f, fd, F, m, k, b⟩ := d_is_register.ex
    exact ⟨f, fd, ok_is_register F B  (c_is_from := c_is_from) (g_REGISTERS := g_REGISTERS), m, k, b⟩
  have c_memory_dict : Cal P w K mg base CX0 1 "memory_dict" P_memory_dict (spMDict) := by
    obtain ⟨f, fd, F, m, k, b⟩ := d_memory_dict.ex
    exact ⟨f, fd, ok_memory_dict F B  , m, k, b⟩
  have c_memory_tuple : Cal P w K mg base CX0 1 "memory_tuple" P_memory_tuple (spRowsL K) := by
    obtain ⟨f, fd, F, m, k, b⟩ := d_memory_tuple.ex
    exact ⟨f, fd, ok_memory_tuple F B  , m, k, b⟩
  have c_is_cell : Cal P w K mg base CX0 3 "is_cell" P_is_cell (spCellM K) := by
    obtain ⟨f, fd, F, m, k, b⟩ := d_is_cell.ex
    exact ⟨f, fd, ok_is_cell F B  (c_is_from := c_is_from) (c_is_tuple := c_is_tuple) (c_is_address := c_is_address) (g_MOST_FIGURE := g_MOST_FIGURE), m, k, b⟩
  have c_is_a_memory : Cal P w K mg base CX0 4 "is_a_memory" P_is_a_memory (spIsMem K) := by
    obtain ⟨f, fd, F, m, k, b⟩ := d_is_a_memory.ex
    exact ⟨f, fd, ok_is_a_memory F B  (c_is_cell := c_is_cell), m, k, b⟩
  have c_need_memory : Cal P w K mg base CX0 5 "need_memory" P_need_memory (spNeedMem K) := by
    obtain ⟨f, fd, F, m, k, b⟩ := d_need_memory.ex
    exact ⟨f, fd, ok_need_memory F B  (c_is_a_memory := c_is_a_memory), m, k, b⟩
  have c_kinds_behind : Cal P w K mg base CX0 1 "kinds_behind" P_kinds_behind (spKinds K) := by
    obtain ⟨f, fd, F, m, k, b⟩ := d_kinds_behind.ex
    exact ⟨f, fd, ok_kinds_behind F B  (FC := FC) (g_FORMS := g_FORMS), m, k, b⟩
  have c_is_plain_part : Cal P w K mg base CX0 3 "is_plain_part" P_is_plain_part (spPlainPart) := by
    obtain ⟨f, fd, F, m, k, b⟩ := d_is_plain_part.ex
    exact ⟨f, fd, ok_is_plain_part F B  (hW := hW) (c_is_register := c_is_register) (c_is_figure := c_is_figure) (g_REGISTER := g_REGISTER) (g_FIGURE := g_FIGURE) (g_WORDS := g_WORDS), m, k, b⟩
  have c_is_order : Cal P w K mg base CX0 4 "is_order" P_is_order (spIsOrder K) := by
    obtain ⟨f, fd, F, m, k, b⟩ := d_is_order.ex
    exact ⟨f, fd, ok_is_order F B  (c_is_from := c_is_from) (c_kinds_behind := c_kinds_behind) (c_is_plain_part := c_is_plain_part) (g_PLACE := g_PLACE), m, k, b⟩
  have c_is_a_code : Cal P w K mg base CX0 5 "is_a_code" P_is_a_code (spIsCode K) := by
    obtain ⟨f, fd, F, m, k, b⟩ := d_is_a_code.ex
    exact ⟨f, fd, ok_is_a_code F B  (c_is_tuple := c_is_tuple) (c_is_order := c_is_order) (g_MOST_ORDERS := g_MOST_ORDERS), m, k, b⟩
  have c_need_code : Cal P w K mg base CX0 5 "need_code" P_need_code (spNeedCode K) := by
    obtain ⟨f, fd, F, m, k, b⟩ := d_need_code.ex
    exact ⟨f, fd, ok_need_code F B  (c_is_tuple := c_is_tuple) (c_is_order := c_is_order) (g_MOST_ORDERS := g_MOST_ORDERS), m, k, b⟩
  have c_Spot : CCal P w K mg base CX0 1 C4 "Spot" P_Spot___init__ (spSpotInit K C4) := by
    obtain ⟨f, fd, F, M, m, b⟩ := d_Spot___init__.ex
    exact ⟨f, fd, ok_Spot___init__ F B  (TS := TS), M, m, b⟩
  have c_address_in : Cal P w K mg base CX0 1 "address_in" P_address_in (spAddrIn K) := by
    obtain ⟨f, fd, F, m, k, b⟩ := d_address_in.ex
    exact ⟨f, fd, ok_address_in F B  , m, k, b⟩
  have c_halting : Cal P w K mg base CX0 2 "halting" P_halting (spHalting K C4) := by
    obtain ⟨f, fd, F, m, k, b⟩ := d_halting.ex
    exact ⟨f, fd, ok_halting F B  (TS := TS) (c_address_in := c_address_in) (g_MOST_NUMBER := g_MOST_NUMBER) (g_MOST_CALLS := g_MOST_CALLS) (g_CELLS := g_CELLS), m, k, b⟩
  have c_joined : Cal P w K mg base CX0 1 "joined" P_joined (spJoined) := by
    obtain ⟨f, fd, F, m, k, b⟩ := d_joined.ex
    exact ⟨f, fd, ok_joined F B  (g_MODULUS := g_MODULUS), m, k, b⟩
  have c_PlainCells : CCal P w K mg base CX0 2 C6 "PlainCells" P_PlainCells___init__ (spPcInit C6) := by
    obtain ⟨f, fd, F, M, m, b⟩ := d_PlainCells___init__.ex
    exact ⟨f, fd, ok_PlainCells___init__ F B  (TC := TC) (c_memory_dict := c_memory_dict), M, m, b⟩
  have c_PlainCells_load : MCal P w K mg base CX0 1 C6 "load" P_PlainCells_load (spPcLoad C6) := by
    obtain ⟨f, fd, F, m, b⟩ := d_PlainCells_load.ex
    exact ⟨f, fd, ok_PlainCells_load F B  (TC := TC), m, b⟩
  have c_PlainCells_store : MCal P w K mg base CX0 1 C6 "store" P_PlainCells_store (spPcStore C6) := by
    obtain ⟨f, fd, F, m, b⟩ := d_PlainCells_store.ex
    exact ⟨f, fd, ok_PlainCells_store F B  (TC := TC), m, b⟩
  have c_figure_for : Cal P w K mg base CX0 2 "figure_for" P_figure_for (spFigFor K C6) := by
    obtain ⟨f, fd, F, m, k, b⟩ := d_figure_for.ex
    exact ⟨f, fd, ok_figure_for F B  (TC := TC) (c_PlainCells_load := c_PlainCells_load) (c_joined := c_joined), m, k, b⟩
  have c_next_index : Cal P w K mg base CX0 1 "next_index" P_next_index (spNextIdx K C4) := by
    obtain ⟨f, fd, F, m, k, b⟩ := d_next_index.ex
    exact ⟨f, fd, ok_next_index F B  (TS := TS), m, k, b⟩
  have c_do_order : Cal P w K mg base CX0 3 "do_order" P_do_order (spDoOrder K C4 C6) := by
    obtain ⟨f, fd, F, m, k, b⟩ := d_do_order.ex
    exact ⟨f, fd, ok_do_order F B  (TS := TS) (TC := TC) (hL := hL) (g_LEADING := g_LEADING) (c_PlainCells_store := c_PlainCells_store) (c_figure_for := c_figure_for) (c_next_index := c_next_index), m, k, b⟩
  have c_Running : CCal P w K mg base CX0 4 C5 "Running" P_Running___init__ (spRnInit K C4 C5 C6) := by
    obtain ⟨f, fd, F, M, m, b⟩ := d_Running___init__.ex
    exact ⟨f, fd, ok_Running___init__ F B  (TS := TS) (TR := TR) (TC := TC) (c_Spot := c_Spot) (c_PlainCells := c_PlainCells), M, m, b⟩
  have c_Running_ahead : MCal P w K mg base CX0 3 C5 "ahead" P_Running_ahead (spAhead K C4 C5 C6) := by
    obtain ⟨f, fd, F, m, b⟩ := d_Running_ahead.ex
    exact ⟨f, fd, ok_Running_ahead F B  (TR := TR) (c_halting := c_halting), m, b⟩
  have c_Running_go : MCal P w K mg base CX0 4 C5 "go" P_Running_go (spGo K C4 C5 C6) := by
    obtain ⟨f, fd, F, m, b⟩ := d_Running_go.ex
    exact ⟨f, fd, ok_Running_go F B  (TS := TS) (TR := TR) (c_do_order := c_do_order), m, b⟩
  have c_Running_as_machine : MCal P w K mg base CX0 2 C5 "as_machine" P_Running_as_machine (spAsMach K C4 C5 C6) := by
    obtain ⟨f, fd, F, m, b⟩ := d_Running_as_machine.ex
    exact ⟨f, fd, ok_Running_as_machine F B  (TS := TS) (TR := TR) (TC := TC) (c_memory_tuple := c_memory_tuple), m, b⟩
  have c_is_code : Cal P w K mg base CX0 6 "is_code" P_is_code (spIsCode K) := by
    obtain ⟨f, fd, F, m, k, b⟩ := d_is_code.ex
    exact ⟨f, fd, ok_is_code F B  (c_is_a_code := c_is_a_code), m, k, b⟩
  have c_is_memory : Cal P w K mg base CX0 5 "is_memory" P_is_memory (spIsMem K) := by
    obtain ⟨f, fd, F, m, k, b⟩ := d_is_memory.ex
    exact ⟨f, fd, ok_is_memory F B  (c_is_a_memory := c_is_a_memory), m, k, b⟩
  have c_is_a_machine : Cal P w K mg base CX0 5 "is_a_machine" P_is_a_machine (spIsMach K) := by
    obtain ⟨f, fd, F, m, k, b⟩ := d_is_a_machine.ex
    exact ⟨f, fd, ok_is_a_machine F B  (c_is_from := c_is_from) (c_is_tuple := c_is_tuple) (c_is_figure := c_is_figure) (c_is_a_memory := c_is_a_memory) (g_REGISTERS := g_REGISTERS) (g_MOST_CALLS := g_MOST_CALLS), m, k, b⟩
  have c_is_machine : Cal P w K mg base CX0 6 "is_machine" P_is_machine (spIsMach K) := by
    obtain ⟨f, fd, F, m, k, b⟩ := d_is_machine.ex
    exact ⟨f, fd, ok_is_machine F B  (c_need_code := c_need_code) (c_is_a_machine := c_is_a_machine), m, k, b⟩
  have c_need_machine : Cal P w K mg base CX0 6 "need_machine" P_need_machine (spNeedMach K) := by
    obtain ⟨f, fd, F, m, k, b⟩ := d_need_machine.ex
    exact ⟨f, fd, ok_need_machine F B  (c_need_code := c_need_code) (c_is_a_machine := c_is_a_machine), m, k, b⟩
  have c_need_turns : Cal P w K mg base CX0 2 "need_turns" P_need_turns (spNeedTurns) := by
    obtain ⟨f, fd, F, m, k, b⟩ := d_need_turns.ex
    exact ⟨f, fd, ok_need_turns F B  (c_is_from := c_is_from), m, k, b⟩
  have c_first_machine : Cal P w K mg base CX0 6 "first_machine" P_first_machine (spFirst K) := by
    obtain ⟨f, fd, F, m, k, b⟩ := d_first_machine.ex
    exact ⟨f, fd, ok_first_machine F B  (c_need_memory := c_need_memory) (g_REGISTERS := g_REGISTERS), m, k, b⟩
  have c_turned : Cal P w K mg base CX0 7 "turned" P_turned (spTurn1 K) := by
    obtain ⟨f, fd, F, m, k, b⟩ := d_turned.ex
    exact ⟨f, fd, ok_turned F B  (TR := TR) (c_need_machine := c_need_machine) (c_Running := c_Running) (c_Running_ahead := c_Running_ahead) (c_Running_go := c_Running_go) (c_Running_as_machine := c_Running_as_machine), m, k, b⟩
  have c_run : Cal P w K mg base CX0 7 "run" P_run (spRun K) := by
    obtain ⟨f, fd, F, m, k, b⟩ := d_run.ex
    exact ⟨f, fd, ok_run F B  (TR := TR) (c_need_machine := c_need_machine) (c_need_turns := c_need_turns) (c_Running := c_Running) (c_Running_ahead := c_Running_ahead) (c_Running_go := c_Running_go) (c_Running_as_machine := c_Running_as_machine) (g_MOST_TURNS := g_MOST_TURNS), m, k, b⟩
  have ck_run : KCal P w K mg base CX0 7 "run" P_run ["turns", "machine", "code"] rev3 rev3 (spRun K) := by
    obtain ⟨f, fd, F, m, k, b⟩ := kd_run.ex
    exact ⟨f, fd, ok_run F B  (TR := TR) (c_need_machine := c_need_machine) (c_need_turns := c_need_turns) (c_Running := c_Running) (c_Running_ahead := c_Running_ahead) (c_Running_go := c_Running_go) (c_Running_as_machine := c_Running_as_machine) (g_MOST_TURNS := g_MOST_TURNS), m, k, b⟩
  have c__law_deck : Cal P w K mg base CX0 1 "_law_deck" P__law_deck (spDeck K) := by
    obtain ⟨f, fd, F, m, k, b⟩ := d__law_deck.ex
    exact ⟨f, fd, ok__law_deck F B  , m, k, b⟩
  have c__law_draw : Cal P w K mg base CX0 1 "_law_draw" P__law_draw (spDraw) := by
    obtain ⟨f, fd, F, m, k, b⟩ := d__law_draw.ex
    exact ⟨f, fd, ok__law_draw F B  , m, k, b⟩
  have c__law_pick : Cal P w K mg base CX0 2 "_law_pick" P__law_pick (spPick K) := by
    obtain ⟨f, fd, F, m, k, b⟩ := d__law_pick.ex
    exact ⟨f, fd, ok__law_pick F B  (c__law_draw := c__law_draw), m, k, b⟩
  have cs0 : Cal P w K mg base CX0 0 "_law_same" P__law_same (spSame K 0) := by
    obtain ⟨f, fd, F, m, k, b⟩ := d__law_same.ex
    exact same_0 m k b
  have cs1 : Cal P w K mg base CX0 1 "_law_same" P__law_same (spSame K 1) := by
    obtain ⟨f, fd, F, m, k, b⟩ := d__law_same.ex
    exact ⟨f, fd, ok__law_same F B (by decide) cs0, m, k, b⟩
  have cs2 : Cal P w K mg base CX0 2 "_law_same" P__law_same (spSame K 2) := by
    obtain ⟨f, fd, F, m, k, b⟩ := d__law_same.ex
    exact ⟨f, fd, ok__law_same F B (by decide) cs1, m, k, b⟩
  have cs3 : Cal P w K mg base CX0 3 "_law_same" P__law_same (spSame K 3) := by
    obtain ⟨f, fd, F, m, k, b⟩ := d__law_same.ex
    exact ⟨f, fd, ok__law_same F B (by decide) cs2, m, k, b⟩
  have cs4 : Cal P w K mg base CX0 4 "_law_same" P__law_same (spSame K 4) := by
    obtain ⟨f, fd, F, m, k, b⟩ := d__law_same.ex
    exact ⟨f, fd, ok__law_same F B (by decide) cs3, m, k, b⟩
  have cs5 : Cal P w K mg base CX0 5 "_law_same" P__law_same (spSame K 5) := by
    obtain ⟨f, fd, F, m, k, b⟩ := d__law_same.ex
    exact ⟨f, fd, ok__law_same F B (by decide) cs4, m, k, b⟩
  have c__law_same : Cal P w K mg base CX0 6 "_law_same" P__law_same (spSame K 6) := by
    obtain ⟨f, fd, F, m, k, b⟩ := d__law_same.ex
    exact ⟨f, fd, ok__law_same F B (by decide) cs5, m, k, b⟩
  have c__law_calls : Cal P w K mg base CX0 1 "_law_calls" P__law_calls (spWords K wordsL) := by
    obtain ⟨f, fd, F, m, k, b⟩ := d__law_calls.ex
    exact ⟨f, fd, ok__law_calls F B  , m, k, b⟩
  have c__law_words : Cal P w K mg base CX0 1 "_law_words" P__law_words (spWords K drawnL) := by
    obtain ⟨f, fd, F, m, k, b⟩ := d__law_words.ex
    exact ⟨f, fd, ok__law_words F B  , m, k, b⟩
  have c__law_figure : Cal P w K mg base CX0 2 "_law_figure" P__law_figure (spLFig) := by
    obtain ⟨f, fd, F, m, k, b⟩ := d__law_figure.ex
    exact ⟨f, fd, ok__law_figure F B  (c__law_draw := c__law_draw), m, k, b⟩
  have c__law_order : Cal P w K mg base CX0 3 "_law_order" P__law_order (spLOrd K) := by
    obtain ⟨f, fd, F, m, k, b⟩ := d__law_order.ex
    exact ⟨f, fd, ok__law_order F B  (c__law_draw := c__law_draw) (c__law_pick := c__law_pick) (c__law_calls := c__law_calls) (c__law_figure := c__law_figure), m, k, b⟩
  have c__law_reckoned : Cal P w K mg base CX0 1 "_law_reckoned" P__law_reckoned (spReck K) := by
    obtain ⟨f, fd, F, m, k, b⟩ := d__law_reckoned.ex
    exact ⟨f, fd, ok__law_reckoned F B  , m, k, b⟩
  have c__law_cells : Cal P w K mg base CX0 1 "_law_cells" P__law_cells (spLCells) := by
    obtain ⟨f, fd, F, m, k, b⟩ := d__law_cells.ex
    exact ⟨f, fd, ok__law_cells F B  , m, k, b⟩
  have c__law_at : Cal P w K mg base CX0 1 "_law_at" P__law_at (spLAt) := by
    obtain ⟨f, fd, F, m, k, b⟩ := d__law_at.ex
    exact ⟨f, fd, ok__law_at F B  , m, k, b⟩
  have c__law_next : Cal P w K mg base CX0 2 "_law_next" P__law_next (spLNext K) := by
    obtain ⟨f, fd, F, m, k, b⟩ := d__law_next.ex
    exact ⟨f, fd, ok__law_next F B  (c__law_cells := c__law_cells) (c__law_at := c__law_at) (c__law_reckoned := c__law_reckoned), m, k, b⟩
  have c__law_memory : Cal P w K mg base CX0 3 "_law_memory" P__law_memory (spLMem) := by
    obtain ⟨f, fd, F, m, k, b⟩ := d__law_memory.ex
    exact ⟨f, fd, ok__law_memory F B  (c__law_draw := c__law_draw) (c__law_cells := c__law_cells), m, k, b⟩
  have c__law_machine : Cal P w K mg base CX0 4 "_law_machine" P__law_machine (spLMach K) := by
    obtain ⟨f, fd, F, m, k, b⟩ := d__law_machine.ex
    exact ⟨f, fd, ok__law_machine F B  (c__law_draw := c__law_draw) (c__law_pick := c__law_pick) (c__law_figure := c__law_figure) (c__law_memory := c__law_memory), m, k, b⟩
  have c__law_followed : Cal P w K mg base CX0 8 "_law_followed" P__law_followed (spFollow K) := by
    obtain ⟨f, fd, F, m, k, b⟩ := d__law_followed.ex
    exact ⟨f, fd, ok__law_followed F B  (c__law_next := c__law_next) (c__law_same := c__law_same) (c_turned := c_turned) (c_run := c_run) (ck_run := ck_run) (c_is_machine := c_is_machine) (c_is_memory := c_is_memory), m, k, b⟩
  exact ok_law F B  (c__law_deck := c__law_deck) (c__law_draw := c__law_draw) (c__law_pick := c__law_pick) (c__law_words := c__law_words) (c__law_order := c__law_order) (c__law_machine := c__law_machine) (c_first_machine := c_first_machine) (c_is_code := c_is_code) (c__law_same := c__law_same) (c__law_followed := c__law_followed)
theorem gv_int {K : PySem.W.Frag} {h : Heap} {mg : Str → Option Value} {x : Str} {i : Int} {t : Tok} (X : K.In h) (G : h.Ns mainGlobals mg) (a : PySem.W.nsIn K mainGlobals x = some (some (.int i t))) : GV mg x (.int i) := ⟨_, PySem.W.mg_of X G a, t, rfl⟩
theorem gv_str {K : PySem.W.Frag} {h : Heap} {mg : Str → Option Value} {x y : Str} {t : Tok} (X : K.In h) (G : h.Ns mainGlobals mg) (a : PySem.W.nsIn K mainGlobals x = some (some (.str y t))) : GV mg x (.str y) := ⟨_, PySem.W.mg_of X G a, t, rfl⟩
theorem cls_Spot {K : PySem.W.Frag} {C : Addr} (pg : PySem.W.plainGet K C Str.empty = true) (hd : PySem.W.hasDictIn K C = true) (po : PySem.W.plainOver K C = true) (sa : PySem.W.findIn K (.ref C) "__setattr__" = some (some (.builtin "object.__setattr__"))) (n0 : PySem.W.findIn K (.ref C) "at" = some none) (n1 : PySem.W.findIn K (.ref C) "registers" = some none) (n2 : PySem.W.findIn K (.ref C) "calls" = some none) : SpC K C := ⟨⟨pg, hd, po, sa⟩, n0, n1, n2⟩
theorem cls_PlainCells {K : PySem.W.Frag} {C : Addr} (pg : PySem.W.plainGet K C Str.empty = true) (hd : PySem.W.hasDictIn K C = true) (po : PySem.W.plainOver K C = true) (sa : PySem.W.findIn K (.ref C) "__setattr__" = some (some (.builtin "object.__setattr__"))) (n0 : PySem.W.findIn K (.ref C) "kept" = some none) : PcC K C := ⟨⟨pg, hd, po, sa⟩, n0⟩
theorem cls_Running {K : PySem.W.Frag} {C : Addr} (pg : PySem.W.plainGet K C Str.empty = true) (hd : PySem.W.hasDictIn K C = true) (po : PySem.W.plainOver K C = true) (sa : PySem.W.findIn K (.ref C) "__setattr__" = some (some (.builtin "object.__setattr__"))) (n0 : PySem.W.findIn K (.ref C) "orders" = some none) (n1 : PySem.W.findIn K (.ref C) "spot" = some none) (n2 : PySem.W.findIn K (.ref C) "cells" = some none) : RnC K C := ⟨⟨pg, hd, po, sa⟩, n0, n1, n2⟩
theorem blt_at {K : PySem.W.Frag} {h : Heap} {mg : Str → Option Value} (X : K.In h) (G : h.Ns mainGlobals mg) (z_len : PySem.W.nsIn K mainGlobals "len" = some none) (z_int : PySem.W.nsIn K mainGlobals "int" = some none) (z_bool : PySem.W.nsIn K mainGlobals "bool" = some none) (z_str : PySem.W.nsIn K mainGlobals "str" = some none) (z_list : PySem.W.nsIn K mainGlobals "list" = some none) (z_tuple : PySem.W.nsIn K mainGlobals "tuple" = some none) (z_dict : PySem.W.nsIn K mainGlobals "dict" = some none) (z_isinstance : PySem.W.nsIn K mainGlobals "isinstance" = some none) (z_abs : PySem.W.nsIn K mainGlobals "abs" = some none) (z_max : PySem.W.nsIn K mainGlobals "max" = some none) (z_min : PySem.W.nsIn K mainGlobals "min" = some none) (z_all : PySem.W.nsIn K mainGlobals "all" = some none) (z_sorted : PySem.W.nsIn K mainGlobals "sorted" = some none) (z_range : PySem.W.nsIn K mainGlobals "range" = some none) (z_enumerate : PySem.W.nsIn K mainGlobals "enumerate" = some none) (z_zip : PySem.W.nsIn K mainGlobals "zip" = some none) : Blt mg := ⟨PySem.W.mg_none_of X G z_len, PySem.W.mg_none_of X G z_int, PySem.W.mg_none_of X G z_bool, PySem.W.mg_none_of X G z_str, PySem.W.mg_none_of X G z_list, PySem.W.mg_none_of X G z_tuple, PySem.W.mg_none_of X G z_dict, PySem.W.mg_none_of X G z_isinstance, PySem.W.mg_none_of X G z_abs, PySem.W.mg_none_of X G z_max, PySem.W.mg_none_of X G z_min, PySem.W.mg_none_of X G z_all, PySem.W.mg_none_of X G z_sorted, PySem.W.mg_none_of X G z_range, PySem.W.mg_none_of X G z_enumerate, PySem.W.mg_none_of X G z_zip⟩
theorem walk {l : PySem.W.OpenLaw} {q : Program} {loose : List Str} {XP : (Str → Option Value) → Heap → Prop} {YP : World → Heap → Prop} {d : DefRec} {K : Params → PySem.W.Frag} (hn : l.most = some 63) (hdf : d.params.defaults = [])
    (hY : ∀ (w : World) (h : Heap), YP w h → (K w.params).In h)
    (F : ∀ (w : World) (mg : Str → Option Value) (fa : Addr) (h : Heap), (K w.params).In h → h.Ns mainGlobals mg → mg d.name = some (.ref fa) →
      ∃ fd : FuncData, (∀ (s : Shared) (u : Value), BindsTo s fd ⟨[u], []⟩ [("script", u)]) ∧ ∀ base : Heap, (K w.params).In base → base.Ns mainGlobals mg → FnOk l.prog w (K w.params) mg base CX0 9 fa fd ["script"] (spLawK00 (K w.params))) :
    PySem.W.WalkO q loose XP YP l.row.toRowW d [] (fun f vs => PySem.call f vs) :=
  L2.walk_of (n := 63) (k := 9) (x := "script") (CX := fun _ => CX0) (sp := fun w => spLawK00 (K w.params)) hn (by decide) hdf ⟨rfl, by decide, by decide⟩ hY F (fun _ _ a ns hl _ hS => ⟨a, ns, rfl, hS, hl, fun _ => rfl⟩) fun _ _ _ _ _ z => z
theorem law_at {P : Program} {w : World} {K : PySem.W.Frag} {h : Heap} {mg : Str → Option Value} {fa f : Addr} {od an : Option Addr} {sl : Array (Option Value)} {oc kV dc pm cd ct : Value} (X : K.In h) (G : h.Ns mainGlobals mg) (hfa : mg "law" = some (.ref fa)) (a : PySem.W.nsIn K mainGlobals "law" = some (some (.ref f))) (l : K.lookup f = some ⟨oc, od, .func (PySem.W.fnOf "law" "law" (defArgs s_law) (defBody s_law) (defScope s_law) .none kV dc pm an cd ct), sl⟩) (c : PySem.W.codeIn K cd "law" = true) (k : PySem.W.keepIn K (.ref f) = true)
    (ok : ∀ (base : Heap) {fd : FuncData}, Fun K "law" "law" s_law f fd → FnOk P w K mg base CX0 9 f fd P_law (spLawK00 K)) :
    ∃ fd : FuncData, (∀ (s : Shared) (u : Value), BindsTo s fd ⟨[u], []⟩ [("script", u)]) ∧ ∀ base : Heap, K.In base → base.Ns mainGlobals mg → FnOk P w K mg base CX0 9 fa fd ["script"] (spLawK00 K) := by
  have e := hfa.symm.trans (PySem.W.mg_of X G a)
  cases e
  exact ⟨_, fun s v => .of_eq rfl, fun base _ _ => ok base (fun_mk l c k)⟩
theorem all_mk {P : Program} {w : World} {K : PySem.W.Frag} {h : Heap} {mg : Str → Option Value} {fa : Addr} (X : K.In h) (G : h.Ns mainGlobals mg) (hfa : mg "law" = some (.ref fa))
    {C4 : Addr}
    {C6 : Addr}
    {C5 : Addr}
    {f0 : Addr} {od0 an0 : Option Addr} {sl0 : Array (Option Value)} {oc0 kV0 dc0 pm0 cd0 ct0 : Value}
    {f1 : Addr} {od1 an1 : Option Addr} {sl1 : Array (Option Value)} {oc1 kV1 dc1 pm1 cd1 ct1 : Value}
    {f2 : Addr} {od2 an2 : Option Addr} {sl2 : Array (Option Value)} {oc2 kV2 dc2 pm2 cd2 ct2 : Value}
    {f3 : Addr} {od3 an3 : Option Addr} {sl3 : Array (Option Value)} {oc3 kV3 dc3 pm3 cd3 ct3 : Value}
    {f4 : Addr} {od4 an4 : Option Addr} {sl4 : Array (Option Value)} {oc4 kV4 dc4 pm4 cd4 ct4 : Value}
    {f5 : Addr} {od5 an5 : Option Addr} {sl5 : Array (Option Value)} {oc5 kV5 dc5 pm5 cd5 ct5 : Value}
    {f6 : Addr} {od6 an6 : Option Addr} {sl6 : Array (Option Value)} {oc6 kV6 dc6 pm6 cd6 ct6 : Value}
    {f7 : Addr} {od7 an7 : Option Addr} {sl7 : Array (Option Value)} {oc7 kV7 dc7 pm7 cd7 ct7 : Value}
    {f8 : Addr} {od8 an8 : Option Addr} {sl8 : Array (Option Value)} {oc8 kV8 dc8 pm8 cd8 ct8 : Value}
    {f9 : Addr} {od9 an9 : Option Addr} {sl9 : Array (Option Value)} {oc9 kV9 dc9 pm9 cd9 ct9 : Value}
    {f10 : Addr} {od10 an10 : Option Addr} {sl10 : Array (Option Value)} {oc10 kV10 dc10 pm10 cd10 ct10 : Value}
    {f11 : Addr} {od11 an11 : Option Addr} {sl11 : Array (Option Value)} {oc11 kV11 dc11 pm11 cd11 ct11 : Value}
    {f12 : Addr} {od12 an12 : Option Addr} {sl12 : Array (Option Value)} {oc12 kV12 dc12 pm12 cd12 ct12 : Value}
    {f13 : Addr} {od13 an13 : Option Addr} {sl13 : Array (Option Value)} {oc13 kV13 dc13 pm13 cd13 ct13 : Value}
    {f14 : Addr} {od14 an14 : Option Addr} {sl14 : Array (Option Value)} {oc14 kV14 dc14 pm14 cd14 ct14 : Value}
    {f15 : Addr} {od15 an15 : Option Addr} {sl15 : Array (Option Value)} {oc15 kV15 dc15 pm15 cd15 ct15 : Value}
    {f16 : Addr} {od16 an16 : Option Addr} {sl16 : Array (Option Value)} {oc16 kV16 dc16 pm16 cd16 ct16 : Value}
    {f17 : Addr} {od17 an17 : Option Addr} {sl17 : Array (Option Value)} {oc17 kV17 dc17 pm17 cd17 ct17 : Value}
    {f18 : Addr} {od18 an18 : Option Addr} {sl18 : Array (Option Value)} {oc18 kV18 dc18 pm18 cd18 ct18 : Value}
    {f19 : Addr} {od19 an19 : Option Addr} {sl19 : Array (Option Value)} {oc19 kV19 dc19 pm19 cd19 ct19 : Value}
    {f20 : Addr} {od20 an20 : Option Addr} {sl20 : Array (Option Value)} {oc20 kV20 dc20 pm20 cd20 ct20 : Value}
    {f21 : Addr} {od21 an21 : Option Addr} {sl21 : Array (Option Value)} {oc21 kV21 dc21 pm21 cd21 ct21 : Value}
    {f22 : Addr} {od22 an22 : Option Addr} {sl22 : Array (Option Value)} {oc22 kV22 dc22 pm22 cd22 ct22 : Value}
    {f23 : Addr} {od23 an23 : Option Addr} {sl23 : Array (Option Value)} {oc23 kV23 dc23 pm23 cd23 ct23 : Value}
    {f24 : Addr} {od24 an24 : Option Addr} {sl24 : Array (Option Value)} {oc24 kV24 dc24 pm24 cd24 ct24 : Value}
    {f25 : Addr} {od25 an25 : Option Addr} {sl25 : Array (Option Value)} {oc25 kV25 dc25 pm25 cd25 ct25 : Value}
    {f26 : Addr} {od26 an26 : Option Addr} {sl26 : Array (Option Value)} {oc26 kV26 dc26 pm26 cd26 ct26 : Value}
    {f27 : Addr} {od27 an27 : Option Addr} {sl27 : Array (Option Value)} {oc27 kV27 dc27 pm27 cd27 ct27 : Value}
    {f28 : Addr} {od28 an28 : Option Addr} {sl28 : Array (Option Value)} {oc28 kV28 dc28 pm28 cd28 ct28 : Value}
    {f29 : Addr} {od29 an29 : Option Addr} {sl29 : Array (Option Value)} {oc29 kV29 dc29 pm29 cd29 ct29 : Value}
    {f30 : Addr} {od30 an30 : Option Addr} {sl30 : Array (Option Value)} {oc30 kV30 dc30 pm30 cd30 ct30 : Value}
    {f31 : Addr} {od31 an31 : Option Addr} {sl31 : Array (Option Value)} {oc31 kV31 dc31 pm31 cd31 ct31 : Value}
    {f32 : Addr} {od32 an32 : Option Addr} {sl32 : Array (Option Value)} {oc32 kV32 dc32 pm32 cd32 ct32 : Value}
    {f33 : Addr} {od33 an33 : Option Addr} {sl33 : Array (Option Value)} {oc33 kV33 dc33 pm33 cd33 ct33 : Value}
    {f34 : Addr} {od34 an34 : Option Addr} {sl34 : Array (Option Value)} {oc34 kV34 dc34 pm34 cd34 ct34 : Value}
    {f35 : Addr} {od35 an35 : Option Addr} {sl35 : Array (Option Value)} {oc35 kV35 dc35 pm35 cd35 ct35 : Value}
    {f36 : Addr} {od36 an36 : Option Addr} {sl36 : Array (Option Value)} {oc36 kV36 dc36 pm36 cd36 ct36 : Value}
    {f37 : Addr} {od37 an37 : Option Addr} {sl37 : Array (Option Value)} {oc37 kV37 dc37 pm37 cd37 ct37 : Value}
    {f38 : Addr} {od38 an38 : Option Addr} {sl38 : Array (Option Value)} {oc38 kV38 dc38 pm38 cd38 ct38 : Value}
    {f39 : Addr} {od39 an39 : Option Addr} {sl39 : Array (Option Value)} {oc39 kV39 dc39 pm39 cd39 ct39 : Value}
    {f40 : Addr} {od40 an40 : Option Addr} {sl40 : Array (Option Value)} {oc40 kV40 dc40 pm40 cd40 ct40 : Value}
    {f41 : Addr} {od41 an41 : Option Addr} {sl41 : Array (Option Value)} {oc41 kV41 dc41 pm41 cd41 ct41 : Value}
    {f42 : Addr} {od42 an42 : Option Addr} {sl42 : Array (Option Value)} {oc42 kV42 dc42 pm42 cd42 ct42 : Value}
    {f43 : Addr} {od43 an43 : Option Addr} {sl43 : Array (Option Value)} {oc43 kV43 dc43 pm43 cd43 ct43 : Value}
    {f44 : Addr} {od44 an44 : Option Addr} {sl44 : Array (Option Value)} {oc44 kV44 dc44 pm44 cd44 ct44 : Value}
    {f45 : Addr} {od45 an45 : Option Addr} {sl45 : Array (Option Value)} {oc45 kV45 dc45 pm45 cd45 ct45 : Value}
    {f46 : Addr} {od46 an46 : Option Addr} {sl46 : Array (Option Value)} {oc46 kV46 dc46 pm46 cd46 ct46 : Value}
    {f47 : Addr} {od47 an47 : Option Addr} {sl47 : Array (Option Value)} {oc47 kV47 dc47 pm47 cd47 ct47 : Value}
    {f48 : Addr} {od48 an48 : Option Addr} {sl48 : Array (Option Value)} {oc48 kV48 dc48 pm48 cd48 ct48 : Value}
    {f49 : Addr} {od49 an49 : Option Addr} {sl49 : Array (Option Value)} {oc49 kV49 dc49 pm49 cd49 ct49 : Value}
    {f50 : Addr} {od50 an50 : Option Addr} {sl50 : Array (Option Value)} {oc50 kV50 dc50 pm50 cd50 ct50 : Value}
    {f51 : Addr} {od51 an51 : Option Addr} {sl51 : Array (Option Value)} {oc51 kV51 dc51 pm51 cd51 ct51 : Value}
    {f52 : Addr} {od52 an52 : Option Addr} {sl52 : Array (Option Value)} {oc52 kV52 dc52 pm52 cd52 ct52 : Value}
    {f53 : Addr} {od53 an53 : Option Addr} {sl53 : Array (Option Value)} {oc53 kV53 dc53 pm53 cd53 ct53 : Value}
    {t_CELLS : Tok}
    {t_FIGURE : Tok}
    {t_MODULUS : Tok}
    {t_MOST_CALLS : Tok}
    {t_MOST_FIGURE : Tok}
    {t_MOST_NUMBER : Tok}
    {t_MOST_ORDERS : Tok}
    {t_MOST_TURNS : Tok}
    {t_PLACE : Tok}
    {t_REGISTER : Tok}
    {t_REGISTERS : Tok}
    {aW : Addr} {od_aW : Option Addr} {its_aW : Array Value} {n_aW : Nat} {sl_aW : Array (Option Value)}
    {aL : Addr} {od_aL : Option Addr} {its_aL : Array Value} {n_aL : Nat} {sl_aL : Array (Option Value)}
    {dF : Addr} {esF : Array DictEntry} {nF : Nat} {fa0 : Addr} {fo0 : Option Addr} {fi0 : Array Value} {fn0 : Nat} {fs0 : Array (Option Value)} {fa1 : Addr} {fo1 : Option Addr} {fi1 : Array Value} {fn1 : Nat} {fs1 : Array (Option Value)} {fa2 : Addr} {fo2 : Option Addr} {fi2 : Array Value} {fn2 : Nat} {fs2 : Array (Option Value)} {fa3 : Addr} {fo3 : Option Addr} {fi3 : Array Value} {fn3 : Nat} {fs3 : Array (Option Value)} {fa4 : Addr} {fo4 : Option Addr} {fi4 : Array Value} {fn4 : Nat} {fs4 : Array (Option Value)} {fa5 : Addr} {fo5 : Option Addr} {fi5 : Array Value} {fn5 : Nat} {fs5 : Array (Option Value)} {fa6 : Addr} {fo6 : Option Addr} {fi6 : Array Value} {fn6 : Nat} {fs6 : Array (Option Value)} {fa7 : Addr} {fo7 : Option Addr} {fi7 : Array Value} {fn7 : Nat} {fs7 : Array (Option Value)} {fa8 : Addr} {fo8 : Option Addr} {fi8 : Array Value} {fn8 : Nat} {fs8 : Array (Option Value)} {fa9 : Addr} {fo9 : Option Addr} {fi9 : Array Value} {fn9 : Nat} {fs9 : Array (Option Value)} {fa10 : Addr} {fo10 : Option Addr} {fi10 : Array Value} {fn10 : Nat} {fs10 : Array (Option Value)} {fa11 : Addr} {fo11 : Option Addr} {fi11 : Array Value} {fn11 : Nat} {fs11 : Array (Option Value)} {fa12 : Addr} {fo12 : Option Addr} {fi12 : Array Value} {fn12 : Nat} {fs12 : Array (Option Value)} {fa13 : Addr} {fo13 : Option Addr} {fi13 : Array Value} {fn13 : Nat} {fs13 : Array (Option Value)} {fa14 : Addr} {fo14 : Option Addr} {fi14 : Array Value} {fn14 : Nat} {fs14 : Array (Option Value)} {fa15 : Addr} {fo15 : Option Addr} {fi15 : Array Value} {fn15 : Nat} {fs15 : Array (Option Value)} {fa16 : Addr} {fo16 : Option Addr} {fi16 : Array Value} {fn16 : Nat} {fs16 : Array (Option Value)}
    (aC_Spot : PySem.W.nsIn K mainGlobals "Spot" = some (some (.ref C4)))
    (pg_Spot : PySem.W.plainGet K C4 Str.empty = true)
    (hd_Spot : PySem.W.hasDictIn K C4 = true)
    (po_Spot : PySem.W.plainOver K C4 = true)
    (sa_Spot : PySem.W.findIn K (.ref C4) "__setattr__" = some (some (.builtin "object.__setattr__")))
    (n0_Spot : PySem.W.findIn K (.ref C4) "at" = some none)
    (n1_Spot : PySem.W.findIn K (.ref C4) "registers" = some none)
    (n2_Spot : PySem.W.findIn K (.ref C4) "calls" = some none)
    (mk_Spot : PySem.W.makesIn K C4 = true)
    (kc_Spot : PySem.W.keepIn K (.ref C4) = true)
    (aC_PlainCells : PySem.W.nsIn K mainGlobals "PlainCells" = some (some (.ref C6)))
    (pg_PlainCells : PySem.W.plainGet K C6 Str.empty = true)
    (hd_PlainCells : PySem.W.hasDictIn K C6 = true)
    (po_PlainCells : PySem.W.plainOver K C6 = true)
    (sa_PlainCells : PySem.W.findIn K (.ref C6) "__setattr__" = some (some (.builtin "object.__setattr__")))
    (n0_PlainCells : PySem.W.findIn K (.ref C6) "kept" = some none)
    (mk_PlainCells : PySem.W.makesIn K C6 = true)
    (kc_PlainCells : PySem.W.keepIn K (.ref C6) = true)
    (aC_Running : PySem.W.nsIn K mainGlobals "Running" = some (some (.ref C5)))
    (pg_Running : PySem.W.plainGet K C5 Str.empty = true)
    (hd_Running : PySem.W.hasDictIn K C5 = true)
    (po_Running : PySem.W.plainOver K C5 = true)
    (sa_Running : PySem.W.findIn K (.ref C5) "__setattr__" = some (some (.builtin "object.__setattr__")))
    (n0_Running : PySem.W.findIn K (.ref C5) "orders" = some none)
    (n1_Running : PySem.W.findIn K (.ref C5) "spot" = some none)
    (n2_Running : PySem.W.findIn K (.ref C5) "cells" = some none)
    (mk_Running : PySem.W.makesIn K C5 = true)
    (kc_Running : PySem.W.keepIn K (.ref C5) = true)
    (a0 : PySem.W.nsIn K mainGlobals "is_from" = some (some (.ref f0)))
    (l0 : K.lookup f0 = some ⟨oc0, od0, .func (PySem.W.fnOf "is_from" "is_from" (defArgs s_is_from) (defBody s_is_from) (defScope s_is_from) .none kV0 dc0 pm0 an0 cd0 ct0), sl0⟩)
    (c0 : PySem.W.codeIn K cd0 "is_from" = true)
    (k0 : PySem.W.keepIn K (.ref f0) = true)
    (a1 : PySem.W.nsIn K mainGlobals "is_tuple" = some (some (.ref f1)))
    (l1 : K.lookup f1 = some ⟨oc1, od1, .func (PySem.W.fnOf "is_tuple" "is_tuple" (defArgs s_is_tuple) (defBody s_is_tuple) (defScope s_is_tuple) .none kV1 dc1 pm1 an1 cd1 ct1), sl1⟩)
    (c1 : PySem.W.codeIn K cd1 "is_tuple" = true)
    (k1 : PySem.W.keepIn K (.ref f1) = true)
    (a2 : PySem.W.nsIn K mainGlobals "is_figure" = some (some (.ref f2)))
    (l2 : K.lookup f2 = some ⟨oc2, od2, .func (PySem.W.fnOf "is_figure" "is_figure" (defArgs s_is_figure) (defBody s_is_figure) (defScope s_is_figure) .none kV2 dc2 pm2 an2 cd2 ct2), sl2⟩)
    (c2 : PySem.W.codeIn K cd2 "is_figure" = true)
    (k2 : PySem.W.keepIn K (.ref f2) = true)
    (a3 : PySem.W.nsIn K mainGlobals "is_address" = some (some (.ref f3)))
    (l3 : K.lookup f3 = some ⟨oc3, od3, .func (PySem.W.fnOf "is_address" "is_address" (defArgs s_is_address) (defBody s_is_address) (defScope s_is_address) .none kV3 dc3 pm3 an3 cd3 ct3), sl3⟩)
    (c3 : PySem.W.codeIn K cd3 "is_address" = true)
    (k3 : PySem.W.keepIn K (.ref f3) = true)
    (a4 : PySem.W.nsIn K mainGlobals "is_register" = some (some (.ref f4)))
    (l4 : K.lookup f4 = some ⟨oc4, od4, .func (PySem.W.fnOf "is_register" "is_register" (defArgs s_is_register) (defBody s_is_register) (defScope s_is_register) .none kV4 dc4 pm4 an4 cd4 ct4), sl4⟩)
    (c4 : PySem.W.codeIn K cd4 "is_register" = true)
    (k4 : PySem.W.keepIn K (.ref f4) = true)
    (a5 : PySem.W.nsIn K mainGlobals "memory_dict" = some (some (.ref f5)))
    (l5 : K.lookup f5 = some ⟨oc5, od5, .func (PySem.W.fnOf "memory_dict" "memory_dict" (defArgs s_memory_dict) (defBody s_memory_dict) (defScope s_memory_dict) .none kV5 dc5 pm5 an5 cd5 ct5), sl5⟩)
    (c5 : PySem.W.codeIn K cd5 "memory_dict" = true)
    (k5 : PySem.W.keepIn K (.ref f5) = true)
    (a6 : PySem.W.nsIn K mainGlobals "memory_tuple" = some (some (.ref f6)))
    (l6 : K.lookup f6 = some ⟨oc6, od6, .func (PySem.W.fnOf "memory_tuple" "memory_tuple" (defArgs s_memory_tuple) (defBody s_memory_tuple) (defScope s_memory_tuple) .none kV6 dc6 pm6 an6 cd6 ct6), sl6⟩)
    (c6 : PySem.W.codeIn K cd6 "memory_tuple" = true)
    (k6 : PySem.W.keepIn K (.ref f6) = true)
    (a7 : PySem.W.nsIn K mainGlobals "is_cell" = some (some (.ref f7)))
    (l7 : K.lookup f7 = some ⟨oc7, od7, .func (PySem.W.fnOf "is_cell" "is_cell" (defArgs s_is_cell) (defBody s_is_cell) (defScope s_is_cell) .none kV7 dc7 pm7 an7 cd7 ct7), sl7⟩)
    (c7 : PySem.W.codeIn K cd7 "is_cell" = true)
    (k7 : PySem.W.keepIn K (.ref f7) = true)
    (a8 : PySem.W.nsIn K mainGlobals "is_a_memory" = some (some (.ref f8)))
    (l8 : K.lookup f8 = some ⟨oc8, od8, .func (PySem.W.fnOf "is_a_memory" "is_a_memory" (defArgs s_is_a_memory) (defBody s_is_a_memory) (defScope s_is_a_memory) .none kV8 dc8 pm8 an8 cd8 ct8), sl8⟩)
    (c8 : PySem.W.codeIn K cd8 "is_a_memory" = true)
    (k8 : PySem.W.keepIn K (.ref f8) = true)
    (a9 : PySem.W.nsIn K mainGlobals "need_memory" = some (some (.ref f9)))
    (l9 : K.lookup f9 = some ⟨oc9, od9, .func (PySem.W.fnOf "need_memory" "need_memory" (defArgs s_need_memory) (defBody s_need_memory) (defScope s_need_memory) .none kV9 dc9 pm9 an9 cd9 ct9), sl9⟩)
    (c9 : PySem.W.codeIn K cd9 "need_memory" = true)
    (k9 : PySem.W.keepIn K (.ref f9) = true)
    (a10 : PySem.W.nsIn K mainGlobals "kinds_behind" = some (some (.ref f10)))
    (l10 : K.lookup f10 = some ⟨oc10, od10, .func (PySem.W.fnOf "kinds_behind" "kinds_behind" (defArgs s_kinds_behind) (defBody s_kinds_behind) (defScope s_kinds_behind) .none kV10 dc10 pm10 an10 cd10 ct10), sl10⟩)
    (c10 : PySem.W.codeIn K cd10 "kinds_behind" = true)
    (k10 : PySem.W.keepIn K (.ref f10) = true)
    (a11 : PySem.W.nsIn K mainGlobals "is_plain_part" = some (some (.ref f11)))
    (l11 : K.lookup f11 = some ⟨oc11, od11, .func (PySem.W.fnOf "is_plain_part" "is_plain_part" (defArgs s_is_plain_part) (defBody s_is_plain_part) (defScope s_is_plain_part) .none kV11 dc11 pm11 an11 cd11 ct11), sl11⟩)
    (c11 : PySem.W.codeIn K cd11 "is_plain_part" = true)
    (k11 : PySem.W.keepIn K (.ref f11) = true)
    (a12 : PySem.W.nsIn K mainGlobals "is_order" = some (some (.ref f12)))
    (l12 : K.lookup f12 = some ⟨oc12, od12, .func (PySem.W.fnOf "is_order" "is_order" (defArgs s_is_order) (defBody s_is_order) (defScope s_is_order) .none kV12 dc12 pm12 an12 cd12 ct12), sl12⟩)
    (c12 : PySem.W.codeIn K cd12 "is_order" = true)
    (k12 : PySem.W.keepIn K (.ref f12) = true)
    (a13 : PySem.W.nsIn K mainGlobals "is_a_code" = some (some (.ref f13)))
    (l13 : K.lookup f13 = some ⟨oc13, od13, .func (PySem.W.fnOf "is_a_code" "is_a_code" (defArgs s_is_a_code) (defBody s_is_a_code) (defScope s_is_a_code) .none kV13 dc13 pm13 an13 cd13 ct13), sl13⟩)
    (c13 : PySem.W.codeIn K cd13 "is_a_code" = true)
    (k13 : PySem.W.keepIn K (.ref f13) = true)
    (a14 : PySem.W.nsIn K mainGlobals "need_code" = some (some (.ref f14)))
    (l14 : K.lookup f14 = some ⟨oc14, od14, .func (PySem.W.fnOf "need_code" "need_code" (defArgs s_need_code) (defBody s_need_code) (defScope s_need_code) .none kV14 dc14 pm14 an14 cd14 ct14), sl14⟩)
    (c14 : PySem.W.codeIn K cd14 "need_code" = true)
    (k14 : PySem.W.keepIn K (.ref f14) = true)
    (a15 : PySem.W.findIn K (.ref C4) "__init__" = some (some (.ref f15)))
    (i15 : PySem.W.isFn K (.ref f15) = true)
    (l15 : K.lookup f15 = some ⟨oc15, od15, .func (PySem.W.fnOf "__init__" "Spot.__init__" (defArgs s_Spot___init__) (defBody s_Spot___init__) (defScope s_Spot___init__) .none kV15 dc15 pm15 an15 cd15 ct15), sl15⟩)
    (c15 : PySem.W.codeIn K cd15 "Spot.__init__" = true)
    (k15 : PySem.W.keepIn K (.ref f15) = true)
    (a16 : PySem.W.nsIn K mainGlobals "address_in" = some (some (.ref f16)))
    (l16 : K.lookup f16 = some ⟨oc16, od16, .func (PySem.W.fnOf "address_in" "address_in" (defArgs s_address_in) (defBody s_address_in) (defScope s_address_in) .none kV16 dc16 pm16 an16 cd16 ct16), sl16⟩)
    (c16 : PySem.W.codeIn K cd16 "address_in" = true)
    (k16 : PySem.W.keepIn K (.ref f16) = true)
    (a17 : PySem.W.nsIn K mainGlobals "halting" = some (some (.ref f17)))
    (l17 : K.lookup f17 = some ⟨oc17, od17, .func (PySem.W.fnOf "halting" "halting" (defArgs s_halting) (defBody s_halting) (defScope s_halting) .none kV17 dc17 pm17 an17 cd17 ct17), sl17⟩)
    (c17 : PySem.W.codeIn K cd17 "halting" = true)
    (k17 : PySem.W.keepIn K (.ref f17) = true)
    (a18 : PySem.W.nsIn K mainGlobals "joined" = some (some (.ref f18)))
    (l18 : K.lookup f18 = some ⟨oc18, od18, .func (PySem.W.fnOf "joined" "joined" (defArgs s_joined) (defBody s_joined) (defScope s_joined) .none kV18 dc18 pm18 an18 cd18 ct18), sl18⟩)
    (c18 : PySem.W.codeIn K cd18 "joined" = true)
    (k18 : PySem.W.keepIn K (.ref f18) = true)
    (a19 : PySem.W.findIn K (.ref C6) "__init__" = some (some (.ref f19)))
    (i19 : PySem.W.isFn K (.ref f19) = true)
    (l19 : K.lookup f19 = some ⟨oc19, od19, .func (PySem.W.fnOf "__init__" "PlainCells.__init__" (defArgs s_PlainCells___init__) (defBody s_PlainCells___init__) (defScope s_PlainCells___init__) .none kV19 dc19 pm19 an19 cd19 ct19), sl19⟩)
    (c19 : PySem.W.codeIn K cd19 "PlainCells.__init__" = true)
    (k19 : PySem.W.keepIn K (.ref f19) = true)
    (a20 : PySem.W.findIn K (.ref C6) "load" = some (some (.ref f20)))
    (i20 : PySem.W.isFn K (.ref f20) = true)
    (l20 : K.lookup f20 = some ⟨oc20, od20, .func (PySem.W.fnOf "load" "PlainCells.load" (defArgs s_PlainCells_load) (defBody s_PlainCells_load) (defScope s_PlainCells_load) .none kV20 dc20 pm20 an20 cd20 ct20), sl20⟩)
    (c20 : PySem.W.codeIn K cd20 "PlainCells.load" = true)
    (k20 : PySem.W.keepIn K (.ref f20) = true)
    (a21 : PySem.W.findIn K (.ref C6) "store" = some (some (.ref f21)))
    (i21 : PySem.W.isFn K (.ref f21) = true)
    (l21 : K.lookup f21 = some ⟨oc21, od21, .func (PySem.W.fnOf "store" "PlainCells.store" (defArgs s_PlainCells_store) (defBody s_PlainCells_store) (defScope s_PlainCells_store) .none kV21 dc21 pm21 an21 cd21 ct21), sl21⟩)
    (c21 : PySem.W.codeIn K cd21 "PlainCells.store" = true)
    (k21 : PySem.W.keepIn K (.ref f21) = true)
    (a22 : PySem.W.nsIn K mainGlobals "figure_for" = some (some (.ref f22)))
    (l22 : K.lookup f22 = some ⟨oc22, od22, .func (PySem.W.fnOf "figure_for" "figure_for" (defArgs s_figure_for) (defBody s_figure_for) (defScope s_figure_for) .none kV22 dc22 pm22 an22 cd22 ct22), sl22⟩)
    (c22 : PySem.W.codeIn K cd22 "figure_for" = true)
    (k22 : PySem.W.keepIn K (.ref f22) = true)
    (a23 : PySem.W.nsIn K mainGlobals "next_index" = some (some (.ref f23)))
    (l23 : K.lookup f23 = some ⟨oc23, od23, .func (PySem.W.fnOf "next_index" "next_index" (defArgs s_next_index) (defBody s_next_index) (defScope s_next_index) .none kV23 dc23 pm23 an23 cd23 ct23), sl23⟩)
    (c23 : PySem.W.codeIn K cd23 "next_index" = true)
    (k23 : PySem.W.keepIn K (.ref f23) = true)
    (a24 : PySem.W.nsIn K mainGlobals "do_order" = some (some (.ref f24)))
    (l24 : K.lookup f24 = some ⟨oc24, od24, .func (PySem.W.fnOf "do_order" "do_order" (defArgs s_do_order) (defBody s_do_order) (defScope s_do_order) .none kV24 dc24 pm24 an24 cd24 ct24), sl24⟩)
    (c24 : PySem.W.codeIn K cd24 "do_order" = true)
    (k24 : PySem.W.keepIn K (.ref f24) = true)
    (a25 : PySem.W.findIn K (.ref C5) "__init__" = some (some (.ref f25)))
    (i25 : PySem.W.isFn K (.ref f25) = true)
    (l25 : K.lookup f25 = some ⟨oc25, od25, .func (PySem.W.fnOf "__init__" "Running.__init__" (defArgs s_Running___init__) (defBody s_Running___init__) (defScope s_Running___init__) .none kV25 dc25 pm25 an25 cd25 ct25), sl25⟩)
    (c25 : PySem.W.codeIn K cd25 "Running.__init__" = true)
    (k25 : PySem.W.keepIn K (.ref f25) = true)
    (a26 : PySem.W.findIn K (.ref C5) "ahead" = some (some (.ref f26)))
    (i26 : PySem.W.isFn K (.ref f26) = true)
    (l26 : K.lookup f26 = some ⟨oc26, od26, .func (PySem.W.fnOf "ahead" "Running.ahead" (defArgs s_Running_ahead) (defBody s_Running_ahead) (defScope s_Running_ahead) .none kV26 dc26 pm26 an26 cd26 ct26), sl26⟩)
    (c26 : PySem.W.codeIn K cd26 "Running.ahead" = true)
    (k26 : PySem.W.keepIn K (.ref f26) = true)
    (a27 : PySem.W.findIn K (.ref C5) "go" = some (some (.ref f27)))
    (i27 : PySem.W.isFn K (.ref f27) = true)
    (l27 : K.lookup f27 = some ⟨oc27, od27, .func (PySem.W.fnOf "go" "Running.go" (defArgs s_Running_go) (defBody s_Running_go) (defScope s_Running_go) .none kV27 dc27 pm27 an27 cd27 ct27), sl27⟩)
    (c27 : PySem.W.codeIn K cd27 "Running.go" = true)
    (k27 : PySem.W.keepIn K (.ref f27) = true)
    (a28 : PySem.W.findIn K (.ref C5) "as_machine" = some (some (.ref f28)))
    (i28 : PySem.W.isFn K (.ref f28) = true)
    (l28 : K.lookup f28 = some ⟨oc28, od28, .func (PySem.W.fnOf "as_machine" "Running.as_machine" (defArgs s_Running_as_machine) (defBody s_Running_as_machine) (defScope s_Running_as_machine) .none kV28 dc28 pm28 an28 cd28 ct28), sl28⟩)
    (c28 : PySem.W.codeIn K cd28 "Running.as_machine" = true)
    (k28 : PySem.W.keepIn K (.ref f28) = true)
    (a29 : PySem.W.nsIn K mainGlobals "is_code" = some (some (.ref f29)))
    (l29 : K.lookup f29 = some ⟨oc29, od29, .func (PySem.W.fnOf "is_code" "is_code" (defArgs s_is_code) (defBody s_is_code) (defScope s_is_code) .none kV29 dc29 pm29 an29 cd29 ct29), sl29⟩)
    (c29 : PySem.W.codeIn K cd29 "is_code" = true)
    (k29 : PySem.W.keepIn K (.ref f29) = true)
    (a30 : PySem.W.nsIn K mainGlobals "is_memory" = some (some (.ref f30)))
    (l30 : K.lookup f30 = some ⟨oc30, od30, .func (PySem.W.fnOf "is_memory" "is_memory" (defArgs s_is_memory) (defBody s_is_memory) (defScope s_is_memory) .none kV30 dc30 pm30 an30 cd30 ct30), sl30⟩)
    (c30 : PySem.W.codeIn K cd30 "is_memory" = true)
    (k30 : PySem.W.keepIn K (.ref f30) = true)
    (a31 : PySem.W.nsIn K mainGlobals "is_a_machine" = some (some (.ref f31)))
    (l31 : K.lookup f31 = some ⟨oc31, od31, .func (PySem.W.fnOf "is_a_machine" "is_a_machine" (defArgs s_is_a_machine) (defBody s_is_a_machine) (defScope s_is_a_machine) .none kV31 dc31 pm31 an31 cd31 ct31), sl31⟩)
    (c31 : PySem.W.codeIn K cd31 "is_a_machine" = true)
    (k31 : PySem.W.keepIn K (.ref f31) = true)
    (a32 : PySem.W.nsIn K mainGlobals "is_machine" = some (some (.ref f32)))
    (l32 : K.lookup f32 = some ⟨oc32, od32, .func (PySem.W.fnOf "is_machine" "is_machine" (defArgs s_is_machine) (defBody s_is_machine) (defScope s_is_machine) .none kV32 dc32 pm32 an32 cd32 ct32), sl32⟩)
    (c32 : PySem.W.codeIn K cd32 "is_machine" = true)
    (k32 : PySem.W.keepIn K (.ref f32) = true)
    (a33 : PySem.W.nsIn K mainGlobals "need_machine" = some (some (.ref f33)))
    (l33 : K.lookup f33 = some ⟨oc33, od33, .func (PySem.W.fnOf "need_machine" "need_machine" (defArgs s_need_machine) (defBody s_need_machine) (defScope s_need_machine) .none kV33 dc33 pm33 an33 cd33 ct33), sl33⟩)
    (c33 : PySem.W.codeIn K cd33 "need_machine" = true)
    (k33 : PySem.W.keepIn K (.ref f33) = true)
    (a34 : PySem.W.nsIn K mainGlobals "need_turns" = some (some (.ref f34)))
    (l34 : K.lookup f34 = some ⟨oc34, od34, .func (PySem.W.fnOf "need_turns" "need_turns" (defArgs s_need_turns) (defBody s_need_turns) (defScope s_need_turns) .none kV34 dc34 pm34 an34 cd34 ct34), sl34⟩)
    (c34 : PySem.W.codeIn K cd34 "need_turns" = true)
    (k34 : PySem.W.keepIn K (.ref f34) = true)
    (a35 : PySem.W.nsIn K mainGlobals "first_machine" = some (some (.ref f35)))
    (l35 : K.lookup f35 = some ⟨oc35, od35, .func (PySem.W.fnOf "first_machine" "first_machine" (defArgs s_first_machine) (defBody s_first_machine) (defScope s_first_machine) .none kV35 dc35 pm35 an35 cd35 ct35), sl35⟩)
    (c35 : PySem.W.codeIn K cd35 "first_machine" = true)
    (k35 : PySem.W.keepIn K (.ref f35) = true)
    (a36 : PySem.W.nsIn K mainGlobals "turned" = some (some (.ref f36)))
    (l36 : K.lookup f36 = some ⟨oc36, od36, .func (PySem.W.fnOf "turned" "turned" (defArgs s_turned) (defBody s_turned) (defScope s_turned) .none kV36 dc36 pm36 an36 cd36 ct36), sl36⟩)
    (c36 : PySem.W.codeIn K cd36 "turned" = true)
    (k36 : PySem.W.keepIn K (.ref f36) = true)
    (a37 : PySem.W.nsIn K mainGlobals "run" = some (some (.ref f37)))
    (l37 : K.lookup f37 = some ⟨oc37, od37, .func (PySem.W.fnOf "run" "run" (defArgs s_run) (defBody s_run) (defScope s_run) .none kV37 dc37 pm37 an37 cd37 ct37), sl37⟩)
    (c37 : PySem.W.codeIn K cd37 "run" = true)
    (k37 : PySem.W.keepIn K (.ref f37) = true)
    (a38 : PySem.W.nsIn K mainGlobals "_law_deck" = some (some (.ref f38)))
    (l38 : K.lookup f38 = some ⟨oc38, od38, .func (PySem.W.fnOf "_law_deck" "_law_deck" (defArgs s__law_deck) (defBody s__law_deck) (defScope s__law_deck) .none kV38 dc38 pm38 an38 cd38 ct38), sl38⟩)
    (c38 : PySem.W.codeIn K cd38 "_law_deck" = true)
    (k38 : PySem.W.keepIn K (.ref f38) = true)
    (a39 : PySem.W.nsIn K mainGlobals "_law_draw" = some (some (.ref f39)))
    (l39 : K.lookup f39 = some ⟨oc39, od39, .func (PySem.W.fnOf "_law_draw" "_law_draw" (defArgs s__law_draw) (defBody s__law_draw) (defScope s__law_draw) .none kV39 dc39 pm39 an39 cd39 ct39), sl39⟩)
    (c39 : PySem.W.codeIn K cd39 "_law_draw" = true)
    (k39 : PySem.W.keepIn K (.ref f39) = true)
    (a40 : PySem.W.nsIn K mainGlobals "_law_pick" = some (some (.ref f40)))
    (l40 : K.lookup f40 = some ⟨oc40, od40, .func (PySem.W.fnOf "_law_pick" "_law_pick" (defArgs s__law_pick) (defBody s__law_pick) (defScope s__law_pick) .none kV40 dc40 pm40 an40 cd40 ct40), sl40⟩)
    (c40 : PySem.W.codeIn K cd40 "_law_pick" = true)
    (k40 : PySem.W.keepIn K (.ref f40) = true)
    (a41 : PySem.W.nsIn K mainGlobals "_law_same" = some (some (.ref f41)))
    (l41 : K.lookup f41 = some ⟨oc41, od41, .func (PySem.W.fnOf "_law_same" "_law_same" (defArgs s__law_same) (defBody s__law_same) (defScope s__law_same) .none kV41 dc41 pm41 an41 cd41 ct41), sl41⟩)
    (c41 : PySem.W.codeIn K cd41 "_law_same" = true)
    (k41 : PySem.W.keepIn K (.ref f41) = true)
    (a42 : PySem.W.nsIn K mainGlobals "_law_calls" = some (some (.ref f42)))
    (l42 : K.lookup f42 = some ⟨oc42, od42, .func (PySem.W.fnOf "_law_calls" "_law_calls" (defArgs s__law_calls) (defBody s__law_calls) (defScope s__law_calls) .none kV42 dc42 pm42 an42 cd42 ct42), sl42⟩)
    (c42 : PySem.W.codeIn K cd42 "_law_calls" = true)
    (k42 : PySem.W.keepIn K (.ref f42) = true)
    (a43 : PySem.W.nsIn K mainGlobals "_law_words" = some (some (.ref f43)))
    (l43 : K.lookup f43 = some ⟨oc43, od43, .func (PySem.W.fnOf "_law_words" "_law_words" (defArgs s__law_words) (defBody s__law_words) (defScope s__law_words) .none kV43 dc43 pm43 an43 cd43 ct43), sl43⟩)
    (c43 : PySem.W.codeIn K cd43 "_law_words" = true)
    (k43 : PySem.W.keepIn K (.ref f43) = true)
    (a44 : PySem.W.nsIn K mainGlobals "_law_figure" = some (some (.ref f44)))
    (l44 : K.lookup f44 = some ⟨oc44, od44, .func (PySem.W.fnOf "_law_figure" "_law_figure" (defArgs s__law_figure) (defBody s__law_figure) (defScope s__law_figure) .none kV44 dc44 pm44 an44 cd44 ct44), sl44⟩)
    (c44 : PySem.W.codeIn K cd44 "_law_figure" = true)
    (k44 : PySem.W.keepIn K (.ref f44) = true)
    (a45 : PySem.W.nsIn K mainGlobals "_law_order" = some (some (.ref f45)))
    (l45 : K.lookup f45 = some ⟨oc45, od45, .func (PySem.W.fnOf "_law_order" "_law_order" (defArgs s__law_order) (defBody s__law_order) (defScope s__law_order) .none kV45 dc45 pm45 an45 cd45 ct45), sl45⟩)
    (c45 : PySem.W.codeIn K cd45 "_law_order" = true)
    (k45 : PySem.W.keepIn K (.ref f45) = true)
    (a46 : PySem.W.nsIn K mainGlobals "_law_reckoned" = some (some (.ref f46)))
    (l46 : K.lookup f46 = some ⟨oc46, od46, .func (PySem.W.fnOf "_law_reckoned" "_law_reckoned" (defArgs s__law_reckoned) (defBody s__law_reckoned) (defScope s__law_reckoned) .none kV46 dc46 pm46 an46 cd46 ct46), sl46⟩)
    (c46 : PySem.W.codeIn K cd46 "_law_reckoned" = true)
    (k46 : PySem.W.keepIn K (.ref f46) = true)
    (a47 : PySem.W.nsIn K mainGlobals "_law_cells" = some (some (.ref f47)))
    (l47 : K.lookup f47 = some ⟨oc47, od47, .func (PySem.W.fnOf "_law_cells" "_law_cells" (defArgs s__law_cells) (defBody s__law_cells) (defScope s__law_cells) .none kV47 dc47 pm47 an47 cd47 ct47), sl47⟩)
    (c47 : PySem.W.codeIn K cd47 "_law_cells" = true)
    (k47 : PySem.W.keepIn K (.ref f47) = true)
    (a48 : PySem.W.nsIn K mainGlobals "_law_at" = some (some (.ref f48)))
    (l48 : K.lookup f48 = some ⟨oc48, od48, .func (PySem.W.fnOf "_law_at" "_law_at" (defArgs s__law_at) (defBody s__law_at) (defScope s__law_at) .none kV48 dc48 pm48 an48 cd48 ct48), sl48⟩)
    (c48 : PySem.W.codeIn K cd48 "_law_at" = true)
    (k48 : PySem.W.keepIn K (.ref f48) = true)
    (a49 : PySem.W.nsIn K mainGlobals "_law_next" = some (some (.ref f49)))
    (l49 : K.lookup f49 = some ⟨oc49, od49, .func (PySem.W.fnOf "_law_next" "_law_next" (defArgs s__law_next) (defBody s__law_next) (defScope s__law_next) .none kV49 dc49 pm49 an49 cd49 ct49), sl49⟩)
    (c49 : PySem.W.codeIn K cd49 "_law_next" = true)
    (k49 : PySem.W.keepIn K (.ref f49) = true)
    (a50 : PySem.W.nsIn K mainGlobals "_law_memory" = some (some (.ref f50)))
    (l50 : K.lookup f50 = some ⟨oc50, od50, .func (PySem.W.fnOf "_law_memory" "_law_memory" (defArgs s__law_memory) (defBody s__law_memory) (defScope s__law_memory) .none kV50 dc50 pm50 an50 cd50 ct50), sl50⟩)
    (c50 : PySem.W.codeIn K cd50 "_law_memory" = true)
    (k50 : PySem.W.keepIn K (.ref f50) = true)
    (a51 : PySem.W.nsIn K mainGlobals "_law_machine" = some (some (.ref f51)))
    (l51 : K.lookup f51 = some ⟨oc51, od51, .func (PySem.W.fnOf "_law_machine" "_law_machine" (defArgs s__law_machine) (defBody s__law_machine) (defScope s__law_machine) .none kV51 dc51 pm51 an51 cd51 ct51), sl51⟩)
    (c51 : PySem.W.codeIn K cd51 "_law_machine" = true)
    (k51 : PySem.W.keepIn K (.ref f51) = true)
    (a52 : PySem.W.nsIn K mainGlobals "_law_followed" = some (some (.ref f52)))
    (l52 : K.lookup f52 = some ⟨oc52, od52, .func (PySem.W.fnOf "_law_followed" "_law_followed" (defArgs s__law_followed) (defBody s__law_followed) (defScope s__law_followed) .none kV52 dc52 pm52 an52 cd52 ct52), sl52⟩)
    (c52 : PySem.W.codeIn K cd52 "_law_followed" = true)
    (k52 : PySem.W.keepIn K (.ref f52) = true)
    (a53 : PySem.W.nsIn K mainGlobals "law" = some (some (.ref f53)))
    (l53 : K.lookup f53 = some ⟨oc53, od53, .func (PySem.W.fnOf "law" "law" (defArgs s_law) (defBody s_law) (defScope s_law) .none kV53 dc53 pm53 an53 cd53 ct53), sl53⟩)
    (c53 : PySem.W.codeIn K cd53 "law" = true)
    (k53 : PySem.W.keepIn K (.ref f53) = true)
    (g_CELLS : PySem.W.nsIn K mainGlobals "CELLS" = some (some (.int 4096 t_CELLS)))
    (g_FIGURE : PySem.W.nsIn K mainGlobals "FIGURE" = some (some (.str "figure" t_FIGURE)))
    (g_MODULUS : PySem.W.nsIn K mainGlobals "MODULUS" = some (some (.int 65536 t_MODULUS)))
    (g_MOST_CALLS : PySem.W.nsIn K mainGlobals "MOST_CALLS" = some (some (.int 32 t_MOST_CALLS)))
    (g_MOST_FIGURE : PySem.W.nsIn K mainGlobals "MOST_FIGURE" = some (some (.int 65535 t_MOST_FIGURE)))
    (g_MOST_NUMBER : PySem.W.nsIn K mainGlobals "MOST_NUMBER" = some (some (.int 256 t_MOST_NUMBER)))
    (g_MOST_ORDERS : PySem.W.nsIn K mainGlobals "MOST_ORDERS" = some (some (.int 4000 t_MOST_ORDERS)))
    (g_MOST_TURNS : PySem.W.nsIn K mainGlobals "MOST_TURNS" = some (some (.int 100000 t_MOST_TURNS)))
    (g_PLACE : PySem.W.nsIn K mainGlobals "PLACE" = some (some (.str "place" t_PLACE)))
    (g_REGISTER : PySem.W.nsIn K mainGlobals "REGISTER" = some (some (.str "register" t_REGISTER)))
    (g_REGISTERS : PySem.W.nsIn K mainGlobals "REGISTERS" = some (some (.int 8 t_REGISTERS)))
    (z_len : PySem.W.nsIn K mainGlobals "len" = some none)
    (z_int : PySem.W.nsIn K mainGlobals "int" = some none)
    (z_bool : PySem.W.nsIn K mainGlobals "bool" = some none)
    (z_str : PySem.W.nsIn K mainGlobals "str" = some none)
    (z_list : PySem.W.nsIn K mainGlobals "list" = some none)
    (z_tuple : PySem.W.nsIn K mainGlobals "tuple" = some none)
    (z_dict : PySem.W.nsIn K mainGlobals "dict" = some none)
    (z_isinstance : PySem.W.nsIn K mainGlobals "isinstance" = some none)
    (z_abs : PySem.W.nsIn K mainGlobals "abs" = some none)
    (z_max : PySem.W.nsIn K mainGlobals "max" = some none)
    (z_min : PySem.W.nsIn K mainGlobals "min" = some none)
    (z_all : PySem.W.nsIn K mainGlobals "all" = some none)
    (z_sorted : PySem.W.nsIn K mainGlobals "sorted" = some none)
    (z_range : PySem.W.nsIn K mainGlobals "range" = some none)
    (z_enumerate : PySem.W.nsIn K mainGlobals "enumerate" = some none)
    (z_zip : PySem.W.nsIn K mainGlobals "zip" = some none)
    (a_WORDS : PySem.W.nsIn K mainGlobals "WORDS" = some (some (.ref aW)))
    (l_WORDS : K.lookup aW = some ⟨.type "tuple", od_aW, .seq its_aW n_aW, sl_aW⟩)
    (s_WORDS : strsOf its_aW.toList = some wordsL)
    (a_LEADING : PySem.W.nsIn K mainGlobals "LEADING" = some (some (.ref aL)))
    (l_LEADING : K.lookup aL = some ⟨.type "tuple", od_aL, .seq its_aL n_aL, sl_aL⟩)
    (s_LEADING : strsOf its_aL.toList = some leadL)
    (a_FORMS : PySem.W.nsIn K mainGlobals "FORMS" = some (some (.ref dF)))
    (l_FORMS : K.lookup dF = some ⟨.type "dict", none, .dict esF nF, #[]⟩)
    (k_FORMS : esF.toList.map keyT = (["set", "copy", "add", "sub", "mul", "and", "or", "less", "same", "load", "store", "jump", "if", "call", "back", "ask", "stop"] : List Str).map (fun k => some (k, PyData.keyHash w.params k)))
    (o_FORMS : (dF == sysModules) = false)
    (fe0 : PySem.W.nsIn K dF "set" = some (some (.ref fa0)))
    (fl0 : K.lookup fa0 = some ⟨.type "tuple", fo0, .seq fi0 fn0, fs0⟩)
    (ft0 : strsOf fi0.toList = some (["register", "figure"] : List Str))
    (fe1 : PySem.W.nsIn K dF "copy" = some (some (.ref fa1)))
    (fl1 : K.lookup fa1 = some ⟨.type "tuple", fo1, .seq fi1 fn1, fs1⟩)
    (ft1 : strsOf fi1.toList = some (["register", "register"] : List Str))
    (fe2 : PySem.W.nsIn K dF "add" = some (some (.ref fa2)))
    (fl2 : K.lookup fa2 = some ⟨.type "tuple", fo2, .seq fi2 fn2, fs2⟩)
    (ft2 : strsOf fi2.toList = some (["register", "register", "register"] : List Str))
    (fe3 : PySem.W.nsIn K dF "sub" = some (some (.ref fa3)))
    (fl3 : K.lookup fa3 = some ⟨.type "tuple", fo3, .seq fi3 fn3, fs3⟩)
    (ft3 : strsOf fi3.toList = some (["register", "register", "register"] : List Str))
    (fe4 : PySem.W.nsIn K dF "mul" = some (some (.ref fa4)))
    (fl4 : K.lookup fa4 = some ⟨.type "tuple", fo4, .seq fi4 fn4, fs4⟩)
    (ft4 : strsOf fi4.toList = some (["register", "register", "register"] : List Str))
    (fe5 : PySem.W.nsIn K dF "and" = some (some (.ref fa5)))
    (fl5 : K.lookup fa5 = some ⟨.type "tuple", fo5, .seq fi5 fn5, fs5⟩)
    (ft5 : strsOf fi5.toList = some (["register", "register", "register"] : List Str))
    (fe6 : PySem.W.nsIn K dF "or" = some (some (.ref fa6)))
    (fl6 : K.lookup fa6 = some ⟨.type "tuple", fo6, .seq fi6 fn6, fs6⟩)
    (ft6 : strsOf fi6.toList = some (["register", "register", "register"] : List Str))
    (fe7 : PySem.W.nsIn K dF "less" = some (some (.ref fa7)))
    (fl7 : K.lookup fa7 = some ⟨.type "tuple", fo7, .seq fi7 fn7, fs7⟩)
    (ft7 : strsOf fi7.toList = some (["register", "register", "register"] : List Str))
    (fe8 : PySem.W.nsIn K dF "same" = some (some (.ref fa8)))
    (fl8 : K.lookup fa8 = some ⟨.type "tuple", fo8, .seq fi8 fn8, fs8⟩)
    (ft8 : strsOf fi8.toList = some (["register", "register", "register"] : List Str))
    (fe9 : PySem.W.nsIn K dF "load" = some (some (.ref fa9)))
    (fl9 : K.lookup fa9 = some ⟨.type "tuple", fo9, .seq fi9 fn9, fs9⟩)
    (ft9 : strsOf fi9.toList = some (["register", "register"] : List Str))
    (fe10 : PySem.W.nsIn K dF "store" = some (some (.ref fa10)))
    (fl10 : K.lookup fa10 = some ⟨.type "tuple", fo10, .seq fi10 fn10, fs10⟩)
    (ft10 : strsOf fi10.toList = some (["register", "register"] : List Str))
    (fe11 : PySem.W.nsIn K dF "jump" = some (some (.ref fa11)))
    (fl11 : K.lookup fa11 = some ⟨.type "tuple", fo11, .seq fi11 fn11, fs11⟩)
    (ft11 : strsOf fi11.toList = some (["place"] : List Str))
    (fe12 : PySem.W.nsIn K dF "if" = some (some (.ref fa12)))
    (fl12 : K.lookup fa12 = some ⟨.type "tuple", fo12, .seq fi12 fn12, fs12⟩)
    (ft12 : strsOf fi12.toList = some (["register", "place"] : List Str))
    (fe13 : PySem.W.nsIn K dF "call" = some (some (.ref fa13)))
    (fl13 : K.lookup fa13 = some ⟨.type "tuple", fo13, .seq fi13 fn13, fs13⟩)
    (ft13 : strsOf fi13.toList = some (["place"] : List Str))
    (fe14 : PySem.W.nsIn K dF "back" = some (some (.ref fa14)))
    (fl14 : K.lookup fa14 = some ⟨.type "tuple", fo14, .seq fi14 fn14, fs14⟩)
    (ft14 : strsOf fi14.toList = some ([] : List Str))
    (fe15 : PySem.W.nsIn K dF "ask" = some (some (.ref fa15)))
    (fl15 : K.lookup fa15 = some ⟨.type "tuple", fo15, .seq fi15 fn15, fs15⟩)
    (ft15 : strsOf fi15.toList = some (["word"] : List Str))
    (fe16 : PySem.W.nsIn K dF "stop" = some (some (.ref fa16)))
    (fl16 : K.lookup fa16 = some ⟨.type "tuple", fo16, .seq fi16 fn16, fs16⟩)
    (ft16 : strsOf fi16.toList = some ([] : List Str)) :
    ∃ fd : FuncData, (∀ (s : Shared) (u : Value), BindsTo s fd ⟨[u], []⟩ [("script", u)]) ∧ ∀ base : Heap, K.In base → base.Ns mainGlobals mg → FnOk P w K mg base CX0 9 fa fd ["script"] (spLawK00 K) :=
  law_at X G hfa a53 l53 c53 k53 fun base fd F => all_ok (blt_at X G z_len z_int z_bool z_str z_list z_tuple z_dict z_isinstance z_abs z_max z_min z_all z_sorted z_range z_enumerate z_zip) (cls_Spot pg_Spot hd_Spot po_Spot sa_Spot n0_Spot n1_Spot n2_Spot) (cls_PlainCells pg_PlainCells hd_PlainCells po_PlainCells sa_PlainCells n0_PlainCells) (cls_Running pg_Running hd_Running po_Running sa_Running n0_Running n1_Running n2_Running) (tup_at l_WORDS s_WORDS (by decide)) (gv_ref X G a_WORDS) (tup_at l_LEADING s_LEADING (by decide)) (gv_ref X G a_LEADING) (forms_at (kd_at l_FORMS k_FORMS o_FORMS) (frow_at fe0 fl0 ft0 (by decide)) (frow_at fe1 fl1 ft1 (by decide)) (frow_at fe2 fl2 ft2 (by decide)) (frow_at fe3 fl3 ft3 (by decide)) (frow_at fe4 fl4 ft4 (by decide)) (frow_at fe5 fl5 ft5 (by decide)) (frow_at fe6 fl6 ft6 (by decide)) (frow_at fe7 fl7 ft7 (by decide)) (frow_at fe8 fl8 ft8 (by decide)) (frow_at fe9 fl9 ft9 (by decide)) (frow_at fe10 fl10 ft10 (by decide)) (frow_at fe11 fl11 ft11 (by decide)) (frow_at fe12 fl12 ft12 (by decide)) (frow_at fe13 fl13 ft13 (by decide)) (frow_at fe14 fl14 ft14 (by decide)) (frow_at fe15 fl15 ft15 (by decide)) (frow_at fe16 fl16 ft16 (by decide))) (gv_ref X G a_FORMS) (gv_int X G g_CELLS) (gv_str X G g_FIGURE) (gv_int X G g_MODULUS) (gv_int X G g_MOST_CALLS) (gv_int X G g_MOST_FIGURE) (gv_int X G g_MOST_NUMBER) (gv_int X G g_MOST_ORDERS) (gv_int X G g_MOST_TURNS) (gv_str X G g_PLACE) (gv_str X G g_REGISTER) (gv_int X G g_REGISTERS) (at_is_from X G a0 l0 c0 k0) (at_is_tuple X G a1 l1 c1 k1) (at_is_figure X G a2 l2 c2 k2) (at_is_address X G a3 l3 c3 k3) (at_is_register X G a4 l4 c4 k4) (at_memory_dict X G a5 l5 c5 k5) (at_memory_tuple X G a6 l6 c6 k6) (at_is_cell X G a7 l7 c7 k7) (at_is_a_memory X G a8 l8 c8 k8) (at_need_memory X G a9 l9 c9 k9) (at_kinds_behind X G a10 l10 c10 k10) (at_is_plain_part X G a11 l11 c11 k11) (at_is_order X G a12 l12 c12 k12) (at_is_a_code X G a13 l13 c13 k13) (at_need_code X G a14 l14 c14 k14) (at_Spot___init__ X G aC_Spot a15 i15 l15 c15 k15 mk_Spot kc_Spot) (at_address_in X G a16 l16 c16 k16) (at_halting X G a17 l17 c17 k17) (at_joined X G a18 l18 c18 k18) (at_PlainCells___init__ X G aC_PlainCells a19 i19 l19 c19 k19 mk_PlainCells kc_PlainCells) (at_PlainCells_load X G a20 i20 l20 c20 k20) (at_PlainCells_store X G a21 i21 l21 c21 k21) (at_figure_for X G a22 l22 c22 k22) (at_next_index X G a23 l23 c23 k23) (at_do_order X G a24 l24 c24 k24) (at_Running___init__ X G aC_Running a25 i25 l25 c25 k25 mk_Running kc_Running) (at_Running_ahead X G a26 i26 l26 c26 k26) (at_Running_go X G a27 i27 l27 c27 k27) (at_Running_as_machine X G a28 i28 l28 c28 k28) (at_is_code X G a29 l29 c29 k29) (at_is_memory X G a30 l30 c30 k30) (at_is_a_machine X G a31 l31 c31 k31) (at_is_machine X G a32 l32 c32 k32) (at_need_machine X G a33 l33 c33 k33) (at_need_turns X G a34 l34 c34 k34) (at_first_machine X G a35 l35 c35 k35) (at_turned X G a36 l36 c36 k36) (at_run X G a37 l37 c37 k37) (kat_run X G a37 l37 c37 k37) (at__law_deck X G a38 l38 c38 k38) (at__law_draw X G a39 l39 c39 k39) (at__law_pick X G a40 l40 c40 k40) (at__law_same X G a41 l41 c41 k41) (at__law_calls X G a42 l42 c42 k42) (at__law_words X G a43 l43 c43 k43) (at__law_figure X G a44 l44 c44 k44) (at__law_order X G a45 l45 c45 k45) (at__law_reckoned X G a46 l46 c46 k46) (at__law_cells X G a47 l47 c47 k47) (at__law_at X G a48 l48 c48 k48) (at__law_next X G a49 l49 c49 k49) (at__law_memory X G a50 l50 c50 k50) (at__law_machine X G a51 l51 c51 k51) (at__law_followed X G a52 l52 c52 k52) F
end K00
open PySem PySem.W PyProof.Rows
set_option maxHeartbeats 0 in
theorem PySem.Challenge.cw_tasksapart_k00_turns_of_orders_holds : PySem.Challenge.rw_tasksapart_k00_turns_of_orders.Holds := by
  w_on; o_law; k_head; (case hw => w_witness2)
  k_fill
  refine K00.walk (l := PySem.Challenge.rw_tasksapart_k00_turns_of_orders) rfl rfl (fun w h Y => PySem.W.kIn_of Y) ?F
  case F =>
    intro w mg fa h KX G hmg
    refine' K00.all_mk KX G hmg ?aC_Spot ?pg_Spot ?hd_Spot ?po_Spot ?sa_Spot ?n0_Spot ?n1_Spot ?n2_Spot ?mk_Spot ?kc_Spot ?aC_PlainCells ?pg_PlainCells ?hd_PlainCells ?po_PlainCells ?sa_PlainCells ?n0_PlainCells ?mk_PlainCells ?kc_PlainCells ?aC_Running ?pg_Running ?hd_Running ?po_Running ?sa_Running ?n0_Running ?n1_Running ?n2_Running ?mk_Running ?kc_Running ?a0 ?l0 ?c0 ?k0 ?a1 ?l1 ?c1 ?k1 ?a2 ?l2 ?c2 ?k2 ?a3 ?l3 ?c3 ?k3 ?a4 ?l4 ?c4 ?k4 ?a5 ?l5 ?c5 ?k5 ?a6 ?l6 ?c6 ?k6 ?a7 ?l7 ?c7 ?k7 ?a8 ?l8 ?c8 ?k8 ?a9 ?l9 ?c9 ?k9 ?a10 ?l10 ?c10 ?k10 ?a11 ?l11 ?c11 ?k11 ?a12 ?l12 ?c12 ?k12 ?a13 ?l13 ?c13 ?k13 ?a14 ?l14 ?c14 ?k14 ?a15 ?i15 ?l15 ?c15 ?k15 ?a16 ?l16 ?c16 ?k16 ?a17 ?l17 ?c17 ?k17 ?a18 ?l18 ?c18 ?k18 ?a19 ?i19 ?l19 ?c19 ?k19 ?a20 ?i20 ?l20 ?c20 ?k20 ?a21 ?i21 ?l21 ?c21 ?k21 ?a22 ?l22 ?c22 ?k22 ?a23 ?l23 ?c23 ?k23 ?a24 ?l24 ?c24 ?k24 ?a25 ?i25 ?l25 ?c25 ?k25 ?a26 ?i26 ?l26 ?c26 ?k26 ?a27 ?i27 ?l27 ?c27 ?k27 ?a28 ?i28 ?l28 ?c28 ?k28 ?a29 ?l29 ?c29 ?k29 ?a30 ?l30 ?c30 ?k30 ?a31 ?l31 ?c31 ?k31 ?a32 ?l32 ?c32 ?k32 ?a33 ?l33 ?c33 ?k33 ?a34 ?l34 ?c34 ?k34 ?a35 ?l35 ?c35 ?k35 ?a36 ?l36 ?c36 ?k36 ?a37 ?l37 ?c37 ?k37 ?a38 ?l38 ?c38 ?k38 ?a39 ?l39 ?c39 ?k39 ?a40 ?l40 ?c40 ?k40 ?a41 ?l41 ?c41 ?k41 ?a42 ?l42 ?c42 ?k42 ?a43 ?l43 ?c43 ?k43 ?a44 ?l44 ?c44 ?k44 ?a45 ?l45 ?c45 ?k45 ?a46 ?l46 ?c46 ?k46 ?a47 ?l47 ?c47 ?k47 ?a48 ?l48 ?c48 ?k48 ?a49 ?l49 ?c49 ?k49 ?a50 ?l50 ?c50 ?k50 ?a51 ?l51 ?c51 ?k51 ?a52 ?l52 ?c52 ?k52 ?a53 ?l53 ?c53 ?k53 ?g_CELLS ?g_FIGURE ?g_MODULUS ?g_MOST_CALLS ?g_MOST_FIGURE ?g_MOST_NUMBER ?g_MOST_ORDERS ?g_MOST_TURNS ?g_PLACE ?g_REGISTER ?g_REGISTERS ?z_len ?z_int ?z_bool ?z_str ?z_list ?z_tuple ?z_dict ?z_isinstance ?z_abs ?z_max ?z_min ?z_all ?z_sorted ?z_range ?z_enumerate ?z_zip ?a_WORDS ?l_WORDS ?s_WORDS ?a_LEADING ?l_LEADING ?s_LEADING ?a_FORMS ?l_FORMS ?k_FORMS ?o_FORMS ?fe0 ?fl0 ?ft0 ?fe1 ?fl1 ?ft1 ?fe2 ?fl2 ?ft2 ?fe3 ?fl3 ?ft3 ?fe4 ?fl4 ?ft4 ?fe5 ?fl5 ?ft5 ?fe6 ?fl6 ?ft6 ?fe7 ?fl7 ?ft7 ?fe8 ?fl8 ?ft8 ?fe9 ?fl9 ?ft9 ?fe10 ?fl10 ?ft10 ?fe11 ?fl11 ?ft11 ?fe12 ?fl12 ?ft12 ?fe13 ?fl13 ?ft13 ?fe14 ?fl14 ?ft14 ?fe15 ?fl15 ?ft15 ?fe16 ?fl16 ?ft16
    (case aC_Spot => k_is); (case pg_Spot => k_is); (case hd_Spot => k_is); (case po_Spot => k_is)
    (case sa_Spot => k_is); (case n0_Spot => k_is); (case n1_Spot => k_is); (case n2_Spot => k_is)
    (case mk_Spot => k_is); (case kc_Spot => k_is); (case aC_PlainCells => k_is); (case pg_PlainCells => k_is)
    (case hd_PlainCells => k_is); (case po_PlainCells => k_is); (case sa_PlainCells => k_is); (case n0_PlainCells => k_is)
    (case mk_PlainCells => k_is); (case kc_PlainCells => k_is); (case aC_Running => k_is); (case pg_Running => k_is)
    (case hd_Running => k_is); (case po_Running => k_is); (case sa_Running => k_is); (case n0_Running => k_is)
    (case n1_Running => k_is); (case n2_Running => k_is); (case mk_Running => k_is); (case kc_Running => k_is)
    (case a0 => k_is); (case l0 => k_is); (case c0 => k_is); (case k0 => k_is)
    (case a1 => k_is); (case l1 => k_is); (case c1 => k_is); (case k1 => k_is)
    (case a2 => k_is); (case l2 => k_is); (case c2 => k_is); (case k2 => k_is)
    (case a3 => k_is); (case l3 => k_is); (case c3 => k_is); (case k3 => k_is)
    (case a4 => k_is); (case l4 => k_is); (case c4 => k_is); (case k4 => k_is)
    (case a5 => k_is); (case l5 => k_is); (case c5 => k_is); (case k5 => k_is)
    (case a6 => k_is); (case l6 => k_is); (case c6 => k_is); (case k6 => k_is)
    (case a7 => k_is); (case l7 => k_is); (case c7 => k_is); (case k7 => k_is)
    (case a8 => k_is); (case l8 => k_is); (case c8 => k_is); (case k8 => k_is)
    (case a9 => k_is); (case l9 => k_is); (case c9 => k_is); (case k9 => k_is)
    (case a10 => k_is); (case l10 => k_is); (case c10 => k_is); (case k10 => k_is)
    (case a11 => k_is); (case l11 => k_is); (case c11 => k_is); (case k11 => k_is)
    (case a12 => k_is); (case l12 => k_is); (case c12 => k_is); (case k12 => k_is)
    (case a13 => k_is); (case l13 => k_is); (case c13 => k_is); (case k13 => k_is)
    (case a14 => k_is); (case l14 => k_is); (case c14 => k_is); (case k14 => k_is)
    (case a15 => k_is); (case i15 => k_is); (case l15 => k_is); (case c15 => k_is)
    (case k15 => k_is); (case a16 => k_is); (case l16 => k_is); (case c16 => k_is)
    (case k16 => k_is); (case a17 => k_is); (case l17 => k_is); (case c17 => k_is)
    (case k17 => k_is); (case a18 => k_is); (case l18 => k_is); (case c18 => k_is)
    (case k18 => k_is); (case a19 => k_is); (case i19 => k_is); (case l19 => k_is)
    (case c19 => k_is); (case k19 => k_is); (case a20 => k_is); (case i20 => k_is)
    (case l20 => k_is); (case c20 => k_is); (case k20 => k_is); (case a21 => k_is)
    (case i21 => k_is); (case l21 => k_is); (case c21 => k_is); (case k21 => k_is)
    (case a22 => k_is); (case l22 => k_is); (case c22 => k_is); (case k22 => k_is)
    (case a23 => k_is); (case l23 => k_is); (case c23 => k_is); (case k23 => k_is)
    (case a24 => k_is); (case l24 => k_is); (case c24 => k_is); (case k24 => k_is)
    (case a25 => k_is); (case i25 => k_is); (case l25 => k_is); (case c25 => k_is)
    (case k25 => k_is); (case a26 => k_is); (case i26 => k_is); (case l26 => k_is)
    (case c26 => k_is); (case k26 => k_is); (case a27 => k_is); (case i27 => k_is)
    (case l27 => k_is); (case c27 => k_is); (case k27 => k_is); (case a28 => k_is)
    (case i28 => k_is); (case l28 => k_is); (case c28 => k_is); (case k28 => k_is)
    (case a29 => k_is); (case l29 => k_is); (case c29 => k_is); (case k29 => k_is)
    (case a30 => k_is); (case l30 => k_is); (case c30 => k_is); (case k30 => k_is)
    (case a31 => k_is); (case l31 => k_is); (case c31 => k_is); (case k31 => k_is)
    (case a32 => k_is); (case l32 => k_is); (case c32 => k_is); (case k32 => k_is)
    (case a33 => k_is); (case l33 => k_is); (case c33 => k_is); (case k33 => k_is)
    (case a34 => k_is); (case l34 => k_is); (case c34 => k_is); (case k34 => k_is)
    (case a35 => k_is); (case l35 => k_is); (case c35 => k_is); (case k35 => k_is)
    (case a36 => k_is); (case l36 => k_is); (case c36 => k_is); (case k36 => k_is)
    (case a37 => k_is); (case l37 => k_is); (case c37 => k_is); (case k37 => k_is)
    (case a38 => k_is); (case l38 => k_is); (case c38 => k_is); (case k38 => k_is)
    (case a39 => k_is); (case l39 => k_is); (case c39 => k_is); (case k39 => k_is)
    (case a40 => k_is); (case l40 => k_is); (case c40 => k_is); (case k40 => k_is)
    (case a41 => k_is); (case l41 => k_is); (case c41 => k_is); (case k41 => k_is)
    (case a42 => k_is); (case l42 => k_is); (case c42 => k_is); (case k42 => k_is)
    (case a43 => k_is); (case l43 => k_is); (case c43 => k_is); (case k43 => k_is)
    (case a44 => k_is); (case l44 => k_is); (case c44 => k_is); (case k44 => k_is)
    (case a45 => k_is); (case l45 => k_is); (case c45 => k_is); (case k45 => k_is)
    (case a46 => k_is); (case l46 => k_is); (case c46 => k_is); (case k46 => k_is)
    (case a47 => k_is); (case l47 => k_is); (case c47 => k_is); (case k47 => k_is)
    (case a48 => k_is); (case l48 => k_is); (case c48 => k_is); (case k48 => k_is)
    (case a49 => k_is); (case l49 => k_is); (case c49 => k_is); (case k49 => k_is)
    (case a50 => k_is); (case l50 => k_is); (case c50 => k_is); (case k50 => k_is)
    (case a51 => k_is); (case l51 => k_is); (case c51 => k_is); (case k51 => k_is)
    (case a52 => k_is); (case l52 => k_is); (case c52 => k_is); (case k52 => k_is)
    (case a53 => k_is); (case l53 => k_is); (case c53 => k_is); (case k53 => k_is)
    (case g_CELLS => k_is); (case g_FIGURE => k_is); (case g_MODULUS => k_is); (case g_MOST_CALLS => k_is)
    (case g_MOST_FIGURE => k_is); (case g_MOST_NUMBER => k_is); (case g_MOST_ORDERS => k_is); (case g_MOST_TURNS => k_is)
    (case g_PLACE => k_is); (case g_REGISTER => k_is); (case g_REGISTERS => k_is); (case z_len => k_is)
    (case z_int => k_is); (case z_bool => k_is); (case z_str => k_is); (case z_list => k_is)
    (case z_tuple => k_is); (case z_dict => k_is); (case z_isinstance => k_is); (case z_abs => k_is)
    (case z_max => k_is); (case z_min => k_is); (case z_all => k_is); (case z_sorted => k_is)
    (case z_range => k_is); (case z_enumerate => k_is); (case z_zip => k_is); (case a_WORDS => k_is)
    (case l_WORDS => k_is); (case s_WORDS => first | rfl | kernel_rfl); (case a_LEADING => k_is); (case l_LEADING => k_is)
    (case s_LEADING => first | rfl | kernel_rfl); (case a_FORMS => k_is); (case l_FORMS => k_is); (case k_FORMS => first | rfl | kernel_rfl)
    (case o_FORMS => first | rfl | decide); (case fe0 => k_is); (case fl0 => k_is); (case ft0 => first | rfl | kernel_rfl)
    (case fe1 => k_is); (case fl1 => k_is); (case ft1 => first | rfl | kernel_rfl); (case fe2 => k_is)
    (case fl2 => k_is); (case ft2 => first | rfl | kernel_rfl); (case fe3 => k_is); (case fl3 => k_is)
    (case ft3 => first | rfl | kernel_rfl); (case fe4 => k_is); (case fl4 => k_is); (case ft4 => first | rfl | kernel_rfl)
    (case fe5 => k_is); (case fl5 => k_is); (case ft5 => first | rfl | kernel_rfl); (case fe6 => k_is)
    (case fl6 => k_is); (case ft6 => first | rfl | kernel_rfl); (case fe7 => k_is); (case fl7 => k_is)
    (case ft7 => first | rfl | kernel_rfl); (case fe8 => k_is); (case fl8 => k_is); (case ft8 => first | rfl | kernel_rfl)
    (case fe9 => k_is); (case fl9 => k_is); (case ft9 => first | rfl | kernel_rfl); (case fe10 => k_is)
    (case fl10 => k_is); (case ft10 => first | rfl | kernel_rfl); (case fe11 => k_is); (case fl11 => k_is)
    (case ft11 => first | rfl | kernel_rfl); (case fe12 => k_is); (case fl12 => k_is); (case ft12 => first | rfl | kernel_rfl)
    (case fe13 => k_is); (case fl13 => k_is); (case ft13 => first | rfl | kernel_rfl); (case fe14 => k_is)
    (case fl14 => k_is); (case ft14 => first | rfl | kernel_rfl); (case fe15 => k_is); (case fl15 => k_is)
    (case ft15 => first | rfl | kernel_rfl); (case fe16 => k_is); (case fl16 => k_is); (case ft16 => first | rfl | kernel_rfl)
