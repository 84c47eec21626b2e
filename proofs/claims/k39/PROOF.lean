import PyProof.Rows.All
import Wide.All
import OpenK.AllK
import Wide.FinOn
import HandS.ForMost
import HandS.ForExc
import HandS.IsInst
import HandS.Flow
import HandS.Zip
import HandS.Deep
import HandS.TupAny
import HandS.TupMul
import PyProof.ListMulRoad
import PyProof.FactsAll.tuple_2
import HandS.Walk
import KE.GoesMore
import KE.GoesEnum
import PyProof.EnumMake
import HandS.Text
import HandS.RaiseMore
import HandS.More
import HandS.ExcInit
import HandS.ExcField
import HandS.TryMany
import HandS.Lambda
import HandS.EndTab
import PySem.Challenge.RW_swornfilters_k39_whole_texts_of_deeds_li
import HandS.EndOwn
set_option Elab.async false
set_option linter.all false
set_option maxRecDepth 100000
set_option maxHeartbeats 4000000
/-! Pure data over the layer: what a value stands for (Rp), the frozen part F of a heap H, evaluation to data. -/
namespace Sf
open PySem L2

mutual
/-- in the frozen heap F the value stands for the datum -/
inductive Rp (K : PySem.W.Frag) (F : Hp) : V → PyData → Prop where
  | non : Rp K F .non .none
  | bl (b : Bool) : Rp K F (.bl b) (.bool b)
  | int (i : Int) : Rp K F (.int i) (.int i)
  | str (x : Str) : Rp K F (.str x) (.str x)
  | lst {a : Addr} {xs : List V} {ds : List PyData} : F a = some (.lst xs) → RpAll K F xs ds → Rp K F (.ref a) (.list ds)
  | tup {a : Addr} {xs : List V} {ds : List PyData} : SqT K F a xs → RpAll K F xs ds → Rp K F (.ref a) (.tuple ds)
inductive RpAll (K : PySem.W.Frag) (F : Hp) : List V → List PyData → Prop where
  | nil : RpAll K F [] []
  | cons {v : V} {vs : List V} {d : PyData} {ds : List PyData} : Rp K F v d → RpAll K F vs ds → RpAll K F (v :: vs) (d :: ds)
end

theorem same_t {K : PySem.W.Frag} {H H' : Hp} {a : Addr} {xs : List V} (e : Same H H') (h : SqT K H a xs) : SqT K H' a xs := by
  rcases h with (h | ⟨o, h⟩) | h
  · exact .inl (.inl (e _ _ h))
  · exact .inl (.inr ⟨o, e _ _ h⟩)
  · exact .inr h

mutual
theorem Rp.mono {K : PySem.W.Frag} {F F' : Hp} (e : Same F F') : ∀ {v : V} {d : PyData}, Rp K F v d → Rp K F' v d
  | _, _, .non => .non
  | _, _, .bl b => .bl b
  | _, _, .int i => .int i
  | _, _, .str x => .str x
  | _, _, .lst h r => .lst (e _ _ h) (RpAll.mono e r)
  | _, _, .tup h r => .tup (same_t e h) (RpAll.mono e r)
theorem RpAll.mono {K : PySem.W.Frag} {F F' : Hp} (e : Same F F') : ∀ {vs : List V} {ds : List PyData}, RpAll K F vs ds → RpAll K F' vs ds
  | _, _, .nil => .nil
  | _, _, .cons h r => .cons (Rp.mono e h) (RpAll.mono e r)
end
mutual
theorem Rp.dp {K : PySem.W.Frag} {F : Hp} : ∀ {v : V} {d : PyData}, Rp K F v d → Dp K F v d
  | _, _, .non => .non
  | _, _, .bl b => .bl b
  | _, _, .int i => .int i
  | _, _, .str x => .str x
  | _, _, .lst h r => .lst (.inl (.inl h)) (RpAll.dp r)
  | _, _, .tup h r => .tup h (RpAll.dp r)
theorem RpAll.dp {K : PySem.W.Frag} {F : Hp} : ∀ {vs : List V} {ds : List PyData}, RpAll K F vs ds → DpAll K F vs ds
  | _, _, .nil => .nil
  | _, _, .cons h r => .cons (Rp.dp h) (RpAll.dp r)
end

section
variable {K : PySem.W.Frag} {F H F' H' F1 H1 F2 H2 : Hp}
theorem RpAll.length {vs : List V} {ds : List PyData} (h : RpAll K F vs ds) : vs.length = ds.length := by
  induction ds generalizing vs with
  | nil => cases h; rfl
  | cons d ds ih => cases h with | cons h r => simp [ih r]
theorem RpAll.get {vs : List V} {ds : List PyData} (h : RpAll K F vs ds) {i : Nat} {d : PyData} (e : ds[i]? = some d) : ∃ v, vs[i]? = some v ∧ Rp K F v d := by
  induction ds generalizing vs i with
  | nil => simp at e
  | cons d0 ds ih =>
    cases h with
    | cons h r =>
      cases i with
      | zero => simp at e; subst e; exact ⟨_, rfl, h⟩
      | succ i => simp at e; obtain ⟨v, e1, e2⟩ := ih r e; exact ⟨v, by simpa using e1, e2⟩
theorem RpAll.of_get {vs : List V} {ds : List PyData} (h : RpAll K F vs ds) {i : Nat} {v : V} (e : vs[i]? = some v) : ∃ d, ds[i]? = some d ∧ Rp K F v d := by
  induction ds generalizing vs i with
  | nil => cases h; simp at e
  | cons d0 ds ih =>
    cases h with
    | cons h r =>
      cases i with
      | zero => simp at e; subst e; exact ⟨_, rfl, h⟩
      | succ i => simp at e; obtain ⟨d, e1, e2⟩ := ih r e; exact ⟨d, by simpa using e1, e2⟩
theorem RpAll.append {vs ws : List V} {ds es : List PyData} (h : RpAll K F vs ds) (h' : RpAll K F ws es) : RpAll K F (vs ++ ws) (ds ++ es) := by
  induction ds generalizing vs with
  | nil => cases h; exact h'
  | cons d ds ih => cases h with | cons h r => exact .cons h (ih r)
theorem RpAll.take {vs : List V} {ds : List PyData} (h : RpAll K F vs ds) (n : Nat) : RpAll K F (vs.take n) (ds.take n) := by
  induction ds generalizing vs n with
  | nil => cases h; simp; exact .nil
  | cons d ds ih => cases h with | cons h r => cases n with
    | zero => exact .nil
    | succ n => exact .cons h (ih r n)
theorem RpAll.drop {vs : List V} {ds : List PyData} (h : RpAll K F vs ds) (n : Nat) : RpAll K F (vs.drop n) (ds.drop n) := by
  induction ds generalizing vs n with
  | nil => cases h; simp; exact .nil
  | cons d ds ih => cases h with | cons h r => cases n with
    | zero => exact .cons h r
    | succ n => exact ih r n
theorem RpAll.set {vs : List V} {ds : List PyData} (h : RpAll K F vs ds) (n : Nat) {v : V} {d : PyData} (hv : Rp K F v d) : RpAll K F (vs.set n v) (ds.set n d) := by
  induction ds generalizing vs n with
  | nil => cases h; exact .nil
  | cons d0 ds ih => cases h with | cons h r => cases n with
    | zero => exact .cons hv r
    | succ n => exact .cons h (ih r n)
theorem RpAll.one {v : V} {d : PyData} (h : Rp K F v d) : RpAll K F [v] [d] := .cons h .nil
theorem RpAll.two {v v' : V} {d d' : PyData} (h : Rp K F v d) (h' : Rp K F v' d') : RpAll K F [v, v'] [d, d'] := .cons h (.one h')
theorem RpAll.ints {ns : List Int} : RpAll K F (ns.map .int) (ns.map .int) := by
  induction ns with
  | nil => exact .nil
  | cons n ns ih => exact .cons (.int n) ih
theorem RpAll.bools {bs : List Bool} : RpAll K F (bs.map .bl) (bs.map .bool) := by
  induction bs with
  | nil => exact .nil
  | cons n ns ih => exact .cons (.bl n) ih
theorem RpAll.of_bools {vs : List V} {bs : List Bool} (h : RpAll K F vs (bs.map .bool)) : vs = bs.map .bl := by
  induction bs generalizing vs with
  | nil => cases h; rfl
  | cons b bs ih => cases h with | cons h r => cases h; rw [ih r]; rfl
theorem RpAll.of_ints {vs : List V} {bs : List Int} (h : RpAll K F vs (bs.map .int)) : vs = bs.map .int := by
  induction bs generalizing vs with
  | nil => cases h; rfl
  | cons b bs ih => cases h with | cons h r => cases h; rw [ih r]; rfl
theorem RpAll.of_strs {vs : List V} {bs : List Str} (h : RpAll K F vs (bs.map .str)) : vs = bs.map .str := by
  induction bs generalizing vs with
  | nil => cases h; rfl
  | cons b bs ih => cases h with | cons h r => cases h; rw [ih r]; rfl

/-- the frozen part grows, what stood stands (but M), what was not frozen stays so -/
structure Sx (M : List Addr) (F H F' H' : Hp) : Prop where
  ff : Same F F'
  fh : Same F' H'
  hh : ∀ b o, b ∉ M → H b = some o → H' b = some o
  th : ∀ b, H b ≠ none → H' b ≠ none
  sep : ∀ b, F b = none → H b ≠ none → F' b = none
theorem Sx.refl {M : List Addr} (e : Same F H) : Sx M F H F H := ⟨Same.refl F, e, fun _ _ _ h => h, fun _ h => h, fun _ h _ => h⟩
theorem Sx.trans {M : List Addr} (a : Sx M F H F1 H1) (b : Sx M F1 H1 F2 H2) : Sx M F H F2 H2 :=
  ⟨a.ff.trans b.ff, b.fh, fun c o hc h => b.hh c o hc (a.hh c o hc h), fun c h => b.th c (a.th c h), fun c h1 h2 => b.sep c (a.sep c h1 h2) (a.th c h2)⟩
theorem Sx.up {M : List Addr} (a : Sx [] F H F1 H1) : Sx M F H F1 H1 := ⟨a.ff, a.fh, fun c o _ h => a.hh c o (by simp) h, a.th, a.sep⟩
theorem Sx.mono {M M' : List Addr} (hm : ∀ b ∈ M, b ∈ M') (a : Sx M F H F1 H1) : Sx M' F H F1 H1 := ⟨a.ff, a.fh, fun c o hc h => a.hh c o (fun z => hc (hm _ z)) h, a.th, a.sep⟩
theorem Sx.same (a : Sx [] F H F1 H1) : Same H H1 := fun b o h => a.hh b o (by simp) h
theorem none_of_same {p : Addr} (e : Same F H) (h : H p = none) : F p = none := by
  cases q : F p with
  | none => rfl
  | some o => rw [e _ _ q] at h; cases h
/-- a new object, frozen at once -/
theorem Sx.new {M : List Addr} (e : Same F H) {p : Addr} (o : HO) (h : H p = none) : Sx M F H (upd F p o) (upd H p o) where
  ff := fun b u q => by rw [upd_ne (fun z => by subst z; rw [none_of_same e h] at q; cases q)]; exact q
  fh := fun b u q => by
    by_cases hb : b = p
    · subst hb; rw [upd_same] at q ⊢; exact q
    · rw [upd_ne hb] at q ⊢; exact e _ _ q
  hh := fun b u _ q => by rw [upd_ne (ne_of_none q h)]; exact q
  th := fun b q => by
    by_cases hb : b = p
    · subst hb; exact absurd h q
    · rw [upd_ne hb]; exact q
  sep := fun b q r => by
    by_cases hb : b = p
    · subst hb; exact absurd h r
    · rw [upd_ne hb]; exact q
/-- a new object that may change -/
theorem Sx.newM {M : List Addr} (e : Same F H) {p : Addr} (o : HO) (h : H p = none) : Sx M F H F (upd H p o) where
  ff := Same.refl F
  fh := fun b u q => by rw [upd_ne (fun z => by subst z; rw [none_of_same e h] at q; cases q)]; exact e _ _ q
  hh := fun b u _ q => by rw [upd_ne (ne_of_none q h)]; exact q
  th := fun b q => by
    by_cases hb : b = p
    · subst hb; exact absurd h q
    · rw [upd_ne hb]; exact q
  sep := fun b q r => q
/-- an object of ours (new since the entry, or in M), not frozen, changes -/
theorem Sx.put {M : List Addr} (s : Sx M F H F1 H1) {p : Addr} (o : HO) (h : p ∈ M ∨ H p = none) (hf : F1 p = none) : Sx M F H F1 (upd H1 p o) where
  ff := s.ff
  fh := fun b u q => by rw [upd_ne (fun z => by subst z; rw [hf] at q; cases q)]; exact s.fh _ _ q
  hh := fun b u hb q => by
    rcases h with h | h
    · rw [upd_ne (fun z => by subst z; exact hb h)]; exact s.hh _ _ hb q
    · rw [upd_ne (ne_of_none q h)]; exact s.hh _ _ hb q
  th := fun b q => by
    by_cases hb : b = p
    · subst hb; rw [upd_same]; simp
    · rw [upd_ne hb]; exact s.th b q
  sep := s.sep
/-- an object of ours is frozen as it stands -/
theorem Sx.fix {M : List Addr} (s : Sx M F H F1 H1) {p : Addr} {o : HO} (h : H p = none) (hp : H1 p = some o) (hf : F1 p = none) : Sx M F H (upd F1 p o) H1 where
  ff := fun b u q => by rw [upd_ne (fun z => by subst z; rw [s.ff _ _ q] at hf; cases hf)]; exact s.ff _ _ q
  fh := fun b u q => by
    by_cases hb : b = p
    · subst hb; rw [upd_same] at q; rw [hp]; exact q
    · rw [upd_ne hb] at q; exact s.fh _ _ q
  hh := s.hh
  th := s.th
  sep := fun b q r => by
    by_cases hb : b = p
    · subst hb; exact absurd h r
    · rw [upd_ne hb]; exact s.sep b q r
theorem fix_same {p : Addr} {o : HO} (hf : F p = none) : Same F (upd F p o) := fun b u q => by
  rw [upd_ne (fun z => by subst z; rw [hf] at q; cases q)]; exact q

/-! ### what evaluates to what -/
def EvD (K : PySem.W.Frag) (M : List Addr) (te : TE) (σ : L2.St) (F H : Hp) (d : PyData) : Prop :=
  ∀ F1 H1, Sx M F H F1 H1 → ∀ Q : VK, (∀ F2 H2 v, Sx [] F1 H1 F2 H2 → Rp K F2 v d → Q v H2) → te σ H1 Q
/-- a new list (not frozen yet) -/
def EvN (K : PySem.W.Frag) (M : List Addr) (te : TE) (σ : L2.St) (F H : Hp) (ds : List PyData) : Prop :=
  ∀ F1 H1, Sx M F H F1 H1 → ∀ Q : VK, (∀ F2 H2 p vs, Sx [] F1 H1 F2 H2 → H1 p = none → F2 p = none → H2 p = some (.lst vs) → RpAll K F2 vs ds → Q (.ref p) H2) → te σ H1 Q
def EvT (K : PySem.W.Frag) (M : List Addr) (tt : TT) (σ : L2.St) (F H : Hp) (b : Bool) : Prop :=
  ∀ F1 H1, Sx M F H F1 H1 → ∀ Q : Bool → Hp → Prop, (∀ F2 H2, Sx [] F1 H1 F2 H2 → Q b H2) → tt σ H1 Q
def EvA (K : PySem.W.Frag) (M : List Addr) (ta : TA) (σ : L2.St) (F H : Hp) (ds : List PyData) : Prop :=
  ∀ F1 H1, Sx M F H F1 H1 → ∀ Q : List V → Hp → Prop, (∀ F2 H2 vs, Sx [] F1 H1 F2 H2 → RpAll K F2 vs ds → Q vs H2) → ta σ H1 Q
def EvO (K : PySem.W.Frag) (M : List Addr) (to : TO) (σ : L2.St) (F H : Hp) (o : Option Int) : Prop :=
  ∀ F1 H1, Sx M F H F1 H1 → ∀ Q : Option Int → Hp → Prop, (∀ F2 H2, Sx [] F1 H1 F2 H2 → Q o H2) → to σ H1 Q
/-- operations on data -/
def RV (K : PySem.W.Frag) (r : R2) (x y z : PyData) : Prop :=
  ∀ F H v w, Same F H → Rp K F v x → Rp K F w y → ∀ Q : VK, (∀ F2 H2 u, Sx [] F H F2 H2 → Rp K F2 u z → Q u H2) → r v w H Q
def RU (K : PySem.W.Frag) (r : V → Hp → VK → Prop) (x z : PyData) : Prop :=
  ∀ F H v, Same F H → Rp K F v x → ∀ Q : VK, (∀ F2 H2 u, Sx [] F H F2 H2 → Rp K F2 u z → Q u H2) → r v H Q
def RC (K : PySem.W.Frag) (r : List V → Hp → VK → Prop) (xs : List PyData) (z : PyData) : Prop :=
  ∀ F H vs, Same F H → RpAll K F vs xs → ∀ Q : VK, (∀ F2 H2 u, Sx [] F H F2 H2 → Rp K F2 u z → Q u H2) → r vs H Q
/-- the truth of data -/
def truthD : PyData → Option Bool
  | .none => some false
  | .bool b => some b
  | .int i => some (i != 0)
  | .list ds => some (!ds.isEmpty)
  | .tuple ds => some (!ds.isEmpty)
  | _ => none

variable {M : List Addr} {σ : L2.St} {te ta tb tc : TE} {tt tu : TT} {d x y z : PyData} {r r' : R2}
theorem EvD.mono {F' H' : Hp} (s : Sx M F H F' H') (h : EvD K M te σ F H d) : EvD K M te σ F' H' d := fun F1 H1 a Q q => h F1 H1 (s.trans a) Q q
theorem EvD.is (h : EvD K M te σ F H x) (e : x = y) : EvD K M te σ F H y := e ▸ h
theorem EvT.is {a b : Bool} (h : EvT K M tt σ F H a) (e : a = b) : EvT K M tt σ F H b := e ▸ h
theorem ev_var {i : Nat} {v : V} (h : σ[i]? = some (some v)) (r : Rp K F v d) : EvD K M (tVar i) σ F H d := fun F1 H1 s Q q => ⟨v, h, q F1 H1 v (Sx.refl s.fh) (r.mono s.ff)⟩
theorem ev_c {v : V} (r : Rp K F v d) : EvD K M (tC v) σ F H d := fun F1 H1 s Q q => q F1 H1 v (Sx.refl s.fh) (r.mono s.ff)
theorem ev_int {i : Int} : EvD K M (tC (.int i)) σ F H (.int i) := ev_c (.int i)
theorem ev_bl {i : Bool} : EvD K M (tC (.bl i)) σ F H (.bool i) := ev_c (.bl i)
theorem ev_str {i : Str} : EvD K M (tC (.str i)) σ F H (.str i) := ev_c (.str i)
theorem ev_non : EvD K M (tC .non) σ F H .none := ev_c .non
theorem ev_op (ha : EvD K M ta σ F H x) (hb : EvD K M tb σ F H y) (hr : RV K r x y z) : EvD K M (tOp r ta tb) σ F H z := fun F1 H1 s Q q =>
  ha F1 H1 s _ fun F2 H2 v s2 rv => hb F2 H2 (s.trans s2.up) _ fun F3 H3 w s3 rw => hr F3 H3 v w s3.fh (rv.mono s3.ff) rw Q fun F4 H4 u s4 ru => q F4 H4 u ((s2.trans s3).trans s4) ru
theorem ev_un {r : V → Hp → VK → Prop} (ha : EvD K M ta σ F H x) (hr : RU K r x z) : EvD K M (tUn r ta) σ F H z := fun F1 H1 s Q q =>
  ha F1 H1 s _ fun F2 H2 v s2 rv => hr F2 H2 v s2.fh rv Q fun F4 H4 u s4 ru => q F4 H4 u (s2.trans s4) ru
theorem ea_nil : EvA K M tNil σ F H [] := fun F1 H1 s Q q => q F1 H1 [] (Sx.refl s.fh) .nil
theorem ea_cons {tr : TA} {ds : List PyData} (h : EvD K M ta σ F H x) (hr : EvA K M tr σ F H ds) : EvA K M (tCons ta tr) σ F H (x :: ds) := fun F1 H1 s Q q =>
  h F1 H1 s _ fun F2 H2 v s2 rv => hr F2 H2 (s.trans s2.up) _ fun F3 H3 vs s3 rs => q F3 H3 (v :: vs) (s2.trans s3) (.cons (rv.mono s3.ff) rs)
theorem ev_cb {r : List V → Hp → VK → Prop} {ta : TA} {ds : List PyData} (h : EvA K M ta σ F H ds) (hr : RC K r ds z) : EvD K M (tCB r ta) σ F H z := fun F1 H1 s Q q =>
  h F1 H1 s _ fun F2 H2 vs s2 rs => hr F2 H2 vs s2.fh rs Q fun F4 H4 u s4 ru => q F4 H4 u (s2.trans s4) ru
theorem ev_tup {ta : TA} {ds : List PyData} (h : EvA K M ta σ F H ds) (hl : ds.length ≤ 1000) : EvD K M (tTup ta) σ F H (.tuple ds) := fun F1 H1 s Q q =>
  h F1 H1 s _ fun F2 H2 vs s2 rs => ⟨Nat.le_of_lt (small1000 (by rw [rs.length]; exact hl)), fun p hp => q (upd F2 p (.tup vs)) _ _ (s2.trans (Sx.new s2.fh _ hp)) (.tup (.inl (.inl upd_same)) (rs.mono (fix_same (none_of_same s2.fh hp))))⟩
theorem en_lst {ta : TA} {ds : List PyData} (h : EvA K M ta σ F H ds) (hl : ds.length ≤ 1000) : EvN K M (tLst ta) σ F H ds := fun F1 H1 s Q q =>
  h F1 H1 s _ fun F2 H2 vs s2 rs => ⟨Nat.le_of_lt (small1000 (by rw [rs.length]; exact hl)), fun p hp => q F2 _ p vs (s2.trans (Sx.newM s2.fh _ hp)) (Same.free s2.same hp) (none_of_same s2.fh hp) upd_same rs⟩
theorem EvN.ev {ds : List PyData} (h : EvN K M te σ F H ds) : EvD K M te σ F H (.list ds) := fun F1 H1 s Q q =>
  h F1 H1 s _ fun F2 H2 p vs s2 n1 n2 e rs => q (upd F2 p (.lst vs)) H2 _ (Sx.fix s2 n1 e n2) (.lst upd_same (rs.mono (fix_same n2)))
theorem ev_lst {ta : TA} {ds : List PyData} (h : EvA K M ta σ F H ds) (hl : ds.length ≤ 1000) : EvD K M (tLst ta) σ F H (.list ds) := (en_lst h hl).ev
theorem eo_none : EvO K M tNoPart σ F H none := fun F1 H1 s Q q => q F1 H1 (Sx.refl s.fh)
theorem eo_some {i : Int} (h : EvD K M te σ F H (.int i)) : EvO K M (tPart te) σ F H (some i) := fun F1 H1 s Q q => h F1 H1 s _ fun F2 H2 v s2 rv => ⟨i, by cases rv; rfl, q F2 H2 s2⟩

/-! ### tests -/
theorem et_test {b : Bool} (h : EvD K M te σ F H (.bool b)) : EvT K M (tTest te) σ F H b := fun F1 H1 s Q q => h F1 H1 s _ fun F2 H2 v s2 rv => ⟨b, by cases rv; rfl, q F2 H2 s2⟩
theorem et_B {b : Bool} (h : EvD K M te σ F H (.bool b)) : EvT K M (tB te) σ F H b := fun F1 H1 s Q q => h F1 H1 s _ fun F2 H2 v s2 rv => ⟨b, by cases rv; rfl, q F2 H2 s2⟩
theorem truV_of {v : V} {b : Bool} (e : Same F H) (rv : Rp K F v d) (h : truthD d = some b) : TruV K v H b := by
  cases rv with
  | non => cases h; rfl
  | bl c => cases h; rfl
  | int i => cases h; rfl
  | str x => cases h
  | @lst a xs ds h1 r => cases h; exact .inl ⟨xs, .inl (.inl (e _ _ h1)), by cases r <;> rfl⟩
  | @tup a xs ds h1 r => cases h; exact .inr (.inl ⟨xs, same_t e h1, by cases r <;> rfl⟩)
theorem et_tru {b : Bool} (h : EvD K M te σ F H d) (hd : truthD d = some b) : EvT K M (fun σ H Q => te σ H fun x H' => ∃ k, TruV K x H' k ∧ Q k H') σ F H b := fun F1 H1 s Q q => h F1 H1 s _ fun F2 H2 v s2 rv => ⟨b, truV_of s2.fh rv hd, q F2 H2 s2⟩
theorem et_and {a b : Bool} (h1 : EvT K M tt σ F H a) (h2 : a = true → EvT K M tu σ F H b) : EvT K M (tAnd tt tu) σ F H (a && b) := fun F1 H1 s Q q => h1 F1 H1 s _ fun F2 H2 s2 => by
  cases a with
  | true =>
    show tu σ H2 Q
    exact h2 rfl F2 H2 (s.trans s2.up) Q fun F3 H3 s3 => q F3 H3 (s2.trans s3)
  | false =>
    show Q false H2
    exact q F2 H2 s2
theorem et_or {a b : Bool} (h1 : EvT K M tt σ F H a) (h2 : a = false → EvT K M tu σ F H b) : EvT K M (tOr tt tu) σ F H (a || b) := fun F1 H1 s Q q => h1 F1 H1 s _ fun F2 H2 s2 => by
  cases a with
  | true =>
    show Q true H2
    exact q F2 H2 s2
  | false =>
    show tu σ H2 Q
    exact h2 rfl F2 H2 (s.trans s2.up) Q fun F3 H3 s3 => q F3 H3 (s2.trans s3)
theorem et_not {a : Bool} (h1 : EvT K M tt σ F H a) : EvT K M (tNot tt) σ F H (!a) := fun F1 H1 s Q q => h1 F1 H1 s _ fun F2 H2 s2 => q F2 H2 s2
theorem ev_notT {b : Bool} (h : EvD K M te σ F H d) (hd : truthD d = some b) : EvD K M (tNotT K te) σ F H (.bool (!b)) := fun F1 H1 s Q q => h F1 H1 s _ fun F2 H2 v s2 rv => ⟨b, truV_of s2.fh rv hd, q F2 H2 _ s2 (.bl _)⟩
theorem ev_andT {b : Bool} (h : EvD K M ta σ F H x) (hd : truthD x = some b) (h1 : b = true → EvD K M tb σ F H z) (h2 : b = false → x = z) : EvD K M (tAndT K ta tb) σ F H z := fun F1 H1 s Q q => h F1 H1 s _ fun F2 H2 v s2 rv => ⟨b, truV_of s2.fh rv hd, by
  cases b with
  | true =>
    show tb σ H2 Q
    exact h1 rfl F2 H2 (s.trans s2.up) Q fun F3 H3 v s3 rv => q F3 H3 v (s2.trans s3) rv
  | false =>
    show Q v H2
    exact q F2 H2 v s2 (h2 rfl ▸ rv)⟩
theorem ev_orT {b : Bool} (h : EvD K M ta σ F H x) (hd : truthD x = some b) (h1 : b = false → EvD K M tb σ F H z) (h2 : b = true → x = z) : EvD K M (tOrT K ta tb) σ F H z := fun F1 H1 s Q q => h F1 H1 s _ fun F2 H2 v s2 rv => ⟨b, truV_of s2.fh rv hd, by
  cases b with
  | true =>
    show Q v H2
    exact q F2 H2 v s2 (h2 rfl ▸ rv)
  | false =>
    show tb σ H2 Q
    exact h1 rfl F2 H2 (s.trans s2.up) Q fun F3 H3 v s3 rv => q F3 H3 v (s2.trans s3) rv⟩
/-- and, or of truths -/
theorem ev_andB {a b : Bool} (h : EvD K M ta σ F H (.bool a)) (h1 : a = true → EvD K M tb σ F H (.bool b)) : EvD K M (tAndT K ta tb) σ F H (.bool (a && b)) :=
  ev_andT h rfl (fun e => by rw [e]; exact h1 e) (fun e => by rw [e]; rfl)
theorem ev_orB {a b : Bool} (h : EvD K M ta σ F H (.bool a)) (h1 : a = false → EvD K M tb σ F H (.bool b)) : EvD K M (tOrT K ta tb) σ F H (.bool (a || b)) :=
  ev_orT h rfl (fun e => by rw [e]; exact h1 e) (fun e => by rw [e]; rfl)
theorem ev_if {b : Bool} (h : EvT K M tt σ F H b) (h1 : b = true → EvD K M ta σ F H z) (h2 : b = false → EvD K M tb σ F H z) : EvD K M (tIf tt ta tb) σ F H z := fun F1 H1 s Q q => h F1 H1 s _ fun F2 H2 s2 => by
  cases b with
  | true =>
    show ta σ H2 Q
    exact h1 rfl F2 H2 (s.trans s2.up) Q fun F3 H3 v s3 rv => q F3 H3 v (s2.trans s3) rv
  | false =>
    show tb σ H2 Q
    exact h2 rfl F2 H2 (s.trans s2.up) Q fun F3 H3 v s3 rv => q F3 H3 v (s2.trans s3) rv
/-- the value is told by if -/
theorem ev_ifB {b : Bool} {x y : PyData} (h : EvT K M tt σ F H b) (h1 : b = true → EvD K M ta σ F H x) (h2 : b = false → EvD K M tb σ F H y) : EvD K M (tIf tt ta tb) σ F H (if b = true then x else y) :=
  ev_if h (fun e => by rw [if_pos e]; exact h1 e) (fun e => by rw [if_neg (by rw [e]; decide)]; exact h2 e)
theorem ev_chain {a b : Bool} {w : PyData} (ha : EvD K M ta σ F H x) (hb : EvD K M tb σ F H y) (hr : RV K r x y (.bool a)) (hc : a = true → EvD K M tc σ F H w) (hr' : a = true → RV K r' y w (.bool b)) : EvD K M (tChain r r' ta tb tc) σ F H (.bool (a && b)) := fun F1 H1 s Q q =>
  ha F1 H1 s _ fun F2 H2 v s2 rv => hb F2 H2 (s.trans s2.up) _ fun F3 H3 w s3 rw => hr F3 H3 v w s3.fh (rv.mono s3.ff) rw _ fun F4 H4 u s4 ru => ⟨a, by cases ru; rfl, by
    have s4' := (s2.trans s3).trans s4
    cases a with
    | false => exact q F4 H4 _ s4' (.bl false)
    | true =>
      show tc σ H4 _
      exact hc rfl F4 H4 (s.trans s4'.up) _ fun F5 H5 c s5 rc => hr' rfl F5 H5 w c s5.fh ((rw.mono s4.ff).mono s5.ff) rc Q fun F6 H6 u6 s6 ru6 => q F6 H6 u6 ((s4'.trans s5).trans s6) ru6⟩
end
end Sf

namespace Sf
open PySem L2
section
variable {K : PySem.W.Frag} {F H F' H' F1 H1 F2 H2 : Hp} {M : List Addr} {σ : L2.St} {te ta tb tc tl : TE} {tt tu : TT} {d x y z : PyData} {r r' : R2} {D : Ends} {tw tz : TS}
/-! ### operations on data -/
theorem rv_I0i {f : Int → Int → Int} {i j : Int} : RV K (rI0 fun i j => V.int (f i j)) (.int i) (.int j) (.int (f i j)) := fun F H v w e rv rw Q q => by
  cases rv; cases rw
  exact ⟨i, j, rfl, rfl, q F H _ (Sx.refl e) (.int _)⟩
theorem rv_I0b {f : Int → Int → Bool} {i j : Int} : RV K (rI0 fun i j => V.bl (f i j)) (.int i) (.int j) (.bool (f i j)) := fun F H v w e rv rw Q q => by
  cases rv; cases rw
  exact ⟨i, j, rfl, rfl, q F H _ (Sx.refl e) (.bl _)⟩
theorem rv_Ii {C : Int → Int → Prop} {f : Int → Int → Int} {i j : Int} (hc : C i j) : RV K (rI C fun i j => V.int (f i j)) (.int i) (.int j) (.int (f i j)) := fun F H v w e rv rw Q q => by
  cases rv; cases rw
  exact ⟨i, j, rfl, rfl, hc, q F H _ (Sx.refl e) (.int _)⟩
theorem rv_eqD (hx : SeqAt.shaped x = true) (hy : SeqAt.shaped y = true) : RV K (rEqD K) x y (.bool (PyData.eqv x y)) := fun F H v w e rv rw Q q =>
  ⟨x, y, (rv.mono e).dp, (rw.mono e).dp, hx, hy, q F H _ (Sx.refl e) (.bl _)⟩
theorem rv_neD (hx : SeqAt.shaped x = true) (hy : SeqAt.shaped y = true) : RV K (rNeD K) x y (.bool (!PyData.eqv x y)) := fun F H v w e rv rw Q q =>
  ⟨x, y, (rv.mono e).dp, (rw.mono e).dp, hx, hy, q F H _ (Sx.refl e) (.bl _)⟩
def isNon : PyData → Bool
  | .none => true
  | _ => false
theorem isNon_of {v : V} (rv : Rp K F v x) : decide (v = V.non) = isNon x := by cases rv <;> rfl
theorem rv_isN : RV K (fun x y H Q => y = V.non ∧ Q (.bl (decide (x = V.non))) H) x .none (.bool (isNon x)) := fun F H v w e rv rw Q q => by
  cases rw
  exact ⟨rfl, by rw [isNon_of rv]; exact q F H _ (Sx.refl e) (.bl _)⟩
theorem rv_notN : RV K (fun x y H Q => y = V.non ∧ Q (.bl (!decide (x = V.non))) H) x .none (.bool (!isNon x)) := fun F H v w e rv rw Q q => by
  cases rw
  exact ⟨rfl, by rw [isNon_of rv]; exact q F H _ (Sx.refl e) (.bl _)⟩
theorem RpAll.rep {vs : List V} {ds : List PyData} (h : RpAll K F vs ds) (n : Nat) : RpAll K F (List.replicate n vs).flatten (List.replicate n ds).flatten := by
  induction n with
  | zero => exact .nil
  | succ n ih => rw [List.replicate_succ, List.replicate_succ, List.flatten_cons, List.flatten_cons]; exact h.append ih
theorem rv_rep {ds : List PyData} {k : Int} (hk : -(2 ^ 63) ≤ k ∧ k < 2 ^ 63) (hl : ds.length * k.toNat ≤ 1000000) : RV K rRep (.list ds) (.int k) (.list (List.replicate k.toNat ds).flatten) := fun F H v w e rv rw Q q => by
  cases rw
  cases rv with
  | @lst a xs _ h r =>
    exact ⟨a, k, xs, rfl, rfl, e _ _ h, hk.1, hk.2, by rw [r.length]; exact Nat.le_trans hl (by decide), fun p hp => q _ _ _ (Sx.new e _ hp) (.lst upd_same ((r.rep _).mono (fix_same (none_of_same e hp))))⟩
theorem rv_cat {ds es : List PyData} (hl : ds.length + es.length ≤ 1000000) : RV K rCat (.list ds) (.list es) (.list (ds ++ es)) := fun F H v w e rv rw Q q => by
  cases rv with
  | @lst a xs _ h r =>
    cases rw with
    | @lst b ys _ h' r' =>
      exact ⟨a, b, xs, ys, rfl, rfl, e _ _ h, e _ _ h', by rw [r.length, r'.length]; exact Nat.le_trans hl (by decide), fun p hp => q _ _ _ (Sx.new e _ hp) (.lst upd_same ((r.append r').mono (fix_same (none_of_same e hp))))⟩
theorem rv_catA {ds es : List PyData} (hl : ds.length + es.length ≤ 1000000) : RV K (rCatA K) (.tuple ds) (.tuple es) (.tuple (ds ++ es)) := fun F H v w e rv rw Q q => by
  cases rv with
  | @tup a xs _ h r =>
    cases rw with
    | @tup b ys _ h' r' =>
      refine ⟨a, b, xs, ys, rfl, rfl, same_t e h, same_t e h', by rw [r.length, r'.length]; exact Nat.le_trans hl (by decide), fun z => ?_, fun _ z => ?_, fun _ _ p hp => q _ _ _ (Sx.new e _ hp) (.tup (.inl (.inl upd_same)) ((r.append r').mono (fix_same (none_of_same e hp))))⟩
      · subst z
        cases r
        exact q F H _ (Sx.refl e) (.tup h' r')
      · subst z
        cases r'
        rw [List.append_nil] at q
        exact q F H _ (Sx.refl e) (.tup h r)
theorem atI_map {vs : List V} {ds : List PyData} (r : RpAll K F vs ds) {i : Int} (h : atI ds i = some d) : ∃ v, atI vs i = some v ∧ Rp K F v d := by
  unfold atI at h ⊢
  rw [r.length]
  cases e : ixN ds.length i with
  | none => rw [e] at h; cases h
  | some j => rw [e] at h; exact r.get h
theorem rv_ixl {ds : List PyData} {i : Int} (h : atI ds i = some d) : RV K (rIx K) (.list ds) (.int i) d := fun F H v w e rv rw Q q => by
  cases rw
  cases rv with
  | @lst a xs _ h' r =>
    obtain ⟨u, hu, ru⟩ := atI_map r h
    exact .inl ⟨a, xs, i, u, rfl, rfl, .inl (.inl (e _ _ h')), hu, q F H _ (Sx.refl e) ru⟩
theorem rv_ixt {ds : List PyData} {i : Int} (h : atI ds i = some d) : RV K (rIx K) (.tuple ds) (.int i) d := fun F H v w e rv rw Q q => by
  cases rw
  cases rv with
  | @tup a xs _ h' r =>
    obtain ⟨u, hu, ru⟩ := atI_map r h
    exact .inr (.inl ⟨a, xs, i, u, rfl, rfl, same_t e h', hu, q F H _ (Sx.refl e) ru⟩)
theorem rv_ixs {w : Str} {i : Int} {c : Nat} (hl : w.length ≤ 1000000) (h : atI w.cps.toList i = some c) : RV K (rIx K) (.str w) (.int i) (.str ⟨#[c]⟩) := fun F H v u e rv ru Q q => by
  cases rv; cases ru
  exact .inr (.inr ⟨w, i, c, rfl, rfl, Nat.le_trans hl (by decide), h, q F H _ (Sx.refl e) (.str _)⟩)
theorem rv_or1 {r1 r2 : R2} (h : RV K r1 x y z) : RV K (fun x y H Q => r1 x y H Q ∨ r2 x y H Q) x y z := fun F H v w e rv rw Q q => .inl (h F H v w e rv rw Q q)
theorem rv_or2 {r1 r2 : R2} (h : RV K r2 x y z) : RV K (fun x y H Q => r1 x y H Q ∨ r2 x y H Q) x y z := fun F H v w e rv rw Q q => .inr (h F H v w e rv rw Q q)
theorem rv_neg {i : Int} : RU K (rU fun i => .int (-i)) (.int i) (.int (-i)) := fun F H v e rv Q q => by cases rv; exact ⟨i, rfl, q F H _ (Sx.refl e) (.int _)⟩
/-- slices -/
def cut {α : Type} (xs : List α) (lo hi : Option Int) : List α := (xs.drop (HT.sIx xs.length 0 lo)).take (HT.sIx xs.length xs.length hi - HT.sIx xs.length 0 lo)
theorem RpAll.cut {vs : List V} {ds : List PyData} (h : RpAll K F vs ds) (lo hi : Option Int) : RpAll K F (cutV vs lo hi) (cut ds lo hi) := by
  unfold cutV Sf.cut
  rw [h.length]
  exact (h.drop _).take _
theorem cut_map {α β : Type} (f : α → β) (xs : List α) (lo hi : Option Int) : cut (xs.map f) lo hi = (cut xs lo hi).map f := by
  unfold cut
  rw [List.length_map, List.map_take, List.map_drop]
theorem ev_slL {tl th : TO} {ds : List PyData} {lo hi : Option Int} (h : EvD K M te σ F H (.list ds)) (h1 : EvO K M tl σ F H lo) (h2 : EvO K M th σ F H hi) : EvD K M (tSl (rSlL K) te tl th) σ F H (.list (cut ds lo hi)) := fun F1 H1 s Q q =>
  h F1 H1 s _ fun F2 H2 v s2 rv => h1 F2 H2 (s.trans s2.up) _ fun F3 H3 s3 => h2 F3 H3 ((s.trans s2.up).trans s3.up) _ fun F4 H4 s4 => by
    have s5 := (s2.trans s3).trans s4
    have rv5 := (rv.mono s3.ff).mono s4.ff
    cases rv5 with
    | @lst a xs _ h' r => exact ⟨a, xs, rfl, .inl (.inl (s4.fh _ _ h')), fun p hp => q _ _ _ (s5.trans (Sx.new s4.fh _ hp)) (.lst upd_same ((r.cut lo hi).mono (fix_same (none_of_same s4.fh hp))))⟩
theorem ev_slT {tl th : TO} {ds : List PyData} {lo hi : Option Int} (h : EvD K M te σ F H (.tuple ds)) (h1 : EvO K M tl σ F H lo) (h2 : EvO K M th σ F H hi) : EvD K M (tSl (rSlA K) te tl th) σ F H (.tuple (cut ds lo hi)) := fun F1 H1 s Q q =>
  h F1 H1 s _ fun F2 H2 v s2 rv => h1 F2 H2 (s.trans s2.up) _ fun F3 H3 s3 => h2 F3 H3 ((s.trans s2.up).trans s3.up) _ fun F4 H4 s4 => by
    have s5 := (s2.trans s3).trans s4
    have rv5 := (rv.mono s3.ff).mono s4.ff
    cases rv5 with
    | @tup a xs _ h' r =>
      refine ⟨a, xs, rfl, same_t s4.fh h', fun z => ?_, fun _ p hp => q _ _ _ (s5.trans (Sx.new s4.fh _ hp)) (.tup (.inl (.inl upd_same)) ((r.cut lo hi).mono (fix_same (none_of_same s4.fh hp))))⟩
      have e : cut ds lo hi = ds := by
        unfold cut
        rw [← r.length, z.1, z.2, List.drop_zero, Nat.sub_zero, List.take_of_length_le (by rw [r.length]; exact Nat.le_refl _)]
      rw [e] at q
      exact q F4 H4 _ s5 (.tup h' r)
/-! ### calls of built-ins -/
theorem rc_lenL {ds : List PyData} : RC K (fun xs H Q => ∃ x n, xs = [x] ∧ LenV K x H n ∧ Q (V.int (n : Int)) H) [.list ds] (.int (ds.length : Int)) := fun F H vs e rs Q q => by
  cases rs with | cons h r => cases r; cases h with
    | @lst a xs _ h' r' => exact ⟨_, _, rfl, .inl ⟨xs, .inl (.inl (e _ _ h')), rfl⟩, by rw [r'.length]; exact q F H _ (Sx.refl e) (.int _)⟩
theorem rc_lenT {ds : List PyData} : RC K (fun xs H Q => ∃ x n, xs = [x] ∧ LenV K x H n ∧ Q (V.int (n : Int)) H) [.tuple ds] (.int (ds.length : Int)) := fun F H vs e rs Q q => by
  cases rs with | cons h r => cases r; cases h with
    | @tup a xs _ h' r' => exact ⟨_, _, rfl, .inr ⟨xs, same_t e h', rfl⟩, by rw [r'.length]; exact q F H _ (Sx.refl e) (.int _)⟩
theorem rc_lenS {w : Str} (hl : w.length ≤ 1000000) : RC K (fun xs H Q => ∃ x n, xs = [x] ∧ LenV K x H n ∧ Q (V.int (n : Int)) H) [.str w] (.int (w.length : Int)) := fun F H vs e rs Q q => by
  cases rs with | cons h r => cases r; cases h with
    | str => exact ⟨_, _, rfl, ⟨Nat.le_trans hl (by decide), rfl⟩, q F H _ (Sx.refl e) (.int _)⟩
theorem rc_listL {ds : List PyData} : RC K (fun xs H Q => ∃ p ys, xs = [V.ref p] ∧ (SqL K H p ys ∨ SqT K H p ys) ∧ ∀ (l : Addr), H l = none → Q (V.ref l) (upd H l (HO.lst ys))) [.list ds] (.list ds) := fun F H vs e rs Q q => by
  cases rs with | cons h r => cases r; cases h with
    | @lst a xs _ h' r' => exact ⟨_, _, rfl, .inl (.inl (.inl (e _ _ h'))), fun p hp => q _ _ _ (Sx.new e _ hp) (.lst upd_same (r'.mono (fix_same (none_of_same e hp))))⟩
theorem rc_listT {ds : List PyData} : RC K (fun xs H Q => ∃ p ys, xs = [V.ref p] ∧ (SqL K H p ys ∨ SqT K H p ys) ∧ ∀ (l : Addr), H l = none → Q (V.ref l) (upd H l (HO.lst ys))) [.tuple ds] (.list ds) := fun F H vs e rs Q q => by
  cases rs with | cons h r => cases r; cases h with
    | @tup a xs _ h' r' => exact ⟨_, _, rfl, .inr (same_t e h'), fun p hp => q _ _ _ (Sx.new e _ hp) (.lst upd_same (r'.mono (fix_same (none_of_same e hp))))⟩
theorem rc_tupL {ds : List PyData} : RC K (fun xs H Q => ∃ p ys, xs = [V.ref p] ∧ ((SqL K H p ys ∧ ∀ (l : Addr), H l = none → Q (V.ref l) (upd H l (HO.tup ys))) ∨ SqT K H p ys ∧ Q (V.ref p) H)) [.list ds] (.tuple ds) := fun F H vs e rs Q q => by
  cases rs with | cons h r => cases r; cases h with
    | @lst a xs _ h' r' => exact ⟨_, _, rfl, .inl ⟨.inl (.inl (e _ _ h')), fun p hp => q _ _ _ (Sx.new e _ hp) (.tup (.inl (.inl upd_same)) (r'.mono (fix_same (none_of_same e hp))))⟩⟩
theorem rc_tupT {ds : List PyData} : RC K (fun xs H Q => ∃ p ys, xs = [V.ref p] ∧ ((SqL K H p ys ∧ ∀ (l : Addr), H l = none → Q (V.ref l) (upd H l (HO.tup ys))) ∨ SqT K H p ys ∧ Q (V.ref p) H)) [.tuple ds] (.tuple ds) := fun F H vs e rs Q q => by
  cases rs with | cons h r => cases r; cases h with
    | @tup a xs _ h' r' => exact ⟨_, _, rfl, .inr ⟨same_t e h', q F H _ (Sx.refl e) (.tup h' r')⟩⟩
theorem rc_max2 {i j : Int} : RC K (fun xs H Q => ∃ i j, xs = [V.int i, V.int j] ∧ Q (V.int (if j > i then j else i)) H) [.int i, .int j] (.int (max i j)) := fun F H vs e rs Q q => by
  cases rs with | cons h r => cases r with | cons h' r' => cases r'; cases h; cases h'; exact ⟨i, j, rfl, by
    have : (if j > i then j else i) = max i j := by
      rw [Int.max_def]; split <;> split <;> omega
    rw [this]
    exact q F H _ (Sx.refl e) (.int _)⟩
theorem rc_int {i : Int} : RC K (fun xs H Q => (∃ i, xs = [V.int i] ∧ Q (V.int i) H) ∨ ∃ k, xs = [V.bl k] ∧ Q (V.int (if k = true then 1 else 0)) H) [.int i] (.int i) := fun F H vs e rs Q q => by
  cases rs with | cons h r => cases r; cases h; exact .inl ⟨i, rfl, q F H _ (Sx.refl e) (.int _)⟩
theorem rc_all {bs : List Bool} : RC K (rAll K) [.list (bs.map .bool)] (.bool (bs.all id)) := fun F H vs e rs Q q => by
  cases rs with | cons h r => cases r; cases h with
    | @lst a xs _ h' r' =>
      have := r'.of_bools
      subst this
      exact ⟨a, bs, rfl, .inl (.inl (e _ _ h')), q F H _ (Sx.refl e) (.bl _)⟩
theorem rc_any {bs : List Bool} : RC K (rAny K) [.list (bs.map .bool)] (.bool (bs.any id)) := fun F H vs e rs Q q => by
  cases rs with | cons h r => cases r; cases h with
    | @lst a xs _ h' r' =>
      have := r'.of_bools
      subst this
      exact ⟨a, bs, rfl, .inl (.inl (e _ _ h')), q F H _ (Sx.refl e) (.bl _)⟩
theorem rc_max {ns : List Int} {m : Int} (h0 : 0 < ns.length) (hm : ∀ k, k ∈ ns → (∀ y, y ∈ ns → y ≤ k) → k = m) : RC K (rMax K) [.list (ns.map .int)] (.int m) := fun F H vs e rs Q q => by
  cases rs with | cons h r => cases r; cases h with
    | @lst a xs _ h' r' =>
      have := r'.of_ints
      subst this
      exact ⟨a, ns, rfl, .inl (.inl (e _ _ h')), h0, fun k hk hl => by rw [hm k hk hl]; exact q F H _ (Sx.refl e) (.int _)⟩
/-! ### isinstance -/
def typeD : PyData → String
  | .none => "NoneType"
  | .bool _ => "bool"
  | .int _ => "int"
  | .str _ => "str"
  | .list _ => "list"
  | .tuple _ => "tuple"
  | .dict _ => "dict"
theorem tyx_of {v : V} (e : Same F H) (rv : Rp K F v d) : TyX K H v (.type (typeD d)) := by
  cases rv with
  | non => exact .base .non
  | bl b => exact .base (.bl b)
  | int i => exact .base (.int i)
  | str x => exact .base (.str x)
  | lst h r => exact .base (.lst (e _ _ h))
  | tup h r =>
    rcases h with (h | ⟨o, h⟩) | ⟨o, its, n, h1, h2, _⟩
    · exact .base (.tup (e _ _ h))
    · exact .fTuple (e _ _ h)
    · exact .kTuple h1 h2
theorem ev_isi {n : String} {b : Bool} (h : EvD K M te σ F H d) (hk : kitB (typeD d) n = some b) : EvD K M (tCB (rIsi K) (tCons te (tCons (tC (.ty n)) tNil))) σ F H (.bool b) := fun F1 H1 s Q q =>
  h F1 H1 s _ fun F2 H2 v s2 rv => ⟨v, .ty n, _, _, b, rfl, .ty n, tyx_of s2.fh rv, kit_ty hk, q F2 H2 _ s2 (.bl _)⟩
def tysA : List String → TA
  | [] => tNil
  | n :: ns => tCons (tC (.ty n)) (tysA ns)
theorem tysA_run : ∀ (ns : List String) (H : Hp) (Q : List V → Hp → Prop), Q (ns.map .ty) H → tysA ns σ H Q
  | [], H, Q, q => q
  | n :: ns, H, Q, q => tysA_run ns H _ q
theorem clsAll : ∀ ns : List String, Paired ClsV (ns.map V.ty) (ns.map Value.type)
  | [] => .nil
  | n :: ns => .cons (.ty n) (clsAll ns)
theorem kit_anyL {a : String} {f : String → Bool} : ∀ {ns : List String}, (∀ n ∈ ns, kitB a n = some (f n)) → PySem.W.kitAny K (.type a) (ns.map Value.type) = some (ns.any f)
  | [], _ => rfl
  | n :: ns, h => by
    have h1 := kit_ty (K := K) (h n (by simp))
    have h2 := kit_anyL (ns := ns) fun m hm => h m (by simp [hm])
    simp only [List.map_cons, PySem.W.kitAny, h1, List.any_cons]
    cases f n <;> simp [h2]
theorem ev_isiT (ns : List String) (f : String → Bool) {b : Bool} (h : EvD K M te σ F H d) (hk : ∀ n ∈ ns, kitB (typeD d) n = some (f n)) (hb : ns.any f = b) (hl : ns.length ≤ 1000) : EvD K M (tCB (rIsiT K) (tCons te (tCons (tTup (tysA ns)) tNil))) σ F H (.bool b) := fun F1 H1 s Q q =>
  h F1 H1 s _ fun F2 H2 v s2 rv => tysA_run ns H2 _ ⟨Nat.le_of_lt (small1000 (by rw [List.length_map]; exact hl)), fun p hp =>
    ⟨v, p, _, _, _, b, rfl, upd_same, clsAll ns, tyx_of (Sx.new (M := []) s2.fh _ hp).fh (rv.mono (fix_same (none_of_same s2.fh hp))), by rw [kit_anyL hk, hb], q _ _ _ (s2.trans (Sx.new s2.fh _ hp)) (.bl _)⟩⟩
end
end Sf

namespace Sf
open PySem L2
section
variable {K : PySem.W.Frag} {F H F' H' F1 H1 F2 H2 : Hp} {M : List Addr} {σ : L2.St} {te ta tb tc tl : TE} {tt tu : TT} {d x y z : PyData} {r r' : R2} {D : Ends} {tw tz : TS}
theorem RpAll.inv0 {vs : List V} (h : RpAll K F vs []) : vs = [] := by cases h; rfl
theorem RpAll.inv {vs : List V} {ds : List PyData} (h : RpAll K F vs (d :: ds)) : ∃ v ws, vs = v :: ws ∧ Rp K F v d ∧ RpAll K F ws ds := by
  cases h with | cons h r => exact ⟨_, _, rfl, h, r⟩
theorem RpAll.inv1 {vs : List V} (h : RpAll K F vs [x]) : ∃ v, vs = [v] ∧ Rp K F v x := by
  obtain ⟨v, ws, e, h, r⟩ := h.inv
  rw [r.inv0] at e
  exact ⟨v, e, h⟩
theorem RpAll.inv2 {vs : List V} (h : RpAll K F vs [x, y]) : ∃ v w, vs = [v, w] ∧ Rp K F v x ∧ Rp K F w y := by
  obtain ⟨v, ws, e, h, r⟩ := h.inv
  obtain ⟨w, e', h'⟩ := r.inv1
  rw [e'] at e
  exact ⟨v, w, e, h, h'⟩
theorem RpAll.inv3 {vs : List V} (h : RpAll K F vs [x, y, z]) : ∃ v w u, vs = [v, w, u] ∧ Rp K F v x ∧ Rp K F w y ∧ Rp K F u z := by
  obtain ⟨v, ws, e, h, r⟩ := h.inv
  obtain ⟨w, u, e', h', h''⟩ := r.inv2
  rw [e'] at e
  exact ⟨v, w, u, e, h, h', h''⟩
theorem Rp.int_of {v : V} {i : Int} (h : Rp K F v (.int i)) : v = .int i := by cases h; rfl
theorem Rp.bl_of {v : V} {i : Bool} (h : Rp K F v (.bool i)) : v = .bl i := by cases h; rfl
theorem Rp.str_of {v : V} {i : Str} (h : Rp K F v (.str i)) : v = .str i := by cases h; rfl
theorem Rp.non_of {v : V} (h : Rp K F v .none) : v = .non := by cases h; rfl
theorem Rp.lst_of {v : V} {ds : List PyData} (h : Rp K F v (.list ds)) : ∃ a xs, v = .ref a ∧ F a = some (.lst xs) ∧ RpAll K F xs ds := by cases h with | lst h r => exact ⟨_, _, rfl, h, r⟩
theorem Rp.tup_of {v : V} {ds : List PyData} (h : Rp K F v (.tuple ds)) : ∃ a xs, v = .ref a ∧ SqT K F a xs ∧ RpAll K F xs ds := by cases h with | tup h r => exact ⟨_, _, rfl, h, r⟩
/-! ### targets: what a target's reading stores of a datum -/
def TgD (K : PySem.W.Frag) (g : TG) (d : PyData) (P : L2.St → Hp → L2.St → Prop) : Prop :=
  ∀ F H v σ, Same F H → Rp K F v d → ∀ Q : L2.St → Hp → Prop, (∀ σ', P σ F σ' → Q σ' H) → g v σ H Q
def Nm (K : PySem.W.Frag) (i : Nat) (d : PyData) : L2.St → Hp → L2.St → Prop := fun σ F σ' => ∃ v, Rp K F v d ∧ σ' = σ.set i (some v)
def Nm2 (K : PySem.W.Frag) (i j : Nat) (d e : PyData) : L2.St → Hp → L2.St → Prop := fun σ F σ' => ∃ v w, Rp K F v d ∧ Rp K F w e ∧ σ' = (σ.set i (some v)).set j (some w)
def Nm3 (K : PySem.W.Frag) (i j k : Nat) (d e f : PyData) : L2.St → Hp → L2.St → Prop := fun σ F σ' => ∃ v w u, Rp K F v d ∧ Rp K F w e ∧ Rp K F u f ∧ σ' = ((σ.set i (some v)).set j (some w)).set k (some u)
theorem tg_nm {i : Nat} : TgD K (gName i) d (Nm K i d) := fun F H v σ e rv Q q => q _ ⟨v, rv, rfl⟩
theorem tg_nm2 {i j : Nat} {d e : PyData} : TgD K (gTup K 2 (gCons (gName i) (gCons (gName j) gNil))) (.tuple [d, e]) (Nm2 K i j d e) := fun F H v σ s rv Q q => by
  cases rv with
  | @tup a xs _ h r =>
    cases r with | cons h1 r => cases r with | cons h2 r => cases r; exact ⟨a, _, rfl, same_t s h, rfl, _, _, rfl, _, _, rfl, rfl, q _ ⟨_, _, h1, h2, rfl⟩⟩
theorem tg_nm3 {i j k : Nat} {d e f : PyData} : TgD K (gTup K 3 (gCons (gName i) (gCons (gName j) (gCons (gName k) gNil)))) (.tuple [d, e, f]) (Nm3 K i j k d e f) := fun F H v σ s rv Q q => by
  cases rv with
  | @tup a xs _ h r =>
    cases r with | cons h1 r => cases r with | cons h2 r => cases r with | cons h3 r => cases r; exact ⟨a, _, rfl, same_t s h, rfl, _, _, rfl, _, _, rfl, _, _, rfl, rfl, q _ ⟨_, _, _, h1, h2, h3, rfl⟩⟩

/-! ### comprehensions -/
/-- what holds of the list that grows at Dl: x's taken so far -/
def Lw (K : PySem.W.Frag) (F H : Hp) (Dl : Addr) (ds : List PyData) (H' : Hp) : Prop :=
  ∃ F' vs, Sx [] F H F' H' ∧ F' Dl = none ∧ H Dl = none ∧ H' Dl = some (.lst vs) ∧ RpAll K F' vs ds
theorem lw_turn {α : Type} {e g : α → PyData} {p : α → Bool} {gt : TG} {P : α → L2.St → Hp → L2.St → Prop} {vs : List Nat} {F0 H0 : Hp} {Dl : Addr} {acc : List PyData} {a : α} {v : V} {H' : Hp} (s0 : Sx M F H F0 H0)
    (hP : TgD K gt (e a) (P a)) (hw : ∀ F1 σ', P a (wipe σ vs) F1 σ' → wipe σ' vs = wipe σ vs)
    (ht : ∀ F1 H1 σ', Sx M F H F1 H1 → P a (wipe σ vs) F1 σ' → EvT K M tt σ' F1 H1 (p a))
    (he : p a = true → ∀ F1 H1 σ', Sx M F H F1 H1 → P a (wipe σ vs) F1 σ' → EvD K M te σ' F1 H1 (g a))
    (rv : Rp K F0 v (e a)) (w : Lw K F0 H0 Dl acc H') (hl : acc.length ≤ 1000000) (N : Hp → Prop) (hN : ∀ H'', Lw K F0 H0 Dl (acc ++ (if p a = true then [g a] else [])) H'' → N H'') :
    gt v (wipe σ vs) H' fun σ2 H2 => wipe σ2 vs = wipe σ vs ∧ tt σ2 H2 fun b H3 =>
      if b = true then te σ2 H3 fun y H4 => ∃ acc, H4 Dl = some (.lst acc) ∧ acc.length < sizeLine ∧ N (upd H4 Dl (.lst (acc ++ [y]))) else N H3 := by
  obtain ⟨F', ws, s, n1, n2, hD, rs⟩ := w
  refine hP F' H' v _ s.fh (rv.mono s.ff) _ fun σ' hσ => ⟨hw _ _ hσ, ?_⟩
  refine ht F' H' σ' (s0.trans s.up) hσ F' H' (Sx.refl s.fh) _ fun F2 H2 s2 => ?_
  have hD2 : H2 Dl = some (.lst ws) := s2.hh _ _ (by simp) hD
  have nF2 : F2 Dl = none := s2.sep _ n1 (by rw [hD]; simp)
  cases hp : p a with
  | false =>
    rw [hp] at hN
    exact iteF (hN _ ⟨F2, ws, s.trans s2, nF2, n2, hD2, by simpa using rs.mono s2.ff⟩)
  | true =>
    rw [hp] at hN
    refine iteT (he hp F' H' σ' (s0.trans s.up) hσ F2 H2 s2.up _ fun F3 H3 u s3 ru => ?_)
    have hD3 : H3 Dl = some (.lst ws) := s3.hh _ _ (by simp) hD2
    have nF3 : F3 Dl = none := s3.sep _ nF2 (by rw [hD2]; simp)
    refine ⟨ws, hD3, Nat.lt_of_le_of_lt (by rw [rs.length]; exact hl) (by decide), hN _ ⟨F3, _, Sx.put ((s.trans s2).trans s3) _ (.inr n2) nF3, nF3, n2, upd_same, ?_⟩⟩
    exact ((rs.mono s2.ff).mono s3.ff).append (.one ru)
def picked {α : Type} (xs : List α) (p : α → Bool) (g : α → PyData) (i : Nat) : List PyData := ((xs.take i).filter p).map g
theorem picked_next {α : Type} {xs : List α} {p : α → Bool} {g : α → PyData} {i : Nat} {a : α} (h : xs[i]? = some a) : picked xs p g (i + 1) = picked xs p g i ++ (if p a = true then [g a] else []) := by
  unfold picked
  rw [List.take_add_one, h]
  simp only [Option.toList, List.filter_append, List.map_append, List.filter_cons, List.filter_nil]
  split <;> rfl
theorem picked_le {α : Type} (xs : List α) (p : α → Bool) (g : α → PyData) (i : Nat) : (picked xs p g i).length ≤ xs.length := by
  unfold picked
  rw [List.length_map]
  exact Nat.le_trans (List.length_filter_le _ _) (by rw [List.length_take]; exact Nat.min_le_right _ _)
/-- over a list of data -/
theorem en_lcL {α : Type} (xs : List α) (e g : α → PyData) (p : α → Bool) (P : α → L2.St → Hp → L2.St → Prop) {gt : TG} {vs : List Nat} (h : EvD K M tl σ F H (.list (xs.map e))) (hz : xs.length ≤ 1000000)
    (hP : ∀ a ∈ xs, TgD K gt (e a) (P a)) (hw : ∀ a ∈ xs, ∀ F1 σ', P a (wipe σ vs) F1 σ' → wipe σ' vs = wipe σ vs)
    (ht : ∀ a ∈ xs, ∀ F1 H1 σ', Sx M F H F1 H1 → P a (wipe σ vs) F1 σ' → EvT K M tt σ' F1 H1 (p a))
    (he : ∀ a ∈ xs, p a = true → ∀ F1 H1 σ', Sx M F H F1 H1 → P a (wipe σ vs) F1 σ' → EvD K M te σ' F1 H1 (g a)) :
    EvN K M (tLc (iList K tl) gt tt te vs) σ F H ((xs.filter p).map g) := fun F1 H1 s Q q => h F1 H1 s _ fun F2 H2 v s2 rv => by
  cases rv with
  | @lst a ws _ h' rs =>
    refine ⟨a, rfl, ⟨ws, .inl (.inl (s2.fh _ _ h'))⟩, fun Dl hD => ?_⟩
    have hlen : ws.length = xs.length := by rw [rs.length, List.length_map]
    refine lc_list (xs := ws) (fun i H' => Lw K F2 H2 Dl (picked xs p g i) H') ⟨F2, [], Sx.newM s2.fh _ hD, none_of_same s2.fh hD, hD, upd_same, by unfold picked; exact .nil⟩ (fun i H' _ ⟨F', _, s3, _⟩ => .inl (.inl (s3.fh _ _ (s3.ff _ _ h')))) (fun i v H' hv w => ?_) (fun H' ⟨F', us, s3, n1, n2, hD3, r3⟩ => ?_)
    · obtain ⟨d, hd, rv⟩ := rs.of_get hv
      rw [List.getElem?_map] at hd
      cases hx : xs[i]? with
      | none => rw [hx] at hd; cases hd
      | some x =>
        rw [hx] at hd
        cases hd
        have hm : x ∈ xs := List.mem_of_getElem? hx
        refine lw_turn (e := e) (g := g) (p := p) (P := P) (s.trans s2.up) (hP x hm) (hw x hm) (ht x hm) (he x hm) rv w (Nat.le_trans (picked_le ..) hz) _ fun H'' w' => ?_
        rw [picked_next hx]
        exact w'
    · have e1 : picked xs p g ws.length = (xs.filter p).map g := by unfold picked; rw [hlen, List.take_length]
      rw [e1] at r3
      exact q F' H' Dl us (s2.trans s3) (Same.free s2.same n2) n1 hD3 r3
/-- over a tuple -/
theorem en_lcT {α : Type} (xs : List α) (e g : α → PyData) (p : α → Bool) (P : α → L2.St → Hp → L2.St → Prop) {gt : TG} {vs : List Nat} (h : EvD K M tl σ F H (.tuple (xs.map e))) (hz : xs.length ≤ 1000000)
    (hP : ∀ a ∈ xs, TgD K gt (e a) (P a)) (hw : ∀ a ∈ xs, ∀ F1 σ', P a (wipe σ vs) F1 σ' → wipe σ' vs = wipe σ vs)
    (ht : ∀ a ∈ xs, ∀ F1 H1 σ', Sx M F H F1 H1 → P a (wipe σ vs) F1 σ' → EvT K M tt σ' F1 H1 (p a))
    (he : ∀ a ∈ xs, p a = true → ∀ F1 H1 σ', Sx M F H F1 H1 → P a (wipe σ vs) F1 σ' → EvD K M te σ' F1 H1 (g a)) :
    EvN K M (tLc (iTup K tl) gt tt te vs) σ F H ((xs.filter p).map g) := fun F1 H1 s Q q => h F1 H1 s _ fun F2 H2 v s2 rv => by
  cases rv with
  | @tup a ws _ h' rs =>
    refine ⟨a, rfl, ⟨ws, same_t s2.fh h'⟩, fun Dl hD => ?_⟩
    have hlen : ws.length = xs.length := by rw [rs.length, List.length_map]
    refine lc_tup (xs := ws) (fun i H' => Lw K F2 H2 Dl (picked xs p g i) H') ⟨F2, [], Sx.newM s2.fh _ hD, none_of_same s2.fh hD, hD, upd_same, by unfold picked; exact .nil⟩ (fun i H' _ ⟨F', _, s3, _⟩ => same_t s3.fh (same_t s3.ff h')) (fun i v H' hv w => ?_) (fun H' ⟨F', us, s3, n1, n2, hD3, r3⟩ => ?_)
    · obtain ⟨d, hd, rv⟩ := rs.of_get hv
      rw [List.getElem?_map] at hd
      cases hx : xs[i]? with
      | none => rw [hx] at hd; cases hd
      | some x =>
        rw [hx] at hd
        cases hd
        have hm : x ∈ xs := List.mem_of_getElem? hx
        refine lw_turn (e := e) (g := g) (p := p) (P := P) (s.trans s2.up) (hP x hm) (hw x hm) (ht x hm) (he x hm) rv w (Nat.le_trans (picked_le ..) hz) _ fun H'' w' => ?_
        rw [picked_next hx]
        exact w'
    · have e1 : picked xs p g ws.length = (xs.filter p).map g := by unfold picked; rw [hlen, List.take_length]
      rw [e1] at r3
      exact q F' H' Dl us (s2.trans s3) (Same.free s2.same n2) n1 hD3 r3
theorem range_at {n i : Nat} (h : i < n) : (List.range n)[i]? = some i := by rw [List.getElem?_range h]
/-- over range(n) -/
theorem en_lcR1 (n : Nat) (g : Nat → PyData) (p : Nat → Bool) {ta : TA} {gt : TG} {j : Nat} {vs : List Nat} {m : Int} (h : EvA K M ta σ F H [.int m]) (hm : m = (n : Int)) (hz : n ≤ 1000000)
    (hP : gt = gName j) (hw : ∀ v, wipe ((wipe σ vs).set j (some v)) vs = wipe σ vs)
    (ht : ∀ a, a < n → ∀ F1 H1, Sx M F H F1 H1 → EvT K M tt ((wipe σ vs).set j (some (.int (a : Int)))) F1 H1 (p a))
    (he : ∀ a, a < n → p a = true → ∀ F1 H1, Sx M F H F1 H1 → EvD K M te ((wipe σ vs).set j (some (.int (a : Int)))) F1 H1 (g a)) :
    EvN K M (tLc (iRng1 ta) gt tt te vs) σ F H (((List.range n).filter p).map g) := fun F1 H1 s Q q => h F1 H1 s _ fun F2 H2 us s2 rs => by
  obtain ⟨_, rfl, h1⟩ := rs.inv1
  cases h1.int_of; subst hm; subst hP
  refine ⟨_, rfl, by omega, by omega, fun Dl hD => ?_⟩
  refine lc_range (lo := 0) (n := (n : Int).toNat) (fun i H' => Lw K F2 H2 Dl (picked (List.range n) p g i) H') ⟨F2, [], Sx.newM s2.fh _ hD, none_of_same s2.fh hD, hD, upd_same, by unfold picked; exact .nil⟩ (fun i H' hi w => ?_) (fun H' ⟨F', us, s3, n1, n2, hD3, r3⟩ => ?_)
  · have hi' : i < n := by simpa using hi
    have e0 : (0 : Int) + (i : Int) = (i : Int) := Int.zero_add _
    show gName j (.int ((0 : Int) + (i : Int))) (wipe σ vs) H' _
    rw [e0]
    refine lw_turn (K := K) (e := fun a : Nat => PyData.int (a : Int)) (g := g) (p := p) (P := fun a σ F σ' => σ' = σ.set j (some (.int (a : Int)))) (a := i) (s.trans s2.up) (fun F H v σ e rv Q q => by cases rv; exact q _ rfl) (fun F1 σ' z => by rw [z]; exact hw _)
      (fun F1 H1 σ' s1 z => by subst z; exact ht i hi' F1 H1 s1) (fun hp F1 H1 σ' s1 z => by subst z; exact he i hi' hp F1 H1 s1) (.int _) w (Nat.le_trans (picked_le ..) (by simpa using hz)) _ fun H'' w' => ?_
    rw [picked_next (range_at hi')]
    exact w'
  · have e1 : picked (List.range n) p g (n : Int).toNat = ((List.range n).filter p).map g := by
      unfold picked
      rw [Int.toNat_natCast, List.take_of_length_le (by simp)]
    rw [e1] at r3
    exact q F' H' Dl us (s2.trans s3) (Same.free s2.same n2) n1 hD3 r3
/-- over range(lo, hi) -/
theorem en_lcR2 (lo n : Nat) (g : Nat → PyData) (p : Nat → Bool) {ta : TA} {gt : TG} {j : Nat} {vs : List Nat} {m m' : Int} (h : EvA K M ta σ F H [.int m, .int m']) (hm : m = (lo : Int)) (hm' : m' = (lo : Int) + (n : Int)) (hz : n ≤ 1000000) (hz' : lo ≤ 1000000)
    (hP : gt = gName j) (hw : ∀ v, wipe ((wipe σ vs).set j (some v)) vs = wipe σ vs)
    (ht : ∀ a, lo ≤ a → a < lo + n → ∀ F1 H1, Sx M F H F1 H1 → EvT K M tt ((wipe σ vs).set j (some (.int (a : Int)))) F1 H1 (p a))
    (he : ∀ a, lo ≤ a → a < lo + n → p a = true → ∀ F1 H1, Sx M F H F1 H1 → EvD K M te ((wipe σ vs).set j (some (.int (a : Int)))) F1 H1 (g a)) :
    EvN K M (tLc (iRng2 ta) gt tt te vs) σ F H (((List.range' lo n).filter p).map g) := fun F1 H1 s Q q => h F1 H1 s _ fun F2 H2 us s2 rs => by
  obtain ⟨_, _, rfl, h1, h2⟩ := rs.inv2
  cases h1.int_of; cases h2.int_of; subst hm; subst hm'; subst hP
  refine ⟨_, _, rfl, by omega, fun Dl hD => ?_⟩
  have e9 : ((lo : Int) + (n : Int) - (lo : Int)).toNat = n := by omega
  refine lc_range (lo := (lo : Int)) (n := ((lo : Int) + (n : Int) - (lo : Int)).toNat) (fun i H' => Lw K F2 H2 Dl (picked (List.range' lo n) p g i) H') ⟨F2, [], Sx.newM s2.fh _ hD, none_of_same s2.fh hD, hD, upd_same, by unfold picked; exact .nil⟩ (fun i H' hi w => ?_) (fun H' ⟨F', us, s3, n1, n2, hD3, r3⟩ => ?_)
  · have hi' : i < n := by omega
    have hx : (List.range' lo n)[i]? = some (lo + i) := by rw [List.getElem?_range' hi']; simp
    have e0 : (lo : Int) + (i : Int) = ((lo + i : Nat) : Int) := by omega
    show gName j (.int ((lo : Int) + (i : Int))) (wipe σ vs) H' _
    rw [e0]
    refine lw_turn (K := K) (e := fun a : Nat => PyData.int (a : Int)) (g := g) (p := p) (P := fun a σ F σ' => σ' = σ.set j (some (.int (a : Int)))) (a := lo + i) (s.trans s2.up) (fun F H v σ e rv Q q => by cases rv; exact q _ rfl) (fun F1 σ' z => by rw [z]; exact hw _)
      (fun F1 H1 σ' s1 z => by subst z; exact ht _ (by omega) (by omega) F1 H1 s1) (fun hp F1 H1 σ' s1 z => by subst z; exact he _ (by omega) (by omega) hp F1 H1 s1) (.int _) w (Nat.le_trans (picked_le ..) (by simpa using hz)) _ fun H'' w' => ?_
    rw [picked_next hx]
    exact w'
  · have e1 : picked (List.range' lo n) p g ((lo : Int) + (n : Int) - (lo : Int)).toNat = ((List.range' lo n).filter p).map g := by
      unfold picked
      rw [e9, List.take_of_length_le (by simp)]
    rw [e1] at r3
    exact q F' H' Dl us (s2.trans s3) (Same.free s2.same n2) n1 hD3 r3
theorem et_yes : EvT K M tYes σ F H true := fun F1 H1 s Q q => q F1 H1 (Sx.refl s.fh)
theorem filter_yes {α : Type} (xs : List α) : xs.filter (fun _ => true) = xs := by simp

/-! ### statements -/
theorem sq {t u : TS} (h : t { D with nx := u D } σ H) : tSeq t u D σ H := h
theorem st_asg {g : TG} {P : L2.St → Hp → L2.St → Prop} (hg : TgD K g d P) (e : Same F H) (h : EvD K M te σ F H d) (k : ∀ F1 H1 σ', Sx M F H F1 H1 → P σ F1 σ' → D.nx σ' H1) : tAsg te g D σ H :=
  h F H (Sx.refl e) _ fun F1 H1 v s rv => hg F1 H1 v σ s.fh rv _ fun σ' hσ => k F1 H1 σ' s.up hσ
theorem st_set {i : Nat} (e : Same F H) (h : EvD K M te σ F H d) (k : ∀ F1 H1 v, Sx M F H F1 H1 → Rp K F1 v d → D.nx (σ.set i (some v)) H1) : tAsg te (gName i) D σ H :=
  h F H (Sx.refl e) _ fun F1 H1 v s rv => k F1 H1 v s.up rv
theorem st_setN {i : Nat} {ds : List PyData} (e : Same F H) (h : EvN K M te σ F H ds) (k : ∀ F1 H1 p vs, Sx M F H F1 H1 → H p = none → F1 p = none → H1 p = some (.lst vs) → RpAll K F1 vs ds → D.nx (σ.set i (some (.ref p))) H1) : tAsg te (gName i) D σ H :=
  h F H (Sx.refl e) _ fun F1 H1 p vs s n1 n2 hp rs => k F1 H1 p vs s.up n1 n2 hp rs
theorem st_par {i j : Nat} {ta : TA} {d e : PyData} (s0 : Same F H) (h : EvA K M ta σ F H [d, e]) (k : ∀ F1 H1 v w, Sx M F H F1 H1 → Rp K F1 v d → Rp K F1 w e → D.nx ((σ.set i (some v)).set j (some w)) H1) : tPar i j ta D σ H :=
  h F H (Sx.refl s0) _ fun F1 H1 vs s rs => by
    cases rs with | cons h1 rs => cases rs with | cons h2 rs => cases rs; exact ⟨_, _, rfl, k F1 H1 _ _ s.up h1 h2⟩
theorem st_ret (e : Same F H) (h : EvD K M te σ F H d) (k : ∀ F1 H1 v, Sx M F H F1 H1 → Rp K F1 v d → D.rt v H1) : tRet te D σ H :=
  h F H (Sx.refl e) _ fun F1 H1 v s rv => k F1 H1 v s.up rv
theorem st_if {b : Bool} (e : Same F H) (h : EvT K M tt σ F H b) (h1 : b = true → ∀ F1 H1, Sx M F H F1 H1 → tw D σ H1) (h2 : b = false → ∀ F1 H1, Sx M F H F1 H1 → tz D σ H1) : tIfS tt tw tz D σ H :=
  h F H (Sx.refl e) _ fun F1 H1 s => by
    cases b with
    | true => exact iteT (h1 rfl F1 H1 s.up)
    | false => exact iteF (h2 rfl F1 H1 s.up)
theorem st_drop (e : Same F H) (h : EvD K M te σ F H d) (k : ∀ F1 H1, Sx M F H F1 H1 → D.nx σ H1) : tDrop te D σ H :=
  h F H (Sx.refl e) _ fun F1 H1 v s rv => k F1 H1 s.up
theorem st_aug {i : Nat} {f : Int → Int → Int} {a b : Int} (e : Same F H) (hx : σ[i]? = some (some (.int a))) (h : EvD K M te σ F H (.int b)) (k : ∀ F1 H1, Sx M F H F1 H1 → D.nx (σ.set i (some (.int (f a b)))) H1) : tAug i te (ipI f) D σ H :=
  ⟨.int a, hx, h F H (Sx.refl e) _ fun F1 H1 v s rv => ⟨a, b, rfl, by cases rv; rfl, k F1 H1 s.up⟩⟩
/-- while, by a word I of the measure, the slots and the heaps -/
theorem st_while (I : Nat → L2.St → Hp → Hp → Prop) (e : Same F H) (m0 : Nat) (h0 : I m0 σ F H)
    (hs : ∀ m σ' F' H', Sx M F H F' H' → I m σ' F' H' → ∃ b M', EvT K M' tt σ' F' H' b ∧
      (b = true → ∀ F1 H1, Sx M' F' H' F1 H1 → tw { D with nx := fun σ2 H2 => ∃ m', m' < m ∧ ∃ F2, Sx M F H F2 H2 ∧ I m' σ2 F2 H2, ct := fun σ2 H2 => ∃ m', m' < m ∧ ∃ F2, Sx M F H F2 H2 ∧ I m' σ2 F2 H2, bk := D.nx } σ' H1) ∧
      (b = false → ∀ F1 H1, Sx M' F' H' F1 H1 → D.nx σ' H1)) : tWhile tt tw D σ H := by
  refine ⟨fun m σ' H' => ∃ F', Sx M F H F' H' ∧ I m σ' F' H', ⟨m0, F, Sx.refl e, h0⟩, fun m σ' H' ⟨F', s, hi⟩ => ?_⟩
  obtain ⟨b, M', hb, h1, h2⟩ := hs m σ' F' H' s hi
  refine hb F' H' (Sx.refl s.fh) _ fun F1 H1 s1 => ?_
  cases b with
  | true => exact iteT ⟨_, fun σ2 H2 z => z, h1 rfl F1 H1 s1.up⟩
  | false => exact iteF (h2 rfl F1 H1 s1.up)
/-- for over range(n) -/
theorem st_forR1 {ta : TA} {j n : Nat} {m : Int} (I : Nat → L2.St → Hp → Hp → Prop) (e : Same F H) (h : EvA K M ta σ F H [.int m]) (hm : m = (n : Int)) (hz : n ≤ 1000000) (h0 : ∀ F1 H1, Sx M F H F1 H1 → I 0 σ F1 H1)
    (hs : ∀ i σ' F' H', i < n → Sx M F H F' H' → I i σ' F' H' → tw { D with nx := fun σ2 H2 => ∃ F2, Sx M F H F2 H2 ∧ I (i + 1) σ2 F2 H2, ct := fun σ2 H2 => ∃ F2, Sx M F H F2 H2 ∧ I (i + 1) σ2 F2 H2, bk := D.nx } (σ'.set j (some (.int (i : Int)))) H')
    (hd : ∀ σ' F' H', Sx M F H F' H' → I n σ' F' H' → D.nx σ' H') : tFor (iRng1 ta) (gName j) tw D σ H :=
  h F H (Sx.refl e) _ fun F1 H1 vs s rs => by
    obtain ⟨_, rfl, h1⟩ := rs.inv1
    cases h1.int_of; subst hm
    refine ⟨_, rfl, by omega, by omega, for_range (lo := 0) (n := (n : Int).toNat) (fun i σ2 H2 => ∃ F2, Sx M F H F2 H2 ∧ I i σ2 F2 H2) ⟨F1, s.up, h0 F1 H1 s.up⟩ (fun i σ' H' hi ⟨F', s', hI⟩ => ?_) (fun σ' H' ⟨F', s', hI⟩ => hd σ' F' H' s' (by simpa using hI))⟩
    have e0 : (0 : Int) + (i : Int) = (i : Int) := Int.zero_add _
    show tw _ (σ'.set j (some (.int ((0 : Int) + (i : Int))))) H'
    rw [e0]
    exact hs i σ' F' H' (by simpa using hi) s' hI
/-- for over a list of data, a tuple of data -/
theorem st_forL {α : Type} (xs : List α) (ed : α → PyData) (P : α → L2.St → Hp → L2.St → Prop) {g : TG} (e : Same F H) (h : EvD K M tl σ F H (.list (xs.map ed))) (hP : ∀ a ∈ xs, TgD K g (ed a) (P a))
    (k : ∀ F1 H1, Sx M F H F1 H1 → ∃ I : Nat → L2.St → Hp → Hp → Prop, I 0 σ F1 H1 ∧
    (∀ i a σ' F' H' σ'', xs[i]? = some a → Sx M F1 H1 F' H' → I i σ' F' H' → P a σ' F' σ'' → tw { D with nx := fun σ2 H2 => ∃ F2, Sx M F1 H1 F2 H2 ∧ I (i + 1) σ2 F2 H2, ct := fun σ2 H2 => ∃ F2, Sx M F1 H1 F2 H2 ∧ I (i + 1) σ2 F2 H2, bk := D.nx } σ'' H') ∧
    (∀ σ' F' H', Sx M F1 H1 F' H' → I xs.length σ' F' H' → D.nx σ' H')) : tFor (iList K tl) g tw D σ H :=
  h F H (Sx.refl e) _ fun F1 H1 v s rv => by
    obtain ⟨I, h0, hs, hd⟩ := k F1 H1 s.up
    obtain ⟨a, ws, rfl, h', rs⟩ := rv.lst_of
    have hlen : ws.length = xs.length := by rw [rs.length, List.length_map]
    refine ⟨a, rfl, ⟨ws, .inl (.inl (s.fh _ _ h'))⟩, for_list (xs := ws) (fun i σ2 H2 => ∃ F2, Sx M F1 H1 F2 H2 ∧ I i σ2 F2 H2) ⟨F1, Sx.refl s.fh, h0⟩ (fun i σ2 H2 _ ⟨F2, s2, _⟩ => .inl (.inl (s2.fh _ _ (s2.ff _ _ h')))) (fun i v σ' H' hv ⟨F', s', hI⟩ => ?_) (fun σ' H' ⟨F', s', hI⟩ => hd σ' F' H' s' (by rw [← hlen]; exact hI))⟩
    obtain ⟨d, hd, rv⟩ := rs.of_get hv
    rw [List.getElem?_map] at hd
    cases hx : xs[i]? with
    | none => rw [hx] at hd; cases hd
    | some x =>
      rw [hx] at hd
      cases hd
      exact hP x (List.mem_of_getElem? hx) F' H' v σ' s'.fh (rv.mono s'.ff) _ fun σ'' hσ => hs i x σ' F' H' σ'' hx s' hI hσ
theorem st_forT {α : Type} (xs : List α) (ed : α → PyData) (P : α → L2.St → Hp → L2.St → Prop) {g : TG} (e : Same F H) (h : EvD K M tl σ F H (.tuple (xs.map ed))) (hP : ∀ a ∈ xs, TgD K g (ed a) (P a))
    (k : ∀ F1 H1, Sx M F H F1 H1 → ∃ I : Nat → L2.St → Hp → Hp → Prop, I 0 σ F1 H1 ∧
    (∀ i a σ' F' H' σ'', xs[i]? = some a → Sx M F1 H1 F' H' → I i σ' F' H' → P a σ' F' σ'' → tw { D with nx := fun σ2 H2 => ∃ F2, Sx M F1 H1 F2 H2 ∧ I (i + 1) σ2 F2 H2, ct := fun σ2 H2 => ∃ F2, Sx M F1 H1 F2 H2 ∧ I (i + 1) σ2 F2 H2, bk := D.nx } σ'' H') ∧
    (∀ σ' F' H', Sx M F1 H1 F' H' → I xs.length σ' F' H' → D.nx σ' H')) : tFor (iTup K tl) g tw D σ H :=
  h F H (Sx.refl e) _ fun F1 H1 v s rv => by
    obtain ⟨I, h0, hs, hd⟩ := k F1 H1 s.up
    obtain ⟨a, ws, rfl, h', rs⟩ := rv.tup_of
    have hlen : ws.length = xs.length := by rw [rs.length, List.length_map]
    refine ⟨a, rfl, ⟨ws, same_t s.fh h'⟩, for_tup (xs := ws) (fun i σ2 H2 => ∃ F2, Sx M F1 H1 F2 H2 ∧ I i σ2 F2 H2) ⟨F1, Sx.refl s.fh, h0⟩ (fun i σ2 H2 _ ⟨F2, s2, _⟩ => same_t s2.fh (same_t s2.ff h')) (fun i v σ' H' hv ⟨F', s', hI⟩ => ?_) (fun σ' H' ⟨F', s', hI⟩ => hd σ' F' H' s' (by rw [← hlen]; exact hI))⟩
    obtain ⟨d, hd, rv⟩ := rs.of_get hv
    rw [List.getElem?_map] at hd
    cases hx : xs[i]? with
    | none => rw [hx] at hd; cases hd
    | some x =>
      rw [hx] at hd
      cases hd
      exact hP x (List.mem_of_getElem? hx) F' H' v σ' s'.fh (rv.mono s'.ff) _ fun σ'' hσ => hs i x σ' F' H' σ'' hx s' hI hσ

/-! ### promises of pure defs -/
/-- from data (i tells them) to a datum, nothing changed -/
def spP (K : PySem.W.Frag) {ι : Type} (din : ι → List PyData) (dout : ι → PyData) (pre : ι → Prop) : Sp := fun vs H Q _ =>
  ∃ i F, Same F H ∧ RpAll K F vs (din i) ∧ pre i ∧ ∀ F' H' v, Sx [] F H F' H' → Rp K F' v (dout i) → Q v H'
theorem ev_call {ι : Type} {din : ι → List PyData} {dout : ι → PyData} {pre : ι → Prop} {E : XK} {ta : TA} (i : ι) (h : EvA K M ta σ F H (din i)) (hp : pre i) : EvD K M (tCall (spP K din dout pre) [] E ta) σ F H (dout i) := fun F1 H1 s Q q =>
  h F1 H1 s _ fun F2 H2 vs s2 rs => ⟨i, F2, s2.fh, by rw [List.append_nil]; exact rs, hp, fun F' H' v s3 rv => q F' H' v (s2.trans s3) rv⟩
end
section
variable {P : Program} {w : World} {K : PySem.W.Frag} {mg : Str → Option Value} {base : Heap}
theorem ok_spP {x qual : Str} {st : Stmt} {f : Addr} {fd : FuncData} {N ps : List Str} {k : Nat} {ι : Type} {din : ι → List PyData} {dout : ι → PyData} {pre : ι → Prop} (Fn : Fun K x qual st f fd) (S : FnScope N ps (defScope st)) (hl : ∀ i, (din i).length = ps.length)
    (body : ∀ (cdv : Value) (A : Around) (outer : List Env) (s : Shared) (H : Hp) (E : XK) (F : Hp) (i : ι) (vs : List V), Room k (A.deeper (PyProof.Rows.envOfC qual (defScope st) s.heap.objs.size f cdv)) → Same F H → RpAll K F vs (din i) → pre i →
      ∃ t, PSs (cxOf CX0 P w K mg base N qual (defScope st) f cdv A outer s H E).nox (defBody st) t ∧
        ∀ D : Ends, (∀ σ H', D.nx σ H' = D.rt .non H') → (∀ F' H' v, Sx [] F H F' H' → Rp K F' v (dout i) → D.rt v H') → t D (start N vs) H) : FnOk P w K mg base CX0 (k + 1) f fd ps (spP K din dout pre) := by
  refine Fn.ok S (fun vs H Q E h => ?_) (fun cdv A outer s H vs Q E hr h => ?_)
  · obtain ⟨i, F, _, rs, _⟩ := h
    rw [rs.length, hl]
  · obtain ⟨i, F, e, rs, hp, q⟩ := h
    obtain ⟨t, h1, h2⟩ := body cdv A outer s H E F i vs hr e rs hp
    exact ⟨t, h1, h2 { nx := fun _ H' => Q .non H', rt := Q } (fun _ _ => rfl) q⟩
end
end Sf

namespace Sf
open PySem PySem.Spec PyProof.Rows L2
theorem room65 {k : Nat} {A : Around} (r : Room k A) : A.units + 65 < cLine := by have := r.un; omega
section
variable {X : Cx}
def rOr (r1 r2 : R2) : R2 := fun x y H Q => r1 x y H Q ∨ r2 x y H Q
theorem op_or {f : Value → Value → Sem Value} {r1 r2 : R2} (h1 : OpR X f r1) (h2 : OpR X f r2) : OpR X f (rOr r1 r2) := fun pins s σ H x y v u Q I rx ry h => by
  rcases h with h | h
  · exact h1 pins s σ H x y v u Q I rx ry h
  · exact h2 pins s σ H x y v u Q I rx ry h
def iOr (w1 w2 : TI) : TI := fun σ H R => w1 σ H R ∨ w2 σ H R
theorem pi_or {tg e : Expr} {w1 w2 : TI} (h1 : PI X tg e w1) (h2 : PI X tg e w2) : PI X tg e (iOr w1 w2) := ⟨fun pins s σ H R I h => by
  rcases h with h | h
  · exact h1.run pins s σ H R I h
  · exact h2.run pins s σ H R I h⟩
def rSOr (r1 r2 : V → Option Int → Option Int → Hp → VK → Prop) : V → Option Int → Option Int → Hp → VK → Prop := fun x l u H Q => r1 x l u H Q ∨ r2 x l u H Q
theorem sl_or {r1 r2 : V → Option Int → Option Int → Hp → VK → Prop} (h1 : SlR X r1) (h2 : SlR X r2) : SlR X (rSOr r1 r2) := h1.or h2
/-! a tuple by 0, by 1 -/
theorem tup_times0 (l : Addr) (items : Array Value) (n : Nat) (dd : Option Addr) (sl : Array (Option Value)) (u : Tok) (hne : items.isEmpty = false) :
    Meets (Builtin.«tuple.__mul__» ⟨[.ref l, .int 0 u], []⟩) (fun _ R s => s.heap.get? l = some { cls := .type "tuple", dict := dd, data := .seq items n, slots := sl } ∧
      R (.ok (.ret (Value.ref s.heap.objs.size))) { s with heap := s.heap.push { cls := Value.type "tuple", data := Data.seq #[] }, toks := s.toks }) :=
  .of_wp fun prog w A R s h => by
    obtain ⟨hp, g, dr, tk, os⟩ := s
    obtain ⟨hl, h⟩ := h
    have c0 : (decide ((0 : Int) < -(2 ^ 63)) || decide ((0 : Int) ≥ 2 ^ 63)) = false := by decide
    have c1 : (items.isEmpty || (0 : Int) == 1) = false := by rw [hne]; rfl
    have f1 := AutoSeq1.idx_int
    wp_walk using wpAny_loadPart' hl
    repeat (first
      | (refine wpAny_ite_false (decide_eq_false (by rw [c0]; decide)) ?_; wp_walk using wpAny_loadPart' hl)
      | (refine wpAny_ite_false (decide_eq_false (by rw [c1]; decide)) ?_; wp_walk using wpAny_loadPart' hl)
      | (refine wpAny_ite_true (decide_eq_true (by rw [hne]; decide)) ?_; wp_walk using wpAny_loadPart' hl))
    exact ⟨_, rfl, h⟩
theorem tup_times1 (l : Addr) (items : Array Value) (n : Nat) (dd : Option Addr) (sl : Array (Option Value)) (u : Tok) :
    Meets (Builtin.«tuple.__mul__» ⟨[.ref l, .int 1 u], []⟩) (fun _ R s => s.heap.get? l = some { cls := .type "tuple", dict := dd, data := .seq items n, slots := sl } ∧
      R (.ok (.ret (Value.ref l))) s) :=
  .of_wp fun prog w A R s h => by
    obtain ⟨hp, g, dr, tk, os⟩ := s
    obtain ⟨hl, h⟩ := h
    have c0 : (decide ((1 : Int) < -(2 ^ 63)) || decide ((1 : Int) ≥ 2 ^ 63)) = false := by decide
    have c1 : (items.isEmpty || (1 : Int) == 1) = true := by rw [show ((1 : Int) == 1) = true from rfl, Bool.or_true]
    have f1 := AutoSeq1.idx_int
    wp_walk using wpAny_loadPart' hl
    repeat (first
      | (refine wpAny_ite_false (decide_eq_false (by rw [c0]; decide)) ?_; wp_walk using wpAny_loadPart' hl)
      | (refine wpAny_ite_true (decide_eq_true (by rw [c1])) ?_; wp_walk using wpAny_loadPart' hl))
    exact ⟨_, rfl, h⟩
/-- t * 0, t * 1 of a tuple that is not empty -/
def rRepS (K : PySem.W.Frag) : R2 := fun x y H Q => ∃ l k xs, x = .ref l ∧ y = .int k ∧ SqT K H l xs ∧ xs ≠ [] ∧ ((k = 1 ∧ Q (.ref l) H) ∨ (k = 0 ∧ ∀ p, H p = none → Q (.ref p) (upd H p (.tup []))))
theorem op_repS : OpR X (binaryOp .Mult) (rRepS X.K) := by
  intro pins s σ H x y v u Q I rx ry h
  obtain ⟨l, k, xs, rfl, rfl, hT, hne, q⟩ := h
  cases rx
  obtain ⟨t, rfl⟩ := ry
  obtain ⟨its, r, ⟨⟨cls, dd, data, sl⟩, ho, hc, n, hd⟩, hs⟩ := I.tuple hT
  simp only at hc hd
  subst hc hd
  have hi : its.toArray.isEmpty = false := by
    cases its with
    | nil => exact absurd (List.eq_nil_of_length_eq_zero (by rw [r.length]; rfl)) hne
    | cons a b => rfl
  rcases q with ⟨rfl, q⟩ | ⟨rfl, q⟩
  · refine wpAny_binaryOp_repeat_ref (T := "tuple") (U := "int") (by decide) ⟨_, ho, rfl⟩ (fun s' => typeIs_int s' 1 t) noFill_tuple_mul F.fills_int_mul F.slot_int_rmul repeat_tuple F.slot_int_index.lookup ?_
    refine call_meets F.slot_int_rmul (typeIs_int s 1 t) F.entry_int_rmul (F.args_int_rmul_2 _ _) (int_rmul_tuple 1 t l its.toArray n dd sl) ⟨ho, rfl, ⟨_, ho, rfl⟩, ?_⟩
    refine call_meets F.slot_tuple_mul ⟨_, ho, rfl⟩ F.entry_tuple_mul (F.args_tuple_mul_2 _ _) (tup_times1 l its.toArray n dd sl t) ⟨ho, ?_⟩
    exact ⟨.ref l, H, I, rfl, q⟩
  · refine wpAny_binaryOp_repeat_ref (T := "tuple") (U := "int") (by decide) ⟨_, ho, rfl⟩ (fun s' => typeIs_int s' 0 t) noFill_tuple_mul F.fills_int_mul F.slot_int_rmul repeat_tuple F.slot_int_index.lookup ?_
    refine call_meets F.slot_int_rmul (typeIs_int s 0 t) F.entry_int_rmul (F.args_int_rmul_2 _ _) (int_rmul_tuple 0 t l its.toArray n dd sl) ⟨ho, rfl, ⟨_, ho, rfl⟩, ?_⟩
    refine call_meets F.slot_tuple_mul ⟨_, ho, rfl⟩ F.entry_tuple_mul (F.args_tuple_mul_2 _ _) (tup_times0 l its.toArray n dd sl t hi) ⟨ho, ?_⟩
    refine ⟨.ref s.heap.objs.size, _, I.laid (t' := s.toks) (o := .tup []) (fun b ob q => Heap.get?_push_of_some _ q) (Nat.le_refl _) ?_, rfl, q _ (I.hok.fresh (Nat.le_refl _))⟩
    exact ⟨Nat.zero_le _, [], .nil, IsTup.new _ _⟩
theorem oAdd : OpR X (binaryOp .Add) (rOr (rI0 fun i j => V.int (i + j)) (rOr rCat (rCatA X.K))) := op_or op_add (op_or op_cat op_catA)
theorem oMul : OpR X (binaryOp .Mult) (rOr (rI CMul fun i j => V.int (i * j)) (rOr rRep (rOr (rRepT X.K) (rRepS X.K)))) := op_or op_mul (op_or op_rep (op_or op_repT op_repS))
theorem pi_seq {tg e : Expr} {te : TE} (h : PE X e te) : PI X tg e (iOr (iList X.K te) (iTup X.K te)) := pi_or (pi_list h) (pi_tup h)
theorem sl_seq : SlR X (rSOr (rSlL X.K) (rSlA X.K)) := sl_or sl_list sl_tupA
/-- f(k = v, ..) -/
def tCallK0 (sp : Sp) (gV : List V → List V → List V) (E : XK) (tk : TA) : TE := fun σ H Q => tk σ H fun zs H2 => sp (gV [] zs) H2 Q E
theorem pe_callK0 {CX : CXT} {k : Nat} {f : Addr} {fd : FuncData} {ps ks : List Str} {sp : Sp} {E : XK} {x : Str} {p pos : Pos} {kws : List Keyword} {tk : TA} {g : List Value → List Value → List Value} {gV : List V → List V → List V}
    (Fn : FnOk X.prog X.w X.K X.mg X.base CX k f fd ps sp) (hr : Room k X.A) (hg : Gl X x) (hm : X.mg x = some (.ref f)) (hk : PySem.W.keepIn X.K (.ref f) = true) (hb : KBinds X.K fd ps ks g gV) (hx : Passes CX X E) (hkw : PK X kws tk)
    (hall : ((backToKw pos (keywordEach kws X.env)).all fun z => z.1.isSome) = true := by rfl) (hks : ((backToKw pos (keywordEach kws X.env)).filterMap fun z => z.1) = ks := by rfl)
    (hdb : (x == ("__debug__" : Str)) = false := by decide) (hpl : (((backTo pos (starEach [] X.env)).any fun z => z.1) || (backToKw pos (keywordEach kws X.env)).any fun z => z.1.isNone) = false := by rfl) :
    PE X (.Call (.Name x p) [] kws pos) (tCallK0 sp gV E tk) := by
  refine ⟨fun pins s σ H Q I h => ?_⟩
  refine wpAny_Call_Name_kw (ld_glob I hg hm ?_ hdb)
  refine PySem.W.callWith_KW0 (h₀ := X.base) I.ok.mod.kin hk hall ?_ hpl
  refine thn (hkw.run pos pins s σ H _ I h) fun ws s2 ⟨zs, H2, I2, rz, q2⟩ => ⟨I2.kIn, ?_⟩
  rw [hks]
  exact run_fnk Fn hr hb hx I2 .nil rz q2
end
section
variable {K : PySem.W.Frag} {F H F' H' F1 H1 F2 H2 : Hp} {M : List Addr} {σ : L2.St} {te ta tb tc tl : TE} {tt tu : TT} {d x y z : PyData} {r r' : R2} {D : Ends} {tw tz : TS}
theorem rv_l {r1 r2 : R2} (h : RV K r1 x y z) : RV K (rOr r1 r2) x y z := fun F H v w e rv rw Q q => .inl (h F H v w e rv rw Q q)
theorem rv_r {r1 r2 : R2} (h : RV K r2 x y z) : RV K (rOr r1 r2) x y z := fun F H v w e rv rw Q q => .inr (h F H v w e rv rw Q q)
theorem rv_addI {i j : Int} : RV K (rOr (rI0 fun i j => V.int (i + j)) (rOr rCat (rCatA K))) (.int i) (.int j) (.int (i + j)) := rv_l rv_I0i
theorem rv_addL {ds es : List PyData} (hl : ds.length + es.length ≤ 1000000) : RV K (rOr (rI0 fun i j => V.int (i + j)) (rOr rCat (rCatA K))) (.list ds) (.list es) (.list (ds ++ es)) := rv_r (rv_l (rv_cat hl))
theorem rv_addT {ds es : List PyData} (hl : ds.length + es.length ≤ 1000000) : RV K (rOr (rI0 fun i j => V.int (i + j)) (rOr rCat (rCatA K))) (.tuple ds) (.tuple es) (.tuple (ds ++ es)) := rv_r (rv_r (rv_catA hl))
theorem rv_mulI {i j : Int} (h : CMul i j) : RV K (rOr (rI CMul fun i j => V.int (i * j)) (rOr rRep (rOr (rRepT K) (rRepS K)))) (.int i) (.int j) (.int (i * j)) := rv_l (rv_Ii h)
theorem rv_mulL {ds : List PyData} {k : Int} (hk : -(2 ^ 63) ≤ k ∧ k < 2 ^ 63) (hl : ds.length * k.toNat ≤ 1000000) : RV K (rOr (rI CMul fun i j => V.int (i * j)) (rOr rRep (rOr (rRepT K) (rRepS K)))) (.list ds) (.int k) (.list (List.replicate k.toNat ds).flatten) := rv_r (rv_l (rv_rep hk hl))
theorem rv_mulT {ds : List PyData} {k : Nat} (hne : ds ≠ []) (hk : k ≤ 1000) (hl : ds.length ≤ 1000) : RV K (rOr (rI CMul fun i j => V.int (i * j)) (rOr rRep (rOr (rRepT K) (rRepS K)))) (.tuple ds) (.int (k : Int)) (.tuple (List.replicate k ds).flatten) := fun F H v w e rv rw Q q => by
  cases rw.int_of
  obtain ⟨a, xs, rfl, h, rs⟩ := rv.tup_of
  have hx : xs ≠ [] := fun z => hne (List.eq_nil_of_length_eq_zero (by rw [← rs.length, z]; rfl))
  by_cases h2 : 2 ≤ k
  · refine .inr (.inr (.inl ⟨a, _, xs, rfl, rfl, same_t e h, hx, by omega, by omega, by rw [rs.length]; exact hl, fun p hp => ?_⟩))
    rw [Int.toNat_natCast]
    exact q _ _ _ (Sx.new e _ hp) (.tup (.inl (.inl upd_same)) ((rs.rep k).mono (fix_same (none_of_same e hp))))
  · refine .inr (.inr (.inr ⟨a, _, xs, rfl, rfl, same_t e h, hx, ?_⟩))
    by_cases h1 : k = 1
    · subst h1
      refine .inl ⟨rfl, ?_⟩
      have e1 : (List.replicate 1 ds).flatten = ds := by simp
      rw [e1] at q
      exact q F H _ (Sx.refl e) (.tup h rs)
    · have h0 : k = 0 := by omega
      subst h0
      exact .inr ⟨rfl, fun p hp => q _ _ _ (Sx.new e _ hp) (.tup (.inl (.inl upd_same)) .nil)⟩
theorem ev_slLs {tl th : TO} {ds : List PyData} {lo hi : Option Int} (h : EvD K M te σ F H (.list ds)) (h1 : EvO K M tl σ F H lo) (h2 : EvO K M th σ F H hi) : EvD K M (tSl (rSOr (rSlL K) (rSlA K)) te tl th) σ F H (.list (cut ds lo hi)) := fun F1 H1 s Q q =>
  h F1 H1 s _ fun F2 H2 v s2 rv => h1 F2 H2 (s.trans s2.up) _ fun F3 H3 s3 => h2 F3 H3 ((s.trans s2.up).trans s3.up) _ fun F4 H4 s4 => by
    have s5 := (s2.trans s3).trans s4
    obtain ⟨a, xs, rfl, h', r⟩ := ((rv.mono s3.ff).mono s4.ff).lst_of
    exact .inl ⟨a, xs, rfl, .inl (.inl (s4.fh _ _ h')), fun p hp => q _ _ _ (s5.trans (Sx.new s4.fh _ hp)) (.lst upd_same ((r.cut lo hi).mono (fix_same (none_of_same s4.fh hp))))⟩
theorem ev_slTs {tl th : TO} {ds : List PyData} {lo hi : Option Int} (h : EvD K M te σ F H (.tuple ds)) (h1 : EvO K M tl σ F H lo) (h2 : EvO K M th σ F H hi) : EvD K M (tSl (rSOr (rSlL K) (rSlA K)) te tl th) σ F H (.tuple (cut ds lo hi)) := fun F1 H1 s Q q =>
  h F1 H1 s _ fun F2 H2 v s2 rv => h1 F2 H2 (s.trans s2.up) _ fun F3 H3 s3 => h2 F3 H3 ((s.trans s2.up).trans s3.up) _ fun F4 H4 s4 => by
    have s5 := (s2.trans s3).trans s4
    have rv5 := (rv.mono s3.ff).mono s4.ff
    obtain ⟨a, xs, rfl, h', r⟩ := rv5.tup_of
    refine .inr ⟨a, xs, rfl, same_t s4.fh h', fun z => ?_, fun _ p hp => q _ _ _ (s5.trans (Sx.new s4.fh _ hp)) (.tup (.inl (.inl upd_same)) ((r.cut lo hi).mono (fix_same (none_of_same s4.fh hp))))⟩
    have e : cut ds lo hi = ds := by
      unfold cut
      rw [← r.length, z.1, z.2, List.drop_zero, Nat.sub_zero, List.take_of_length_le (by rw [r.length]; exact Nat.le_refl _)]
    rw [e] at q
    exact q F4 H4 _ s5 (.tup h' r)
theorem en_or1 {w1 w2 : TI} {g : TG} {vs : List Nat} {ds : List PyData} (h : EvN K M (tLc w1 g tt te vs) σ F H ds) : EvN K M (tLc (iOr w1 w2) g tt te vs) σ F H ds := fun F1 H1 s Q q => .inl (h F1 H1 s Q q)
theorem en_or2 {w1 w2 : TI} {g : TG} {vs : List Nat} {ds : List PyData} (h : EvN K M (tLc w2 g tt te vs) σ F H ds) : EvN K M (tLc (iOr w1 w2) g tt te vs) σ F H ds := fun F1 H1 s Q q => .inr (h F1 H1 s Q q)
theorem ev_callK0 {ι : Type} {din : ι → List PyData} {dout : ι → PyData} {pre : ι → Prop} {E : XK} {ta : TA} {gV : List V → List V → List V} {ds : List PyData} (i : ι) (h : EvA K M ta σ F H ds) (hg : ∀ F vs, RpAll K F vs ds → RpAll K F (gV [] vs) (din i)) (hp : pre i) : EvD K M (tCallK0 (spP K din dout pre) gV E ta) σ F H (dout i) := fun F1 H1 s Q q =>
  h F1 H1 s _ fun F2 H2 vs s2 rs => ⟨i, F2, s2.fh, hg _ _ rs, hp, fun F' H' v s3 rv => q F' H' v (s2.trans s3) rv⟩
end
end Sf

/-! names for the readings that deriv.py prints, and what they give of data -/
namespace Sf
open PySem L2
def rAddU (K : PySem.W.Frag) : R2 := rOr (rI0 fun i j => V.int (i + j)) (rOr rCat (rCatA K))
def rMulU (K : PySem.W.Frag) : R2 := rOr (rI CMul fun i j => V.int (i * j)) (rOr rRep (rOr (rRepT K) (rRepS K)))
def rSubI : R2 := rI0 fun i j => V.int (i - j)
def rModI : R2 := rI (fun x j => 0 < j) fun i j => V.int (i % j)
def rDivI : R2 := rI CDiv fun i j => V.int (i / j)
def rPowI : R2 := rI CPow fun i j => V.int (i ^ j.toNat)
def rLtI : R2 := rI0 fun i j => V.bl (decide (i < j))
def rLeI : R2 := rI0 fun i j => V.bl (decide (i ≤ j))
def rGtI : R2 := rI0 fun i j => V.bl (decide (i > j))
def rGeI : R2 := rI0 fun i j => V.bl (decide (i ≥ j))
def rIsN : R2 := fun x y H Q => y = V.non ∧ Q (.bl (decide (x = V.non))) H
def rNotN : R2 := fun x y H Q => y = V.non ∧ Q (.bl (!decide (x = V.non))) H
def rNegI : V → Hp → VK → Prop := rU fun i => .int (-i)
def rLen (K : PySem.W.Frag) : List V → Hp → VK → Prop := fun xs H Q => ∃ x n, xs = [x] ∧ LenV K x H n ∧ Q (V.int (n : Int)) H
def rMax2 : List V → Hp → VK → Prop := fun xs H Q => ∃ i j, xs = [V.int i, V.int j] ∧ Q (V.int (if j > i then j else i)) H
def rInt1 : List V → Hp → VK → Prop := fun xs H Q => (∃ i, xs = [V.int i] ∧ Q (V.int i) H) ∨ ∃ k, xs = [V.bl k] ∧ Q (V.int (if k = true then 1 else 0)) H
def rListOf (K : PySem.W.Frag) : List V → Hp → VK → Prop := fun xs H Q => ∃ p ys, xs = [V.ref p] ∧ (SqL K H p ys ∨ SqT K H p ys) ∧ ∀ (l : Addr), H l = none → Q (V.ref l) (upd H l (HO.lst ys))
def rTupleOf (K : PySem.W.Frag) : List V → Hp → VK → Prop := fun xs H Q => ∃ p ys, xs = [V.ref p] ∧ ((SqL K H p ys ∧ ∀ (l : Addr), H l = none → Q (V.ref l) (upd H l (HO.tup ys))) ∨ SqT K H p ys ∧ Q (V.ref p) H)
def tTru (K : PySem.W.Frag) (te : TE) : TT := fun σ H Q => te σ H fun x H' => ∃ k, TruV K x H' k ∧ Q k H'
def tIs (K : PySem.W.Frag) (te : TE) (n : String) : TE := tCB (rIsi K) (tCons te (tCons (tC (.ty n)) tNil))
def tIsT (K : PySem.W.Frag) (te : TE) (ns : List String) : TE := tCB (rIsiT K) (tCons te (tCons (tTup (tysA ns)) tNil))
def iSeq (K : PySem.W.Frag) (te : TE) : TI := iOr (iList K te) (iTup K te)
def rSlU (K : PySem.W.Frag) := rSOr (rSlL K) (rSlA K)
section
variable {K : PySem.W.Frag} {F H F' H' F1 H1 F2 H2 : Hp} {M : List Addr} {σ : L2.St} {te ta tb tc tl : TE} {tt tu : TT} {d x y z : PyData} {r r' : R2} {D : Ends} {tw tz : TS}
theorem xAddI {i j : Int} : RV K (rAddU K) (.int i) (.int j) (.int (i + j)) := rv_addI
theorem xAddL {ds es : List PyData} (hl : ds.length + es.length ≤ 1000000) : RV K (rAddU K) (.list ds) (.list es) (.list (ds ++ es)) := rv_addL hl
theorem xAddT {ds es : List PyData} (hl : ds.length + es.length ≤ 1000000) : RV K (rAddU K) (.tuple ds) (.tuple es) (.tuple (ds ++ es)) := rv_addT hl
theorem xMulI {i j : Int} (h : CMul i j) : RV K (rMulU K) (.int i) (.int j) (.int (i * j)) := rv_mulI h
theorem xMulL {ds : List PyData} {k : Int} (hk : -(2 ^ 63) ≤ k ∧ k < 2 ^ 63) (hl : ds.length * k.toNat ≤ 1000000) : RV K (rMulU K) (.list ds) (.int k) (.list (List.replicate k.toNat ds).flatten) := rv_mulL hk hl
theorem xMulT {ds : List PyData} {k : Nat} (hne : ds ≠ []) (hk : k ≤ 1000) (hl : ds.length ≤ 1000) : RV K (rMulU K) (.tuple ds) (.int (k : Int)) (.tuple (List.replicate k ds).flatten) := rv_mulT hne hk hl
theorem xSub {i j : Int} : RV K rSubI (.int i) (.int j) (.int (i - j)) := rv_I0i
theorem xMod {i j : Int} (h : 0 < j) : RV K rModI (.int i) (.int j) (.int (i % j)) := rv_Ii h
theorem xDiv {i j : Int} (h : 0 < j ∧ j < 1073741824) : RV K rDivI (.int i) (.int j) (.int (i / j)) := rv_Ii h
theorem xPow {i j : Int} (h : 0 ≤ j ∧ j ≤ 1000000 ∧ i.natAbs < 2 ^ 64) : RV K rPowI (.int i) (.int j) (.int (i ^ j.toNat)) := rv_Ii h
theorem xLt {i j : Int} : RV K rLtI (.int i) (.int j) (.bool (decide (i < j))) := rv_I0b
theorem xLe {i j : Int} : RV K rLeI (.int i) (.int j) (.bool (decide (i ≤ j))) := rv_I0b
theorem xGt {i j : Int} : RV K rGtI (.int i) (.int j) (.bool (decide (i > j))) := rv_I0b
theorem xGe {i j : Int} : RV K rGeI (.int i) (.int j) (.bool (decide (i ≥ j))) := rv_I0b
theorem xIsN : RV K rIsN x .none (.bool (isNon x)) := rv_isN
theorem xNotN : RV K rNotN x .none (.bool (!isNon x)) := rv_notN
theorem xNeg {i : Int} : RU K rNegI (.int i) (.int (-i)) := rv_neg
theorem xLenL {ds : List PyData} : RC K (rLen K) [.list ds] (.int (ds.length : Int)) := rc_lenL
theorem xLenT {ds : List PyData} : RC K (rLen K) [.tuple ds] (.int (ds.length : Int)) := rc_lenT
theorem xLenS {w : Str} (hl : w.length ≤ 1000000) : RC K (rLen K) [.str w] (.int (w.length : Int)) := rc_lenS hl
theorem xMax2 {i j : Int} : RC K rMax2 [.int i, .int j] (.int (max i j)) := rc_max2
theorem xInt {i : Int} : RC K rInt1 [.int i] (.int i) := rc_int
theorem xListL {ds : List PyData} : RC K (rListOf K) [.list ds] (.list ds) := rc_listL
theorem xListT {ds : List PyData} : RC K (rListOf K) [.tuple ds] (.list ds) := rc_listT
theorem xTupL {ds : List PyData} : RC K (rTupleOf K) [.list ds] (.tuple ds) := rc_tupL
theorem xTupT {ds : List PyData} : RC K (rTupleOf K) [.tuple ds] (.tuple ds) := rc_tupT
theorem xTru {b : Bool} (h : EvD K M te σ F H d) (hd : truthD d = some b) : EvT K M (tTru K te) σ F H b := et_tru h hd
theorem xIs {n : String} {b : Bool} (t : String) (h : EvD K M te σ F H d) (ht : typeD d = t) (hk : kitB t n = some b) : EvD K M (tIs K te n) σ F H (.bool b) := ev_isi h (by rw [ht]; exact hk)
theorem xIsT {ns : List String} (f : String → Bool) {b : Bool} (h : EvD K M te σ F H d) (hk : ∀ n ∈ ns, kitB (typeD d) n = some (f n)) (hb : ns.any f = b) (hl : ns.length ≤ 1000) : EvD K M (tIsT K te ns) σ F H (.bool b) := ev_isiT ns f h hk hb hl
theorem xSlL {tl th : TO} {ds : List PyData} {lo hi : Option Int} (h : EvD K M te σ F H (.list ds)) (h1 : EvO K M tl σ F H lo) (h2 : EvO K M th σ F H hi) : EvD K M (tSl (rSlU K) te tl th) σ F H (.list (cut ds lo hi)) := ev_slLs h h1 h2
theorem xSlT {tl th : TO} {ds : List PyData} {lo hi : Option Int} (h : EvD K M te σ F H (.tuple ds)) (h1 : EvO K M tl σ F H lo) (h2 : EvO K M th σ F H hi) : EvD K M (tSl (rSlU K) te tl th) σ F H (.tuple (cut ds lo hi)) := ev_slTs h h1 h2
theorem xLcL {g : TG} {vs : List Nat} {ds : List PyData} (h : EvN K M (tLc (iList K tl) g tt te vs) σ F H ds) : EvN K M (tLc (iSeq K tl) g tt te vs) σ F H ds := en_or1 h
theorem xLcT {g : TG} {vs : List Nat} {ds : List PyData} (h : EvN K M (tLc (iTup K tl) g tt te vs) σ F H ds) : EvN K M (tLc (iSeq K tl) g tt te vs) σ F H ds := en_or2 h
theorem xForL {g : TG} (h : tFor (iList K tl) g tw D σ H) : tFor (iSeq K tl) g tw D σ H := .inl h
theorem xForT {g : TG} (h : tFor (iTup K tl) g tw D σ H) : tFor (iSeq K tl) g tw D σ H := .inr h
/-- isinstance by a table of answers -/
def kitA (t n : String) : Bool := (kitB t n).getD false
def kitOk (t n : String) : Bool := (kitB t n).isSome
theorem kit_all {t : String} {ns : List String} (h : ns.all (kitOk t) = true) : ∀ n ∈ ns, kitB t n = some (kitA t n) := fun n hn => by
  have := List.all_eq_true.mp h n hn
  unfold kitOk at this
  unfold kitA
  cases e : kitB t n with
  | none => rw [e] at this; cases this
  | some b => rfl
theorem xIsT' {ns : List String} {b : Bool} (t : String) (h : EvD K M te σ F H d) (ht : typeD d = t) (hk : ns.all (kitOk t) = true) (hb : ns.any (kitA t) = b) (hl : ns.length ≤ 1000) : EvD K M (tIsT K te ns) σ F H (.bool b) := xIsT _ h (by rw [ht]; exact kit_all hk) hb hl
/-! statements with something behind -/
theorem q_asg {g : TG} {P : L2.St → Hp → L2.St → Prop} (hg : TgD K g d P) (e : Same F H) (h : EvD K M te σ F H d) (k : ∀ F1 H1 σ', Sx M F H F1 H1 → P σ F1 σ' → tw D σ' H1) : tSeq (tAsg te g) tw D σ H := st_asg (D := { D with nx := tw D }) hg e h k
theorem q_set {i : Nat} (e : Same F H) (h : EvD K M te σ F H d) (k : ∀ F1 H1 v, Sx M F H F1 H1 → Rp K F1 v d → tw D (σ.set i (some v)) H1) : tSeq (tAsg te (gName i)) tw D σ H := st_set (D := { D with nx := tw D }) e h k
theorem q_setN {i : Nat} {ds : List PyData} (e : Same F H) (h : EvN K M te σ F H ds) (k : ∀ F1 H1 p vs, Sx M F H F1 H1 → H p = none → F1 p = none → H1 p = some (.lst vs) → RpAll K F1 vs ds → tw D (σ.set i (some (.ref p))) H1) : tSeq (tAsg te (gName i)) tw D σ H := st_setN (D := { D with nx := tw D }) e h k
theorem q_par {i j : Nat} {ta : TA} {d e : PyData} (s0 : Same F H) (h : EvA K M ta σ F H [d, e]) (k : ∀ F1 H1 v w, Sx M F H F1 H1 → Rp K F1 v d → Rp K F1 w e → tw D ((σ.set i (some v)).set j (some w)) H1) : tSeq (tPar i j ta) tw D σ H := st_par (D := { D with nx := tw D }) s0 h k
theorem q_if {b : Bool} {tv : TS} (e : Same F H) (h : EvT K M tt σ F H b) (h1 : b = true → ∀ F1 H1, Sx M F H F1 H1 → tw { D with nx := tv D } σ H1) (h2 : b = false → ∀ F1 H1, Sx M F H F1 H1 → tz { D with nx := tv D } σ H1) : tSeq (tIfS tt tw tz) tv D σ H := st_if (D := { D with nx := tv D }) e h h1 h2
/-- if without else -/
theorem q_when {b : Bool} {tv : TS} (e : Same F H) (h : EvT K M tt σ F H b) (h1 : b = true → ∀ F1 H1, Sx M F H F1 H1 → tw { D with nx := tv D } σ H1) (h2 : b = false → ∀ F1 H1, Sx M F H F1 H1 → tv D σ H1) : tSeq (tIfS tt tw tNext) tv D σ H := st_if (D := { D with nx := tv D }) (tz := tNext) e h h1 h2
theorem q_drop (e : Same F H) (h : EvD K M te σ F H d) (k : ∀ F1 H1, Sx M F H F1 H1 → tw D σ H1) : tSeq (tDrop te) tw D σ H := st_drop (D := { D with nx := tw D }) e h k
theorem q_aug {i : Nat} {f : Int → Int → Int} {a b : Int} (e : Same F H) (hx : σ[i]? = some (some (.int a))) (h : EvD K M te σ F H (.int b)) (k : ∀ F1 H1, Sx M F H F1 H1 → tw D (σ.set i (some (.int (f a b)))) H1) : tSeq (tAug i te (ipI f)) tw D σ H := st_aug (D := { D with nx := tw D }) e hx h k
theorem q_while {tv : TS} (I : Nat → L2.St → Hp → Hp → Prop) (e : Same F H) (m0 : Nat) (h0 : I m0 σ F H)
    (hs : ∀ m σ' F' H', Sx M F H F' H' → I m σ' F' H' → ∃ b M', EvT K M' tt σ' F' H' b ∧
      (b = true → ∀ F1 H1, Sx M' F' H' F1 H1 → tw { D with nx := fun σ2 H2 => ∃ m', m' < m ∧ ∃ F2, Sx M F H F2 H2 ∧ I m' σ2 F2 H2, ct := fun σ2 H2 => ∃ m', m' < m ∧ ∃ F2, Sx M F H F2 H2 ∧ I m' σ2 F2 H2, bk := tv D } σ' H1) ∧
      (b = false → ∀ F1 H1, Sx M' F' H' F1 H1 → tv D σ' H1)) : tSeq (tWhile tt tw) tv D σ H := st_while (D := { D with nx := tv D }) I e m0 h0 hs
theorem q_forR1 {tv : TS} {ta : TA} {j n : Nat} {m : Int} (I : Nat → L2.St → Hp → Hp → Prop) (e : Same F H) (h : EvA K M ta σ F H [.int m]) (hm : m = (n : Int)) (hz : n ≤ 1000000) (h0 : ∀ F1 H1, Sx M F H F1 H1 → I 0 σ F1 H1)
    (hs : ∀ i σ' F' H', i < n → Sx M F H F' H' → I i σ' F' H' → tw { D with nx := fun σ2 H2 => ∃ F2, Sx M F H F2 H2 ∧ I (i + 1) σ2 F2 H2, ct := fun σ2 H2 => ∃ F2, Sx M F H F2 H2 ∧ I (i + 1) σ2 F2 H2, bk := tv D } (σ'.set j (some (.int (i : Int)))) H')
    (hd : ∀ σ' F' H', Sx M F H F' H' → I n σ' F' H' → tv D σ' H') : tSeq (tFor (iRng1 ta) (gName j) tw) tv D σ H := st_forR1 (D := { D with nx := tv D }) I e h hm hz h0 hs hd
theorem q_forL {tv : TS} {α : Type} (xs : List α) (ed : α → PyData) (P : α → L2.St → Hp → L2.St → Prop) {g : TG} (e : Same F H) (h : EvD K M tl σ F H (.list (xs.map ed))) (hP : ∀ a ∈ xs, TgD K g (ed a) (P a))
    (k : ∀ F1 H1, Sx M F H F1 H1 → ∃ I : Nat → L2.St → Hp → Hp → Prop, I 0 σ F1 H1 ∧
    (∀ i a σ' F' H' σ'', xs[i]? = some a → Sx M F1 H1 F' H' → I i σ' F' H' → P a σ' F' σ'' → tw { D with nx := fun σ2 H2 => ∃ F2, Sx M F1 H1 F2 H2 ∧ I (i + 1) σ2 F2 H2, ct := fun σ2 H2 => ∃ F2, Sx M F1 H1 F2 H2 ∧ I (i + 1) σ2 F2 H2, bk := tv D } σ'' H') ∧
    (∀ σ' F' H', Sx M F1 H1 F' H' → I xs.length σ' F' H' → tv D σ' H')) : tSeq (tFor (iList K tl) g tw) tv D σ H := st_forL (D := { D with nx := tv D }) xs ed P e h hP k
theorem q_forT {tv : TS} {α : Type} (xs : List α) (ed : α → PyData) (P : α → L2.St → Hp → L2.St → Prop) {g : TG} (e : Same F H) (h : EvD K M tl σ F H (.tuple (xs.map ed))) (hP : ∀ a ∈ xs, TgD K g (ed a) (P a))
    (k : ∀ F1 H1, Sx M F H F1 H1 → ∃ I : Nat → L2.St → Hp → Hp → Prop, I 0 σ F1 H1 ∧
    (∀ i a σ' F' H' σ'', xs[i]? = some a → Sx M F1 H1 F' H' → I i σ' F' H' → P a σ' F' σ'' → tw { D with nx := fun σ2 H2 => ∃ F2, Sx M F1 H1 F2 H2 ∧ I (i + 1) σ2 F2 H2, ct := fun σ2 H2 => ∃ F2, Sx M F1 H1 F2 H2 ∧ I (i + 1) σ2 F2 H2, bk := tv D } σ'' H') ∧
    (∀ σ' F' H', Sx M F1 H1 F' H' → I xs.length σ' F' H' → tv D σ' H')) : tSeq (tFor (iTup K tl) g tw) tv D σ H := st_forT (D := { D with nx := tv D }) xs ed P e h hP k
theorem xForL' {tv : TS} {g : TG} (h : tSeq (tFor (iList K tl) g tw) tv D σ H) : tSeq (tFor (iSeq K tl) g tw) tv D σ H := .inl h
theorem xForT' {tv : TS} {g : TG} (h : tSeq (tFor (iTup K tl) g tw) tv D σ H) : tSeq (tFor (iSeq K tl) g tw) tv D σ H := .inr h
/-- a way that leaves nothing behind is the way on -/
theorem st_next (h : D.nx σ H) : tNext D σ H := h
/-! equality of plain data -/
theorem eqv_bools : ∀ {xs ys : List Bool}, PyData.eqvAll (xs.map .bool) (ys.map .bool) = decide (xs = ys)
  | [], [] => by simp [PyData.eqvAll]
  | [], _ :: _ => by simp [PyData.eqvAll]
  | _ :: _, [] => by simp [PyData.eqvAll]
  | x :: xs, y :: ys => by
    simp only [List.map_cons, PyData.eqvAll, PyData.eqv, eqv_bools (xs := xs) (ys := ys), List.cons.injEq]
    cases x <;> cases y <;> simp
theorem eqv_int {i j : Int} : PyData.eqv (.int i) (.int j) = decide (i = j) := by
  simp only [PyData.eqv]
  by_cases h : i = j <;> simp [h]
theorem eqv_bool {i j : Bool} : PyData.eqv (.bool i) (.bool j) = decide (i = j) := by
  simp only [PyData.eqv]
  cases i <;> cases j <;> rfl
theorem eqv_lnil {ds : List PyData} : PyData.eqv (.list ds) (.list []) = ds.isEmpty := by cases ds <;> simp [PyData.eqv, PyData.eqvAll]
/-- small data: no dict, texts of codes, no deeper than n -/
def Lay (n : Nat) (d : PyData) : Prop := d.canLay0 = true ∧ d.depth ≤ n
theorem layAll {n : Nat} : ∀ {ds : List PyData}, (∀ d ∈ ds, Lay n d) → PyData.canLayAll0 ds = true ∧ PyData.depthAll ds ≤ n
  | [], _ => by simp [PyData.canLayAll0, PyData.depthAll]
  | d :: ds, h => by
    have h1 := h d (by simp)
    have h2 := layAll (ds := ds) fun e he => h e (by simp [he])
    refine ⟨by simp [PyData.canLayAll0, h1.1, h2.1], ?_⟩
    simp only [PyData.depthAll]
    have := h1.2
    have := h2.2
    omega
theorem Lay.list {n : Nat} {ds : List PyData} (h : ∀ d ∈ ds, Lay n d) : Lay (n + 1) (.list ds) := by
  obtain ⟨h1, h2⟩ := layAll h
  exact ⟨by simp only [PyData.canLay0]; exact h1, by simp only [PyData.depth]; omega⟩
theorem Lay.tuple {n : Nat} {ds : List PyData} (h : ∀ d ∈ ds, Lay n d) : Lay (n + 1) (.tuple ds) := by
  obtain ⟨h1, h2⟩ := layAll h
  exact ⟨by simp only [PyData.canLay0]; exact h1, by simp only [PyData.depth]; omega⟩
theorem Lay.int {n : Nat} {i : Int} : Lay n (.int i) := ⟨by simp [PyData.canLay0], by simp [PyData.depth]⟩
theorem Lay.bool {n : Nat} {i : Bool} : Lay n (.bool i) := ⟨by simp [PyData.canLay0], by simp [PyData.depth]⟩
theorem Lay.non {n : Nat} : Lay n .none := ⟨by simp [PyData.canLay0], by simp [PyData.depth]⟩
theorem Lay.shaped {n : Nat} (h : Lay n d) (hn : n ≤ 64) : SeqAt.shaped d = true := by
  unfold SeqAt.shaped
  rw [h.1, decide_eq_true (Nat.le_trans h.2 hn)]
  rfl
theorem Lay.bools {n : Nat} {bs : List Bool} : ∀ d ∈ bs.map PyData.bool, Lay n d := fun d h => by
  obtain ⟨b, _, rfl⟩ := List.mem_map.mp h
  exact .bool
theorem Lay.ints {n : Nat} {bs : List Int} : ∀ d ∈ bs.map PyData.int, Lay n d := fun d h => by
  obtain ⟨b, _, rfl⟩ := List.mem_map.mp h
  exact .int
theorem sh_int {i : Int} : SeqAt.shaped (.int i) = true := (Lay.int (n := 0)).shaped (by decide)
theorem sh_bool {i : Bool} : SeqAt.shaped (.bool i) = true := (Lay.bool (n := 0)).shaped (by decide)
theorem sh_non : SeqAt.shaped .none = true := (Lay.non (n := 0)).shaped (by decide)
theorem sh_lB {bs : List Bool} : SeqAt.shaped (.list (bs.map .bool)) = true := (Lay.list (n := 0) Lay.bools).shaped (by decide)
theorem sh_tB {bs : List Bool} : SeqAt.shaped (.tuple (bs.map .bool)) = true := (Lay.tuple (n := 0) Lay.bools).shaped (by decide)
theorem sh_lI {bs : List Int} : SeqAt.shaped (.list (bs.map .int)) = true := (Lay.list (n := 0) Lay.ints).shaped (by decide)
theorem sh_nil : SeqAt.shaped (.list []) = true := (Lay.list (n := 0) (by simp)).shaped (by decide)
theorem xEqI {i j : Int} : RV K (rEqD K) (.int i) (.int j) (.bool (decide (i = j))) := by rw [← eqv_int]; exact rv_eqD sh_int sh_int
theorem xNeI {i j : Int} : RV K (rNeD K) (.int i) (.int j) (.bool (!decide (i = j))) := by rw [← eqv_int]; exact rv_neD sh_int sh_int
theorem xEqB {i j : Bool} : RV K (rEqD K) (.bool i) (.bool j) (.bool (decide (i = j))) := by rw [← eqv_bool]; exact rv_eqD sh_bool sh_bool
theorem xNeB {i j : Bool} : RV K (rNeD K) (.bool i) (.bool j) (.bool (!decide (i = j))) := by rw [← eqv_bool]; exact rv_neD sh_bool sh_bool
theorem xEqLB {xs ys : List Bool} : RV K (rEqD K) (.list (xs.map .bool)) (.list (ys.map .bool)) (.bool (decide (xs = ys))) := by
  have := rv_eqD (K := K) (sh_lB (bs := xs)) (sh_lB (bs := ys))
  rwa [PyData.eqv, eqv_bools] at this
theorem xEqTB {xs ys : List Bool} : RV K (rEqD K) (.tuple (xs.map .bool)) (.tuple (ys.map .bool)) (.bool (decide (xs = ys))) := by
  have := rv_eqD (K := K) (sh_tB (bs := xs)) (sh_tB (bs := ys))
  rwa [PyData.eqv, eqv_bools] at this
theorem xNeTB {xs ys : List Bool} : RV K (rNeD K) (.tuple (xs.map .bool)) (.tuple (ys.map .bool)) (.bool (!decide (xs = ys))) := by
  have := rv_neD (K := K) (sh_tB (bs := xs)) (sh_tB (bs := ys))
  rwa [PyData.eqv, eqv_bools] at this
theorem xEqNil {ds : List PyData} (h : SeqAt.shaped (.list ds) = true) : RV K (rEqD K) (.list ds) (.list []) (.bool ds.isEmpty) := by rw [← eqv_lnil]; exact rv_eqD h sh_nil
theorem xNeNil {ds : List PyData} (h : SeqAt.shaped (.list ds) = true) : RV K (rNeD K) (.list ds) (.list []) (.bool (!ds.isEmpty)) := by rw [← eqv_lnil]; exact rv_neD h sh_nil
/-! slices -/
theorem cut_init {α : Type} {xs : List α} : cut xs none (some (-1)) = xs.dropLast := by
  unfold cut
  rw [HT.sIx_none, List.drop_zero, Nat.sub_zero, List.dropLast_eq_take]
  show xs.take (if (-1 : Int) < 0 then (-1 + (xs.length : Int)).toNat else min (-1 : Int).toNat xs.length) = _
  rw [if_pos (by decide)]
  congr 1
  omega
theorem cut_tail1 {α : Type} {xs : List α} {a : α} (h : xs.getLast? = some a) : cut xs (some (-1)) none = [a] := by
  have hne : xs ≠ [] := fun z => by subst z; cases h
  obtain ⟨ys, rfl⟩ : ∃ ys, xs = ys ++ [a] := by
    refine ⟨xs.dropLast, ?_⟩
    rw [List.getLast?_eq_getLast hne] at h
    cases h
    exact (List.dropLast_concat_getLast hne).symm
  unfold cut
  rw [HT.sIx_none]
  show ((ys ++ [a]).drop (if (-1 : Int) < 0 then (-1 + ((ys ++ [a]).length : Int)).toNat else min (-1 : Int).toNat (ys ++ [a]).length)).take ((ys ++ [a]).length - (if (-1 : Int) < 0 then (-1 + ((ys ++ [a]).length : Int)).toNat else min (-1 : Int).toNat (ys ++ [a]).length)) = [a]
  rw [if_pos (by decide), show (-1 + ((ys ++ [a]).length : Int)).toNat = ys.length by (rw [List.length_append, List.length_singleton]; omega), List.drop_left]
  simp
theorem cut_take {α : Type} {xs : List α} {k : Nat} : cut xs none (some (k : Int)) = xs.take k := by
  unfold cut
  rw [HT.sIx_none, HT.sIx_nat, List.drop_zero, Nat.sub_zero, List.take_eq_take_iff]
  omega
theorem cut_drop {α : Type} {xs : List α} {k : Nat} : cut xs (some (k : Int)) none = xs.drop k := by
  unfold cut
  rw [HT.sIx_none, HT.sIx_nat]
  by_cases h : k ≤ xs.length
  · rw [Nat.min_eq_left h, List.take_of_length_le (by rw [List.length_drop]; exact Nat.le_refl _)]
  · rw [Nat.min_eq_right (by omega), List.drop_of_length_le (Nat.le_refl _), List.drop_of_length_le (by omega), List.take_nil]
theorem cut_all {α : Type} {xs : List α} : cut xs none none = xs := by
  unfold cut
  rw [HT.sIx_none, HT.sIx_none, List.drop_zero, Nat.sub_zero, List.take_length]
theorem cut_mid {α : Type} {xs : List α} {i j : Nat} : cut xs (some (i : Int)) (some (j : Int)) = (xs.take j).drop i := by
  unfold cut
  rw [HT.sIx_nat, HT.sIx_nat]
  apply List.ext_getElem?
  intro m
  simp only [List.getElem?_take, List.getElem?_drop]
  by_cases h : m < min j xs.length - min i xs.length
  · rw [if_pos h, if_pos (by omega)]
    congr 1
    omega
  · rw [if_neg h]
    split
    · rw [List.getElem?_eq_none (by omega)]
    · rfl
theorem xTakeT {α : Type} {f : α → PyData} {xs : List α} {th : TO} {k : Nat} (h : EvD K M te σ F H (.tuple (xs.map f))) (h2 : EvO K M th σ F H (some (k : Int))) : EvD K M (tSl (rSlU K) te tNoPart th) σ F H (.tuple ((xs.take k).map f)) := (xSlT h eo_none h2).is (by rw [cut_map, cut_take])
theorem xTakeL {α : Type} {f : α → PyData} {xs : List α} {th : TO} {k : Nat} (h : EvD K M te σ F H (.list (xs.map f))) (h2 : EvO K M th σ F H (some (k : Int))) : EvD K M (tSl (rSlU K) te tNoPart th) σ F H (.list ((xs.take k).map f)) := (xSlL h eo_none h2).is (by rw [cut_map, cut_take])
theorem xDropT {α : Type} {f : α → PyData} {xs : List α} {tl : TO} {k : Nat} (h : EvD K M te σ F H (.tuple (xs.map f))) (h2 : EvO K M tl σ F H (some (k : Int))) : EvD K M (tSl (rSlU K) te tl tNoPart) σ F H (.tuple ((xs.drop k).map f)) := (xSlT h h2 eo_none).is (by rw [cut_map, cut_drop])
theorem xDropL {α : Type} {f : α → PyData} {xs : List α} {tl : TO} {k : Nat} (h : EvD K M te σ F H (.list (xs.map f))) (h2 : EvO K M tl σ F H (some (k : Int))) : EvD K M (tSl (rSlU K) te tl tNoPart) σ F H (.list ((xs.drop k).map f)) := (xSlL h h2 eo_none).is (by rw [cut_map, cut_drop])
theorem xInitT {α : Type} {f : α → PyData} {xs : List α} {th : TO} (h : EvD K M te σ F H (.tuple (xs.map f))) (h2 : EvO K M th σ F H (some (-1))) : EvD K M (tSl (rSlU K) te tNoPart th) σ F H (.tuple (xs.dropLast.map f)) := (xSlT h eo_none h2).is (by rw [cut_map, cut_init])
theorem xInitL {α : Type} {f : α → PyData} {xs : List α} {th : TO} (h : EvD K M te σ F H (.list (xs.map f))) (h2 : EvO K M th σ F H (some (-1))) : EvD K M (tSl (rSlU K) te tNoPart th) σ F H (.list (xs.dropLast.map f)) := (xSlL h eo_none h2).is (by rw [cut_map, cut_init])
theorem xTail1T {α : Type} {f : α → PyData} {xs : List α} {a : α} {tl : TO} (ha : xs.getLast? = some a) (h : EvD K M te σ F H (.tuple (xs.map f))) (h2 : EvO K M tl σ F H (some (-1))) : EvD K M (tSl (rSlU K) te tl tNoPart) σ F H (.tuple ([a].map f)) := (xSlT h h2 eo_none).is (by rw [cut_map, cut_tail1 ha])
theorem xTail1L {α : Type} {f : α → PyData} {xs : List α} {a : α} {tl : TO} (ha : xs.getLast? = some a) (h : EvD K M te σ F H (.list (xs.map f))) (h2 : EvO K M tl σ F H (some (-1))) : EvD K M (tSl (rSlU K) te tl tNoPart) σ F H (.list ([a].map f)) := (xSlL h h2 eo_none).is (by rw [cut_map, cut_tail1 ha])
theorem atI_last1 {α β : Type} {f : α → β} {xs : List α} {a : α} (h : xs.getLast? = some a) : atI (xs.map f) (-1) = some (f a) := by
  have hne : xs ≠ [] := fun z => by subst z; cases h
  obtain ⟨ys, rfl⟩ : ∃ ys, xs = ys ++ [a] := by
    refine ⟨xs.dropLast, ?_⟩
    rw [List.getLast?_eq_getLast hne] at h
    cases h
    exact (List.dropLast_concat_getLast hne).symm
  rw [List.map_append]
  exact atI_last _ _
theorem atI_at {α β : Type} {f : α → β} {xs : List α} {n : Nat} {a : α} (h : xs[n]? = some a) : atI (xs.map f) (n : Int) = some (f a) := atI_nat (by rw [List.getElem?_map, h]; rfl)
theorem xInD {ds : List PyData} (hx : SeqAt.shaped x = true) (hd : SeqAt.shaped (.list ds) = true) : RV K (rInD K) x (.list ds) (.bool (ds.any fun z => PyData.eqv z x)) := fun F H v w e rv rw Q q =>
  ⟨x, ds, (rv.mono e).dp, (rw.mono e).dp, hx, hd, q F H _ (Sx.refl e) (.bl _)⟩
end
end Sf

/-! the law's spring of draws -/
namespace Sf
open PySem L2
/-! evaluation, construct by construct -/
local macro_rules | `(tactic| walk_at "rp") => `(tactic| first | assumption | exact .int _ | exact .bl _ | exact .str _ | exact .non | exact Rp.mono (Sx.ff (by assumption)) (by walk_at "rp"))
local macro_rules | `(tactic| walk_at "sc") => `(tactic| first | rfl | assumption | omega | decide | (simp; done) | (simp; omega))
local macro_rules | `(tactic| walk_at "ix") => `(tactic| first | rfl | assumption)
local macro_rules | `(tactic| walk_at "rv") => `(tactic| first
  | exact xAddI | exact xSub | exact xLt | exact xLe | exact xGt | exact xGe | exact xIsN | exact xNotN | exact xEqI | exact xNeI | exact xEqB | exact xNeB | exact xEqLB | exact xEqTB | exact xNeTB
  | exact xMod (by walk_at "sc")
  | exact xDiv (by walk_at "sc")
  | exact xPow (by walk_at "sc")
  | exact xMulI (by walk_at "sc")
  | exact rv_ixt (by walk_at "ix")
  | exact rv_ixl (by walk_at "ix")
  | exact xAddL (by walk_at "sc")
  | exact xAddT (by walk_at "sc"))
local macro_rules | `(tactic| walk_at "rc") => `(tactic| first | exact xLenL | exact xLenT | exact xListL | exact xListT | exact xTupL | exact xTupT | exact xMax2 | exact xInt | exact rc_all | exact rc_any)
local macro_rules | `(tactic| walk_at "ea") => `(tactic| first | exact ea_nil | refine ea_cons (by walk_at "ev") (by walk_at "ea"))
local macro_rules | `(tactic| walk_at "eo") => `(tactic| first | exact eo_none | refine eo_some (by walk_at "ev"))
local macro_rules | `(tactic| walk_at "et") => `(tactic| first
  | ((with_reducible show EvT _ _ (tTest _) _ _ _ _); exact et_test (by walk_at "ev"))
  | ((with_reducible show EvT _ _ (tNot _) _ _ _ _); exact et_not (by walk_at "et"))
  | ((with_reducible show EvT _ _ (tAnd _ _) _ _ _ _); exact et_and (by walk_at "et") (fun hh => by walk_at "et"))
  | ((with_reducible show EvT _ _ (tOr _ _) _ _ _ _); exact et_or (by walk_at "et") (fun hh => by walk_at "et"))
  | ((with_reducible show EvT _ _ (tTru _ _) _ _ _ _); exact xTru (by walk_at "ev") (by walk_at "sc"))
  | ((with_reducible show EvT _ _ tYes _ _ _ _); exact et_yes))
local macro_rules | `(tactic| walk_at "ev") => `(tactic| first
  | ((with_reducible show EvD _ _ (tC _) _ _ _ _); first | exact ev_int | exact ev_bl | exact ev_str | exact ev_non)
  | ((with_reducible show EvD _ _ (tVar _) _ _ _ _); exact ev_var (by rfl) (by walk_at "rp"))
  | ((with_reducible show EvD _ _ (tOp _ _ _) _ _ _ _); exact ev_op (by walk_at "ev") (by walk_at "ev") (by walk_at "rv"))
  | ((with_reducible show EvD _ _ (tUn _ _) _ _ _ _); exact ev_un (by walk_at "ev") xNeg)
  | ((with_reducible show EvD _ _ (tCB _ _) _ _ _ _); exact ev_cb (by walk_at "ea") (by walk_at "rc"))
  | ((with_reducible show EvD _ _ (tTup _) _ _ _ _); exact ev_tup (by walk_at "ea") (by walk_at "sc"))
  | ((with_reducible show EvD _ _ (tLst _) _ _ _ _); exact ev_lst (by walk_at "ea") (by walk_at "sc"))
  | ((with_reducible show EvD _ _ (tSl _ _ _ _) _ _ _ _); first | exact xSlL (by walk_at "ev") (by walk_at "eo") (by walk_at "eo") | exact xSlT (by walk_at "ev") (by walk_at "eo") (by walk_at "eo"))
  | ((with_reducible show EvD _ _ (tNotT _ _) _ _ _ _); exact ev_notT (by walk_at "ev") (by walk_at "sc"))
  | ((with_reducible show EvD _ _ (tAndT _ _ _) _ _ _ _); exact ev_andB (by walk_at "ev") (fun hh => by walk_at "ev"))
  | ((with_reducible show EvD _ _ (tOrT _ _ _) _ _ _ _); exact ev_orB (by walk_at "ev") (fun hh => by walk_at "ev")))

section
variable {K : PySem.W.Frag} {F H F' H' F1 H1 F2 H2 : Hp} {M : List Addr} {σ : L2.St} {te ta tb tc tl : TE} {tt tu : TT} {d x y z : PyData} {r r' : R2} {D : Ends} {tw tz : TS}
/-- an item of a list of ours that may change -/
theorem ev_ixM {i : Nat} {p : Addr} {vs : List V} {k : Int} {v : V} (h : σ[i]? = some (some (.ref p))) (hp : H p = some (.lst vs)) (hk : atI vs k = some v) (rv : Rp K F v d) : EvD K [] (tOp (rIx K) (tVar i) (tC (.int k))) σ F H d := fun F1 H1 s Q q =>
  ⟨.ref p, h, .inl ⟨p, vs, k, v, rfl, rfl, .inl (.inl (s.hh _ _ (by simp) hp)), hk, q F1 H1 v (Sx.refl s.fh) (rv.mono s.ff)⟩⟩
theorem q_setM {i : Nat} {p : Addr} {vs : List V} {k : Int} {j : Nat} (e : Same F H) (h : EvD K [] te σ F H d) (hv : σ[i]? = some (some (.ref p))) (hp : H p = some (.lst vs)) (hk : ixN vs.length k = some j)
    (kk : ∀ F1 H1 v, Sx [] F H F1 H1 → H1 p = some (.lst vs) → Rp K F1 v d → tw D σ (upd H1 p (.lst (vs.set j v)))) : tSeq (tAsg te (gSub (tVar i) (tC (.int k)) rSetL)) tw D σ H :=
  h F H (Sx.refl e) _ fun F1 H1 v s rv => ⟨.ref p, hv, p, vs, k, j, rfl, rfl, s.hh _ _ (by simp) hp, hk, kk F1 H1 v s (s.hh _ _ (by simp) hp) rv⟩
theorem st_setM {i : Nat} {p : Addr} {vs : List V} {k : Int} {j : Nat} (e : Same F H) (h : EvD K [] te σ F H d) (hv : σ[i]? = some (some (.ref p))) (hp : H p = some (.lst vs)) (hk : ixN vs.length k = some j)
    (kk : ∀ F1 H1 v, Sx [] F H F1 H1 → H1 p = some (.lst vs) → Rp K F1 v d → D.nx σ (upd H1 p (.lst (vs.set j v)))) : tAsg te (gSub (tVar i) (tC (.int k)) rSetL) D σ H :=
  h F H (Sx.refl e) _ fun F1 H1 v s rv => ⟨.ref p, hv, p, vs, k, j, rfl, rfl, s.hh _ _ (by simp) hp, hk, kk F1 H1 v s (s.hh _ _ (by simp) hp) rv⟩
theorem DpAll.ints' {ns : List Int} : DpAll K H (ns.map .int) (ns.map .int) := by
  induction ns with
  | nil => exact .nil
  | cons n ns ih => exact .cons (.int n) ih
/-- the spring: the cells left, what is left of a great one, how many were drawn, what mixes -/
def Stm (F H : Hp) (p q : Addr) (n : Nat) : Prop := ∃ (cs : List Int) (a b c : Int), H p = some (.lst [.ref q, .int a, .int b, .int c]) ∧ H q = some (.lst (cs.map .int)) ∧ F p = none ∧ F q = none ∧ p ≠ q ∧ 0 ≤ a ∧ 0 ≤ b ∧ b ≤ n ∧ 0 ≤ c ∧ c < 2147483647
theorem Stm.le {p q : Addr} {n m : Nat} (h : Stm F H p q n) (hm : n ≤ m) : Stm F H p q m := by
  obtain ⟨cs, a, b, c, h1, h2, h3, h4, h5, h6, h7, h8, h9⟩ := h
  exact ⟨cs, a, b, c, h1, h2, h3, h4, h5, h6, h7, by omega, h9⟩
theorem Stm.pure {p q : Addr} {n : Nat} (h : Stm F H p q n) (s : Sx [] F H F1 H1) : Stm F1 H1 p q n := by
  obtain ⟨cs, a, b, c, h1, h2, h3, h4, h5⟩ := h
  exact ⟨cs, a, b, c, s.hh _ _ (by simp) h1, s.hh _ _ (by simp) h2, s.sep _ h3 (by rw [h1]; simp), s.sep _ h4 (by rw [h2]; simp), h5⟩
/-! ### _law_start -/
def sp_law_start (K : PySem.W.Frag) : Sp := fun vs H Q _ => ∃ (a : Addr) (ns : List Int) (F : Hp), vs = [.ref a] ∧ Same F H ∧ SqL K H a (ns.map .int) ∧ ∀ H' p q, Sx [] F H F H' → H p = none → H q = none → Stm F H' p q 0 → Q (.ref p) H'
theorem len_law_start {vs : List V} {Q : VK} {E : XK} (h : sp_law_start K vs H Q E) : vs.length = ["script"].length := by
  obtain ⟨a, ns, F, rfl, _⟩ := h
  rfl
abbrev N_law_start : List Str := ["script"]
def t_law_start (K : PySem.W.Frag) : TS :=
  (tRet (tLst (tCons (tCB (rListOf K) (tCons (tVar 0) tNil)) (tCons (tC (.int 0)) (tCons (tC (.int 0)) (tCons (tC (.int 71)) tNil))))))
theorem rd_law_start {vs : List V} {Q : VK} {E : XK} (h : sp_law_start K vs H Q E) : t_law_start K { nx := fun _ H' => Q .non H', rt := Q } (L2.start N_law_start vs) H := by
  obtain ⟨a, ns, F, rfl, e, hs, q⟩ := h
  refine ⟨.ref a, rfl, a, _, rfl, .inl hs, fun l hl => ⟨Nat.le_of_lt (small1000 (by simp)), fun p hp => ?_⟩⟩
  have nlp : l ≠ p := fun z => by subst z; rw [upd_same] at hp; cases hp
  have hp0 : H p = none := by rw [upd_ne nlp.symm] at hp; exact hp
  refine q _ p l ((Sx.newM e _ hl).trans (Sx.newM (Sx.newM (M := []) e _ hl).fh _ hp)) hp0 hl ⟨ns, 0, 0, 71, upd_same, ?_, none_of_same e hp0, none_of_same e hl, nlp.symm, by decide, by decide, by decide, by decide, by decide⟩
  rw [upd_ne nlp, upd_same]
/-! ### _law_below -/
def sp_law_below (K : PySem.W.Frag) : Sp := fun vs H Q _ => ∃ (p q : Addr) (n m : Nat) (F : Hp), vs = [.ref p, .int (m : Int)] ∧ Same F H ∧ Stm F H p q n ∧ 1 ≤ m ∧ m < 1073741824 ∧ n ≤ 1000000000 ∧
  ∀ F' H' (r : Nat), Sx [p, q] F H F' H' → Stm F' H' p q (n + 1) → r < m → Q (.int (r : Int)) H'
theorem len_law_below {vs : List V} {Q : VK} {E : XK} (h : sp_law_below K vs H Q E) : vs.length = ["stream", "many"].length := by
  obtain ⟨p, q, n, m, F, rfl, _⟩ := h
  rfl
/-- stream[0] != [] -/
theorem et_some {i : Nat} {p q : Addr} {vs : List V} {cs : List Int} (h : σ[i]? = some (some (.ref p))) (hp : H p = some (.lst (.ref q :: vs))) (hq : H q = some (.lst (cs.map .int))) :
    EvT K [] (tTest (tOp (rNeD K) (tOp (rIx K) (tVar i) (tC (.int 0))) (tLst tNil))) σ F H (!cs.isEmpty) := fun F1 H1 s Q k =>
  ⟨.ref p, h, .inl ⟨p, _, 0, .ref q, rfl, rfl, .inl (.inl (s.hh _ _ (by simp) hp)), atI_nat (j := 0) rfl, Nat.zero_le _, fun l hl => by
    have hq1 := s.hh _ _ (by simp) hq
    have s2 := Sx.newM (M := []) s.fh (.lst []) hl
    refine ⟨.list (cs.map .int), .list [], .lst (.inl (.inl (s2.hh _ _ (by simp) hq1))) DpAll.ints', .lst (.inl (.inl upd_same)) .nil, sh_lI, sh_nil, !cs.isEmpty, ?_, k F1 _ s2⟩
    rw [eqv_lnil]
    cases cs <;> rfl⟩⟩
/-- cell = stream[0].pop(0) -/
theorem q_popM {i j : Nat} {p q : Addr} {vs : List V} {c : Int} {cs : List Int} (h : σ[i]? = some (some (.ref p))) (hp : H p = some (.lst (.ref q :: vs))) (hq : H q = some (.lst ((c :: cs).map .int)))
    (k : tw D (σ.set j (some (.int c))) (upd H q (.lst (cs.map .int)))) : tSeq (tAsg (tBM K "list" rPopAt (tOp (rIx K) (tVar i) (tC (.int 0))) (tCons (tC (.int 0)) tNil)) (gName j)) tw D σ H :=
  ⟨.ref p, h, .inl ⟨p, _, 0, .ref q, rfl, rfl, .inl (.inl hp), atI_nat (j := 0) rfl, .inl ⟨rfl, _, .inl (.inl hq)⟩, q, _, 0, 0, .int c, rfl, rfl, hq, by decide, by decide, by
    unfold seqIndex?
    simp, rfl, k⟩⟩
abbrev N_law_below : List Str := ["stream", "many", "mixed", "cell", "digit"]
def t_law_below (K : PySem.W.Frag) : TS :=
  (tSeq (tAsg (tOp (rAddU K) (tOp (rIx K) (tVar 0) (tC (.int 2))) (tC (.int 1))) (gSub (tVar 0) (tC (.int 2)) rSetL))
  (tSeq (tWhile (tAnd (tTest (tOp (rEqD K) (tOp (rIx K) (tVar 0) (tC (.int 1))) (tC (.int 0)))) (tTest (tOp (rNeD K) (tOp (rIx K) (tVar 0) (tC (.int 0))) (tLst tNil))))
   (tSeq (tAsg (tBM K "list" rPopAt (tOp (rIx K) (tVar 0) (tC (.int 0))) (tCons (tC (.int 0)) tNil)) (gName 3))
    (tSeq (tAsg (tOp rModI (tCB rInt1 (tCons (tOp (rAddU K) (tOp (rAddU K) (tOp (rMulU K) (tOp (rIx K) (tVar 0) (tC (.int 3))) (tC (.int 69031))) (tVar 3)) (tC (.int 13))) tNil)) (tC (.int 2147483647))) (gSub (tVar 0) (tC (.int 3)) rSetL))
    (tAsg (tIf (tTest (tOp rGeI (tVar 3) (tOp rPowI (tC (.int 10)) (tC (.int 18))))) (tVar 3) (tC (.int 0))) (gSub (tVar 0) (tC (.int 1)) rSetL)))))
  (tSeq (tIfS (tTest (tOp rGtI (tOp (rIx K) (tVar 0) (tC (.int 1))) (tC (.int 0))))
   (tSeq (tAsg (tOp rModI (tCB rInt1 (tCons (tOp (rIx K) (tVar 0) (tC (.int 1))) tNil)) (tVar 1)) (gName 4))
    (tSeq (tAsg (tOp rDivI (tOp (rIx K) (tVar 0) (tC (.int 1))) (tVar 1)) (gSub (tVar 0) (tC (.int 1)) rSetL))
    (tRet (tVar 4))))
   tNext)
  (tSeq (tAsg (tOp rModI (tCB rInt1 (tCons (tOp rPowI (tOp (rAddU K) (tOp (rAddU K) (tOp (rIx K) (tVar 0) (tC (.int 3))) (tOp (rMulU K) (tC (.int 9049)) (tOp (rIx K) (tVar 0) (tC (.int 2))))) (tC (.int 130073))) (tC (.int 5))) tNil)) (tC (.int 2147483629))) (gName 2))
  (tRet (tOp rModI (tOp rModI (tCB rInt1 (tCons (tOp rPowI (tOp (rAddU K) (tOp (rAddU K) (tOp (rMulU K) (tVar 2) (tC (.int 44089))) (tOp (rMulU K) (tC (.int 60077)) (tOp (rIx K) (tVar 0) (tC (.int 2))))) (tC (.int 47))) (tC (.int 3))) tNil)) (tC (.int 1000000007))) (tVar 1)))))))
theorem pow5_small {i : Int} (h0 : 0 ≤ i) (h : i < 2 ^ 60) : 0 ≤ (5 : Int) ∧ (5 : Int) ≤ 1000000 ∧ i.natAbs < 2 ^ 64 := ⟨by decide, by decide, by omega⟩
theorem pow3_small {i : Int} (h0 : 0 ≤ i) (h : i < 2 ^ 60) : 0 ≤ (3 : Int) ∧ (3 : Int) ≤ 1000000 ∧ i.natAbs < 2 ^ 64 := ⟨by decide, by decide, by omega⟩
theorem rd_law_below {vs : List V} {Q : VK} {E : XK} (h : sp_law_below K vs H Q E) : t_law_below K { nx := fun _ H' => Q .non H', rt := Q } (L2.start N_law_below vs) H := by
  obtain ⟨p, q, n, m, F, rfl, e, ⟨cs, a, b, c, hp, hq, fp, fq, npq, ha, hb, hbn, hc, hc2⟩, hm1, hm2, hn, k⟩ := h
  have mp : p ∈ [p, q] := by simp
  have mq : q ∈ [p, q] := by simp
  refine q_setM (K := K) (j := 2) (d := .int (b + 1)) e (ev_op (ev_ixM (d := .int b) rfl hp (atI_nat (j := 2) rfl) (.int _)) ev_int xAddI) rfl hp rfl fun F1 H1 v s1 hp1 rv => ?_
  cases rv.int_of
  have f1p : F1 p = none := s1.sep _ fp (by rw [hp]; simp)
  have f1q : F1 q = none := s1.sep _ fq (by rw [hq]; simp)
  have s1' : Sx [p, q] F H F1 (upd H1 p (.lst [.ref q, .int a, .int (b + 1), .int c])) := Sx.put s1.up _ (.inl mp) f1p
  refine q_while (K := K) (M := [p, q]) (fun k σ' F' H' => ∃ (cs : List Int) (a c : Int) (v3 : Option V), H' p = some (.lst [.ref q, .int a, .int (b + 1), .int c]) ∧ H' q = some (.lst (cs.map .int)) ∧ F' p = none ∧ F' q = none ∧ 0 ≤ a ∧ 0 ≤ c ∧ c < 2147483647 ∧ k = cs.length ∧ σ' = [some (.ref p), some (.int (m : Int)), none, v3, none]) s1'.fh cs.length
    ⟨cs, a, c, none, upd_same, by rw [upd_ne npq.symm]; exact s1.hh _ _ (by simp) hq, f1p, f1q, ha, hc, hc2, rfl, rfl⟩ ?_
  rintro k' σ' F' H' s' ⟨cs, a, c, v3, hp, hq, fp, fq, ha, hc, hc2, rfl, rfl⟩
  have fin : Sx [p, q] F H F' H' := s1'.trans s'
  refine ⟨decide (a = 0) && !cs.isEmpty, [], et_and (et_test (ev_op (ev_ixM (d := .int a) rfl hp (atI_nat (j := 1) rfl) (.int _)) ev_int xEqI)) (fun _ => et_some rfl hp hq), fun hb F2 H2 s2 => ?_, fun hb F2 H2 s2 => ?_⟩
  · -- a cell more
    have hp2 := s2.hh _ _ (by simp) hp
    have hq2 := s2.hh _ _ (by simp) hq
    have f2p : F2 p = none := s2.sep _ fp (by rw [hp]; simp)
    have f2q : F2 q = none := s2.sep _ fq (by rw [hq]; simp)
    cases cs with
    | nil => simp at hb
    | cons cell cs =>
      refine q_popM rfl hp2 hq2 ?_
      have s4 := Sx.put (s'.trans s2.up) (.lst (cs.map .int)) (.inl mq) f2q
      have hp4 : (upd H2 q (.lst (cs.map .int))) p = some (.lst [.ref q, .int a, .int (b + 1), .int c]) := by rw [upd_ne npq]; exact hp2
      refine q_setM (K := K) (j := 3) (d := .int ((c * 69031 + cell + 13) % 2147483647)) s4.fh (ev_op (ev_cb (ea_cons (ev_op (ev_op (ev_op (ev_ixM (d := .int c) rfl hp4 (atI_nat (j := 3) rfl) (.int _)) ev_int (xMulI (.inl ⟨by omega, by omega⟩))) (ev_var rfl (.int cell)) xAddI) ev_int xAddI) ea_nil) xInt) ev_int (xMod (by decide))) rfl hp4 rfl fun F5 H5 v s5 hp5 rv => ?_
      cases rv.int_of
      have f5p : F5 p = none := s5.sep _ f2p (by rw [hp4]; simp)
      have f5q : F5 q = none := s5.sep _ f2q (by rw [upd_same]; simp)
      have s6 := Sx.put (s4.trans s5.up) (.lst [.ref q, .int a, .int (b + 1), .int ((c * 69031 + cell + 13) % 2147483647)]) (.inl mp) f5p
      have hq5 : H5 q = some (.lst (cs.map .int)) := s5.hh _ _ (by simp) upd_same
      refine st_setM (K := K) (j := 1) (d := .int (if decide (cell ≥ (10 : Int) ^ (18 : Int).toNat) = true then cell else 0)) s6.fh (EvD.is (ev_ifB (et_test (ev_op (ev_var rfl (.int cell)) (ev_op ev_int ev_int (xPow (by decide))) xGe)) (fun _ => ev_var rfl (.int cell)) (fun _ => ev_int)) (by split <;> rfl)) rfl upd_same rfl fun F7 H7 v s7 hp7 rv => ?_
      cases rv.int_of
      have f7p : F7 p = none := s7.sep _ f5p (by rw [upd_same]; simp)
      have f7q : F7 q = none := s7.sep _ f5q (by rw [upd_ne npq.symm, hq5]; simp)
      have hq7 : H7 q = some (.lst (cs.map .int)) := s7.hh _ _ (by simp) (by rw [upd_ne npq.symm]; exact hq5)
      refine ⟨cs.length, by simp, F7, Sx.put (s6.trans s7.up) _ (.inl mp) f7p, cs, _, _, some (.int cell), upd_same, by rw [upd_ne npq.symm]; exact hq7, f7p, f7q, ?_, Int.emod_nonneg _ (by decide), Int.emod_lt_of_pos _ (by decide), rfl, rfl⟩
      split
      · rename_i hge
        have : cell ≥ (10 : Int) ^ (18 : Int).toNat := of_decide_eq_true hge
        have h18 : (10 : Int) ^ (18 : Int).toNat = 1000000000000000000 := by decide
        omega
      · decide
  · -- behind the loop
    have hp2 := s2.hh _ _ (by simp) hp
    have hq2 := s2.hh _ _ (by simp) hq
    have f2p : F2 p = none := s2.sep _ fp (by rw [hp]; simp)
    have f2q : F2 q = none := s2.sep _ fq (by rw [hq]; simp)
    have s2' := fin.trans s2.up
    refine q_when (K := K) (M := []) (b := decide (a > 0)) s2.fh (et_test (ev_op (ev_ixM (d := .int a) rfl hp2 (atI_nat (j := 1) rfl) (.int _)) ev_int xGt)) (fun ha0 F3 H3 s3 => ?_) (fun ha0 F3 H3 s3 => ?_)
    · have hp3 := s3.hh _ _ (by simp) hp2
      have hq3 := s3.hh _ _ (by simp) hq2
      have f3p : F3 p = none := s3.sep _ f2p (by rw [hp2]; simp)
      have f3q : F3 q = none := s3.sep _ f2q (by rw [hq2]; simp)
      refine q_set (K := K) (M := []) (d := .int (a % (m : Int))) s3.fh (ev_op (ev_cb (ea_cons (ev_ixM (d := .int a) rfl hp3 (atI_nat (j := 1) rfl) (.int _)) ea_nil) xInt) (ev_var rfl (.int (m : Int))) (xMod (by omega))) fun F4 H4 v s4 rv => ?_
      cases rv.int_of
      have hp4 := s4.hh _ _ (by simp) hp3
      have hq4 := s4.hh _ _ (by simp) hq3
      have f4p : F4 p = none := s4.sep _ f3p (by rw [hp3]; simp)
      have f4q : F4 q = none := s4.sep _ f3q (by rw [hq3]; simp)
      refine q_setM (K := K) (j := 1) (d := .int (a / (m : Int))) s4.fh (ev_op (ev_ixM (d := .int a) rfl hp4 (atI_nat (j := 1) rfl) (.int _)) (ev_var rfl (.int (m : Int))) (xDiv ⟨by omega, by omega⟩)) rfl hp4 rfl fun F5 H5 v s5 hp5 rv => ?_
      cases rv.int_of
      have hq5 := s5.hh _ _ (by simp) hq4
      have f5p : F5 p = none := s5.sep _ f4p (by rw [hp4]; simp)
      have f5q : F5 q = none := s5.sep _ f4q (by rw [hq4]; simp)
      have s6 := Sx.put (((s2'.trans s3.up).trans s4.up).trans s5.up) (.lst [.ref q, .int (a / (m : Int)), .int (b + 1), .int c]) (.inl mp) f5p
      refine ⟨.int (a % (m : Int)), rfl, ?_⟩
      have hr0 := Int.emod_nonneg a (show (m : Int) ≠ 0 by omega)
      have hr1 := Int.emod_lt_of_pos a (show (0 : Int) < (m : Int) by omega)
      have er : a % (m : Int) = ((a % (m : Int)).toNat : Int) := by omega
      rw [er]
      refine k F5 _ _ s6 ⟨cs, _, _, _, upd_same, by rw [upd_ne npq.symm]; exact hq5, f5p, f5q, npq, Int.ediv_nonneg ha (by omega), by omega, by omega, hc, hc2⟩ (by omega)
    · have hp3 := s3.hh _ _ (by simp) hp2
      have hq3 := s3.hh _ _ (by simp) hq2
      have f3p : F3 p = none := s3.sep _ f2p (by rw [hp2]; simp)
      have f3q : F3 q = none := s3.sep _ f2q (by rw [hq2]; simp)
      refine q_set (K := K) (M := []) (d := .int ((c + 9049 * (b + 1) + 130073) ^ (5 : Int).toNat % 2147483629)) s3.fh (ev_op (ev_cb (ea_cons (ev_op (ev_op (ev_op (ev_ixM (d := .int c) rfl hp3 (atI_nat (j := 3) rfl) (.int _)) (ev_op ev_int (ev_ixM (d := .int (b + 1)) rfl hp3 (atI_nat (j := 2) rfl) (.int _)) (xMulI (.inl ⟨by decide, by decide⟩))) xAddI) ev_int xAddI) ev_int (xPow (pow5_small (by omega) (by omega)))) ea_nil) xInt) ev_int (xMod (by decide))) fun F4 H4 v s4 rv => ?_
      cases rv.int_of
      have hp4 := s4.hh _ _ (by simp) hp3
      have hq4 := s4.hh _ _ (by simp) hq3
      have f4p : F4 p = none := s4.sep _ f3p (by rw [hp3]; simp)
      have f4q : F4 q = none := s4.sep _ f3q (by rw [hq3]; simp)
      generalize hmx : (c + 9049 * (b + 1) + 130073) ^ (5 : Int).toNat % 2147483629 = mx
      have mx0 : 0 ≤ mx := by rw [← hmx]; exact Int.emod_nonneg _ (by decide)
      have mx1 : mx < 2147483629 := by rw [← hmx]; exact Int.emod_lt_of_pos _ (by decide)
      refine st_ret (K := K) (M := []) (d := .int ((mx * 44089 + 60077 * (b + 1) + 47) ^ (3 : Int).toNat % 1000000007 % (m : Int))) s4.fh (ev_op (ev_op (ev_cb (ea_cons (ev_op (ev_op (ev_op (ev_op (ev_var rfl (.int mx)) ev_int (xMulI (.inr ⟨by decide, by decide⟩))) (ev_op ev_int (ev_ixM (d := .int (b + 1)) rfl hp4 (atI_nat (j := 2) rfl) (.int _)) (xMulI (.inl ⟨by decide, by decide⟩))) xAddI) ev_int xAddI) ev_int (xPow (pow3_small (by omega) (by omega)))) ea_nil) xInt) ev_int (xMod (by decide))) (ev_var rfl (.int (m : Int))) (xMod (by omega))) fun F5 H5 v s5 rv => ?_
      cases rv.int_of
      have s6 := ((s2'.trans s3.up).trans s4.up).trans s5.up
      generalize (mx * 44089 + 60077 * (b + 1) + 47) ^ (3 : Int).toNat % 1000000007 = y
      have hr0 := Int.emod_nonneg y (show (m : Int) ≠ 0 by omega)
      have hr1 := Int.emod_lt_of_pos y (show (0 : Int) < (m : Int) by omega)
      have er : y % (m : Int) = ((y % (m : Int)).toNat : Int) := by omega
      rw [er]
      exact k F5 _ _ s6 (Stm.pure ⟨cs, a, b + 1, c, hp4, hq4, f4p, f4q, npq, ha, by omega, by omega, hc, hc2⟩ s5) (by omega)
end
end Sf

/-! what is walked, as data; evaluation that draws -/
namespace Sf
open PySem L2 RZ
/-! evaluation, construct by construct -/
local macro_rules | `(tactic| walk_at "rp") => `(tactic| first | assumption | exact .int _ | exact .bl _ | exact .str _ | exact .non | exact Rp.mono (Sx.ff (by assumption)) (by walk_at "rp"))
local macro_rules | `(tactic| walk_at "sc") => `(tactic| first | rfl | assumption | omega | decide | (simp; done) | (simp; omega))
local macro_rules | `(tactic| walk_at "ix") => `(tactic| first | rfl | assumption)
local macro_rules | `(tactic| walk_at "rv") => `(tactic| first
  | exact xAddI | exact xSub | exact xLt | exact xLe | exact xGt | exact xGe | exact xIsN | exact xNotN | exact xEqI | exact xNeI | exact xEqB | exact xNeB | exact xEqLB | exact xEqTB | exact xNeTB
  | exact xMod (by walk_at "sc")
  | exact xDiv (by walk_at "sc")
  | exact xPow (by walk_at "sc")
  | exact xMulI (by walk_at "sc")
  | exact rv_ixt (by walk_at "ix")
  | exact rv_ixl (by walk_at "ix")
  | exact xAddL (by walk_at "sc")
  | exact xAddT (by walk_at "sc"))
local macro_rules | `(tactic| walk_at "rc") => `(tactic| first | exact xLenL | exact xLenT | exact xListL | exact xListT | exact xTupL | exact xTupT | exact xMax2 | exact xInt | exact rc_all | exact rc_any)
local macro_rules | `(tactic| walk_at "ea") => `(tactic| first | exact ea_nil | refine ea_cons (by walk_at "ev") (by walk_at "ea"))
local macro_rules | `(tactic| walk_at "eo") => `(tactic| first | exact eo_none | refine eo_some (by walk_at "ev"))
local macro_rules | `(tactic| walk_at "et") => `(tactic| first
  | ((with_reducible show EvT _ _ (tTest _) _ _ _ _); exact et_test (by walk_at "ev"))
  | ((with_reducible show EvT _ _ (tNot _) _ _ _ _); exact et_not (by walk_at "et"))
  | ((with_reducible show EvT _ _ (tAnd _ _) _ _ _ _); exact et_and (by walk_at "et") (fun hh => by walk_at "et"))
  | ((with_reducible show EvT _ _ (tOr _ _) _ _ _ _); exact et_or (by walk_at "et") (fun hh => by walk_at "et"))
  | ((with_reducible show EvT _ _ (tTru _ _) _ _ _ _); exact xTru (by walk_at "ev") (by walk_at "sc"))
  | ((with_reducible show EvT _ _ tYes _ _ _ _); exact et_yes))
local macro_rules | `(tactic| walk_at "ev") => `(tactic| first
  | ((with_reducible show EvD _ _ (tC _) _ _ _ _); first | exact ev_int | exact ev_bl | exact ev_str | exact ev_non)
  | ((with_reducible show EvD _ _ (tVar _) _ _ _ _); exact ev_var (by rfl) (by walk_at "rp"))
  | ((with_reducible show EvD _ _ (tOp _ _ _) _ _ _ _); exact ev_op (by walk_at "ev") (by walk_at "ev") (by walk_at "rv"))
  | ((with_reducible show EvD _ _ (tUn _ _) _ _ _ _); exact ev_un (by walk_at "ev") xNeg)
  | ((with_reducible show EvD _ _ (tCB _ _) _ _ _ _); exact ev_cb (by walk_at "ea") (by walk_at "rc"))
  | ((with_reducible show EvD _ _ (tTup _) _ _ _ _); exact ev_tup (by walk_at "ea") (by walk_at "sc"))
  | ((with_reducible show EvD _ _ (tLst _) _ _ _ _); exact ev_lst (by walk_at "ea") (by walk_at "sc"))
  | ((with_reducible show EvD _ _ (tSl _ _ _ _) _ _ _ _); first | exact xSlL (by walk_at "ev") (by walk_at "eo") (by walk_at "eo") | exact xSlT (by walk_at "ev") (by walk_at "eo") (by walk_at "eo"))
  | ((with_reducible show EvD _ _ (tNotT _ _) _ _ _ _); exact ev_notT (by walk_at "ev") (by walk_at "sc"))
  | ((with_reducible show EvD _ _ (tAndT _ _ _) _ _ _ _); exact ev_andB (by walk_at "ev") (fun hh => by walk_at "ev"))
  | ((with_reducible show EvD _ _ (tOrT _ _ _) _ _ _ _); exact ev_orB (by walk_at "ev") (fun hh => by walk_at "ev")))

section
variable {K : PySem.W.Frag} {F H F' H' F1 H1 F2 H2 : Hp} {M : List Addr} {σ : L2.St} {te ta tb tc tl : TE} {tt tu : TT} {d x y z : PyData} {r r' : R2} {D : Ends} {tw tz : TS}
/-! ### walkers -/
/-- n turns; turn i gives the datum e i -/
def WkD (K : PySem.W.Frag) (J : It) (n : Nat) (F : Hp) (e : Nat → PyData) : Prop :=
  ∃ G Y, Walk J n G Y ∧ (∀ F' H', Same F F' → Same F' H' → G H') ∧ ∀ i H' v H'', i < n → Y i H' v H'' → ∀ F', Same F F' → Same F' H' → ∃ F'', Sx [] F' H' F'' H'' ∧ Rp K F'' v (e i)
def EvW (K : PySem.W.Frag) (M : List Addr) (wi : TI) (σ : L2.St) (F H : Hp) (n : Nat) (e : Nat → PyData) : Prop :=
  ∀ F1 H1, Sx M F H F1 H1 → ∀ R : It → Hp → Prop, (∀ F2 H2 J, Sx [] F1 H1 F2 H2 → WkD K J n F2 e → R J H2) → wi σ H1 R
theorem ew_list {ds : List PyData} {n : Nat} {e : Nat → PyData} (h : EvD K M te σ F H (.list ds)) (hn : n = ds.length) (he : ∀ i, i < n → ds[i]? = some (e i)) : EvW K M (iList K te) σ F H n e := fun F1 H1 s R q => h F1 H1 s _ fun F2 H2 v s2 rv => by
  obtain ⟨a, xs, rfl, ha, rs⟩ := rv.lst_of
  have hl : n = xs.length := by rw [hn, rs.length]
  refine ⟨a, rfl, ⟨xs, .inl (.inl (s2.fh _ _ ha))⟩, q F2 H2 _ s2 ⟨_, _, hl ▸ walk_list, fun F' H' e1 e2 => .inl (.inl (e2 _ _ (e1 _ _ ha))), fun i H' v H'' hi y F' e1 e2 => ?_⟩⟩
  obtain ⟨rfl, hv⟩ := y
  obtain ⟨d, hd, rv⟩ := rs.of_get hv
  rw [he i hi] at hd
  cases hd
  exact ⟨F', Sx.refl e2, rv.mono e1⟩
theorem ew_tup {ds : List PyData} {n : Nat} {e : Nat → PyData} (h : EvD K M te σ F H (.tuple ds)) (hn : n = ds.length) (he : ∀ i, i < n → ds[i]? = some (e i)) : EvW K M (iTup K te) σ F H n e := fun F1 H1 s R q => h F1 H1 s _ fun F2 H2 v s2 rv => by
  obtain ⟨a, xs, rfl, ha, rs⟩ := rv.tup_of
  have hl : n = xs.length := by rw [hn, rs.length]
  refine ⟨a, rfl, ⟨xs, same_t s2.fh ha⟩, q F2 H2 _ s2 ⟨_, _, hl ▸ walk_tup, fun F' H' e1 e2 => same_t e2 (same_t e1 ha), fun i H' v H'' hi y F' e1 e2 => ?_⟩⟩
  obtain ⟨rfl, hv⟩ := y
  obtain ⟨d, hd, rv⟩ := rs.of_get hv
  rw [he i hi] at hd
  cases hd
  exact ⟨F', Sx.refl e2, rv.mono e1⟩
theorem ew_or1 {w1 w2 : TI} {n : Nat} {e : Nat → PyData} (h : EvW K M w1 σ F H n e) : EvW K M (iOr w1 w2) σ F H n e := fun F1 H1 s R q => .inl (h F1 H1 s R q)
theorem ew_or2 {w1 w2 : TI} {n : Nat} {e : Nat → PyData} (h : EvW K M w2 σ F H n e) : EvW K M (iOr w1 w2) σ F H n e := fun F1 H1 s R q => .inr (h F1 H1 s R q)
theorem ew_seqL {ds : List PyData} {n : Nat} {e : Nat → PyData} (h : EvD K M te σ F H (.list ds)) (hn : n = ds.length) (he : ∀ i, i < n → ds[i]? = some (e i)) : EvW K M (iSeq K te) σ F H n e := ew_or1 (ew_list h hn he)
theorem ew_seqT {ds : List PyData} {n : Nat} {e : Nat → PyData} (h : EvD K M te σ F H (.tuple ds)) (hn : n = ds.length) (he : ∀ i, i < n → ds[i]? = some (e i)) : EvW K M (iSeq K te) σ F H n e := ew_or2 (ew_tup h hn he)
theorem ew_rng1 {ta : TA} {n : Nat} {m : Int} (h : EvA K M ta σ F H [.int m]) (hm : m.toNat = n) (hz : m ≤ 1000000) (hz' : -1000000 ≤ m) : EvW K M (iRng1 ta) σ F H n (fun i => .int (i : Int)) := fun F1 H1 s R q => h F1 H1 s _ fun F2 H2 us s2 rs => by
  obtain ⟨_, rfl, h1⟩ := rs.inv1
  cases h1.int_of
  subst hm
  refine ⟨m, rfl, by omega, by omega, q F2 H2 _ s2 ⟨_, _, walk_range, fun _ _ _ _ => trivial, fun i H' v H'' hi y F' e1 e2 => ?_⟩⟩
  obtain ⟨rfl, rfl⟩ := y
  refine ⟨F', Sx.refl e2, ?_⟩
  show Rp K F' (.int (0 + (i : Int))) (.int (i : Int))
  rw [Int.zero_add]
  exact .int _
theorem ew_rng2 {ta : TA} {n : Nat} {lo m : Int} (h : EvA K M ta σ F H [.int lo, .int m]) (hm : (m - lo).toNat = n) (hz : -1000000 ≤ lo ∧ lo ≤ 1000000 ∧ -1000000 ≤ m ∧ m ≤ 1000000) : EvW K M (iRng2 ta) σ F H n (fun i => .int (lo + (i : Int))) := fun F1 H1 s R q => h F1 H1 s _ fun F2 H2 us s2 rs => by
  obtain ⟨_, _, rfl, h1, h2⟩ := rs.inv2
  cases h1.int_of
  cases h2.int_of
  subst hm
  refine ⟨lo, m, rfl, by omega, q F2 H2 _ s2 ⟨_, _, walk_range, fun _ _ _ _ => trivial, fun i H' v H'' hi y F' e1 e2 => ?_⟩⟩
  obtain ⟨rfl, rfl⟩ := y
  exact ⟨F', Sx.refl e2, .int _⟩
theorem walk_zipT {a b : Addr} {xs ys : List V} {n : Nat} (hn : n = min xs.length ys.length) : Walk (ItzT K a b) n (fun H => SqT K H a xs ∧ SqT K H b ys) (YPair (fun i => xs[i]?) (fun i => ys[i]?)) where
  goes i H hi q := ⟨xs, ys, xs[i]'(by omega), ys[i]'(by omega), q.1, q.2, List.getElem?_eq_getElem _, List.getElem?_eq_getElem _⟩
  stops H q := ⟨xs, ys, q.1, q.2, by omega⟩
  yields i H x H' hi q y := by
    obtain ⟨T, x', z', g1, g2, g3, g4, g5⟩ := y
    exact ⟨T, x', z', g1, g2, g3, g4 _ q.1, g5 _ q.2⟩
theorem zip_turn {F' H' H'' : Hp} {v : V} {i : Nat} {xs ys : List V} {ds es : List PyData} {e e' : Nat → PyData} (rs : RpAll K F xs ds) (rs' : RpAll K F ys es) (hd : ds[i]? = some (e i)) (he : es[i]? = some (e' i)) (y : YPair (fun i => xs[i]?) (fun i => ys[i]?) i H' v H'') (e1 : Same F F') (e2 : Same F' H') :
    ∃ F'', Sx [] F' H' F'' H'' ∧ Rp K F'' v (.tuple [e i, e' i]) := by
  obtain ⟨T, x, z, rfl, hT, rfl, hx, hz⟩ := y
  obtain ⟨d1, hd1, r1⟩ := rs.of_get hx
  obtain ⟨d2, hd2, r2⟩ := rs'.of_get hz
  rw [hd] at hd1
  rw [he] at hd2
  cases hd1
  cases hd2
  have sm := fix_same (o := HO.tup [x, z]) (none_of_same e2 hT)
  exact ⟨upd F' T (.tup [x, z]), Sx.new e2 _ hT, .tup (.inl (.inl upd_same)) (.cons ((r1.mono e1).mono sm) (.one ((r2.mono e1).mono sm)))⟩
theorem ew_zipL {ta : TA} {ds es : List PyData} {n : Nat} {e e' : Nat → PyData} (h : EvA K M ta σ F H [.list ds, .list es]) (hn : n = min ds.length es.length) (hd : ∀ i, i < n → ds[i]? = some (e i)) (he : ∀ i, i < n → es[i]? = some (e' i)) : EvW K M (iZipA K ta) σ F H n (fun i => .tuple [e i, e' i]) := fun F1 H1 s R q => h F1 H1 s _ fun F2 H2 us s2 rs => by
  obtain ⟨_, _, rfl, h1, h2⟩ := rs.inv2
  obtain ⟨a, xs, rfl, ha, ra⟩ := h1.lst_of
  obtain ⟨b, ys, rfl, hb, rb⟩ := h2.lst_of
  exact ⟨a, b, xs, ys, rfl, .inl ⟨.inl (.inl (s2.fh _ _ ha)), .inl (.inl (s2.fh _ _ hb)), q F2 H2 _ s2 ⟨_, _, walk_zip (by rw [hn, ra.length, rb.length]), fun F' H' e1 e2 => ⟨.inl (.inl (e2 _ _ (e1 _ _ ha))), .inl (.inl (e2 _ _ (e1 _ _ hb)))⟩, fun i H' v H'' hi y F' e1 e2 => zip_turn ra rb (hd i hi) (he i hi) y e1 e2⟩⟩⟩
theorem ew_zipT {ta : TA} {ds es : List PyData} {n : Nat} {e e' : Nat → PyData} (h : EvA K M ta σ F H [.tuple ds, .tuple es]) (hn : n = min ds.length es.length) (hd : ∀ i, i < n → ds[i]? = some (e i)) (he : ∀ i, i < n → es[i]? = some (e' i)) : EvW K M (iZipA K ta) σ F H n (fun i => .tuple [e i, e' i]) := fun F1 H1 s R q => h F1 H1 s _ fun F2 H2 us s2 rs => by
  obtain ⟨_, _, rfl, h1, h2⟩ := rs.inv2
  obtain ⟨a, xs, rfl, ha, ra⟩ := h1.tup_of
  obtain ⟨b, ys, rfl, hb, rb⟩ := h2.tup_of
  exact ⟨a, b, xs, ys, rfl, .inr ⟨same_t s2.fh ha, same_t s2.fh hb, q F2 H2 _ s2 ⟨_, _, walk_zipT (by rw [hn, ra.length, rb.length]), fun F' H' e1 e2 => ⟨same_t e2 (same_t e1 ha), same_t e2 (same_t e1 hb)⟩, fun i H' v H'' hi y F' e1 e2 => zip_turn ra rb (hd i hi) (he i hi) y e1 e2⟩⟩⟩
/-- a comprehension over whatever is walked -/
theorem en_lc {wi : TI} {gt : TG} {vs : List Nat} (n : Nat) (e g : Nat → PyData) (p : Nat → Bool) (P : Nat → L2.St → Hp → L2.St → Prop) (h : EvW K M wi σ F H n e) (hz : n ≤ 1000000)
    (hP : ∀ i, i < n → TgD K gt (e i) (P i)) (hw : ∀ i, i < n → ∀ F1 σ', P i (wipe σ vs) F1 σ' → wipe σ' vs = wipe σ vs)
    (ht : ∀ i, i < n → ∀ F1 H1 σ', Sx M F H F1 H1 → P i (wipe σ vs) F1 σ' → EvT K M tt σ' F1 H1 (p i))
    (he : ∀ i, i < n → p i = true → ∀ F1 H1 σ', Sx M F H F1 H1 → P i (wipe σ vs) F1 σ' → EvD K M te σ' F1 H1 (g i)) :
    EvN K M (tLc wi gt tt te vs) σ F H (((List.range n).filter p).map g) := fun F1 H1 s Q q => h F1 H1 s _ fun F2 H2 J s2 ⟨G, Y, wk, hG, hY⟩ => fun Dl hD => by
  refine lc_it wk (fun i H' => Lw K F2 H2 Dl (picked (List.range n) p g i) H') ⟨F2, [], Sx.newM s2.fh _ hD, none_of_same s2.fh hD, hD, upd_same, by unfold picked; exact .nil⟩ (fun i H' _ ⟨F', _, s3, _⟩ => hG F' H' s3.ff s3.fh) (fun i v H' H'' hi w y => ?_) (fun H' ⟨F', us, s3, n1, n2, hD3, r3⟩ => ?_)
  · obtain ⟨F3, ws, s3, n1, n2, hD3, r3⟩ := w
    obtain ⟨F4, s4, rv⟩ := hY i H' v H'' hi y F3 s3.ff s3.fh
    have w' : Lw K F2 H2 Dl (picked (List.range n) p g i) H'' := ⟨F4, ws, s3.trans s4, s4.sep _ n1 (by rw [hD3]; simp), n2, s4.hh _ _ (by simp) hD3, r3.mono s4.ff⟩
    have w5 : Lw K F4 H'' Dl (picked (List.range n) p g i) H'' → False := fun ⟨_, _, _, _, z, _⟩ => by rw [s4.hh _ _ (by simp) hD3] at z; cases z
    have s04 : Sx M F H F4 H'' := ((s.trans s2.up).trans s3.up).trans s4.up
    refine hP i hi F4 H'' v _ s4.fh rv _ fun σ' hσ => ⟨hw i hi _ _ hσ, ?_⟩
    refine ht i hi F4 H'' σ' s04 hσ F4 H'' (Sx.refl s4.fh) _ fun F5 H5 s5 => ?_
    have s35 := (s3.trans s4).trans s5
    have hD5 : H5 Dl = some (.lst ws) := s5.hh _ _ (by simp) (s4.hh _ _ (by simp) hD3)
    have nF5 : F5 Dl = none := s5.sep _ (s4.sep _ n1 (by rw [hD3]; simp)) (by rw [s4.hh _ _ (by simp) hD3]; simp)
    have r5 := (r3.mono s4.ff).mono s5.ff
    have hnx := picked_next (p := p) (g := g) (range_at hi)
    cases hp : p i with
    | false =>
      rw [hp] at hnx
      refine iteF ⟨F5, ws, s35, nF5, n2, hD5, ?_⟩
      rw [hnx]
      simpa using r5
    | true =>
      rw [hp] at hnx
      refine iteT (he i hi hp F4 H'' σ' s04 hσ F5 H5 s5.up _ fun F6 H6 u s6 ru => ?_)
      have hD6 : H6 Dl = some (.lst ws) := s6.hh _ _ (by simp) hD5
      have nF6 : F6 Dl = none := s6.sep _ nF5 (by rw [hD5]; simp)
      refine ⟨ws, hD6, Nat.lt_of_le_of_lt (by rw [r3.length]; exact Nat.le_trans (picked_le ..) (by simpa using hz)) (by decide), F6, _, Sx.put (s35.trans s6) _ (.inr n2) nF6, nF6, n2, upd_same, ?_⟩
      rw [hnx]
      exact (r5.mono s6.ff).append (.one ru)
  · have e1 : picked (List.range n) p g n = ((List.range n).filter p).map g := by
      unfold picked
      rw [List.take_of_length_le (by simp)]
    rw [e1] at r3
    exact q F' H' Dl us (s2.trans s3) (Same.free s2.same n2) n1 hD3 r3
/-! ### evaluation that draws -/
def EvS (K : PySem.W.Frag) (p q : Addr) (te : TE) (σ : L2.St) (F H : Hp) (c : Nat) (P : PyData → Prop) : Prop :=
  ∀ F1 H1 n, Sx [p, q] F H F1 H1 → Stm F1 H1 p q n → n + c ≤ 1000000000 → ∀ Q : VK, (∀ F2 H2 v d, Sx [p, q] F1 H1 F2 H2 → Stm F2 H2 p q (n + c) → P d → Rp K F2 v d → Q v H2) → te σ H1 Q
def EvSA (K : PySem.W.Frag) (p q : Addr) (ta : TA) (σ : L2.St) (F H : Hp) (c : Nat) (P : List PyData → Prop) : Prop :=
  ∀ F1 H1 n, Sx [p, q] F H F1 H1 → Stm F1 H1 p q n → n + c ≤ 1000000000 → ∀ Q : List V → Hp → Prop, (∀ F2 H2 vs ds, Sx [p, q] F1 H1 F2 H2 → Stm F2 H2 p q (n + c) → P ds → RpAll K F2 vs ds → Q vs H2) → ta σ H1 Q
def EvST (K : PySem.W.Frag) (p q : Addr) (tt : TT) (σ : L2.St) (F H : Hp) (c : Nat) (P : Bool → Prop) : Prop :=
  ∀ F1 H1 n, Sx [p, q] F H F1 H1 → Stm F1 H1 p q n → n + c ≤ 1000000000 → ∀ Q : Bool → Hp → Prop, (∀ F2 H2 b, Sx [p, q] F1 H1 F2 H2 → Stm F2 H2 p q (n + c) → P b → Q b H2) → tt σ H1 Q
variable {p q : Addr} {c c' : Nat} {Px Py Pz : PyData → Prop}
theorem es_d (h : EvD K [p, q] te σ F H d) : EvS K p q te σ F H 0 (fun x => x = d) := fun F1 H1 n s st hn Q k => h F1 H1 s Q fun F2 H2 v s2 rv => k F2 H2 v d s2.up (st.pure s2) rfl rv
theorem EvS.weak (h : EvS K p q te σ F H c Px) (hc : c ≤ c') (hP : ∀ d, Px d → Py d) : EvS K p q te σ F H c' Py := fun F1 H1 n s st hn Q k => h F1 H1 n s st (by omega) Q fun F2 H2 v d s2 st2 hd rv => k F2 H2 v d s2 (st2.le (by omega)) (hP d hd) rv
theorem es_op (ha : EvS K p q ta σ F H c Px) (hb : EvS K p q tb σ F H c' Py) (hr : ∀ x y, Px x → Py y → ∃ z, RV K r x y z ∧ Pz z) : EvS K p q (tOp r ta tb) σ F H (c + c') Pz := fun F1 H1 n s st hn Q k =>
  ha F1 H1 n s st (by omega) _ fun F2 H2 v x s2 st2 hx rv => hb F2 H2 (n + c) (s.trans s2) st2 (by omega) _ fun F3 H3 w y s3 st3 hy rw => by
    obtain ⟨z, hz, pz⟩ := hr x y hx hy
    exact hz F3 H3 v w s3.fh (rv.mono s3.ff) rw Q fun F4 H4 u s4 ru => k F4 H4 u z ((s2.trans s3).trans s4.up) ((st3.le (by omega)).pure s4) pz ru
theorem esa_nil : EvSA K p q tNil σ F H 0 (fun ds => ds = []) := fun F1 H1 n s st hn Q k => k F1 H1 [] [] (Sx.refl s.fh) st rfl .nil
theorem esa_cons {tr : TA} {Pr Pq : List PyData → Prop} (ha : EvS K p q ta σ F H c Px) (hb : EvSA K p q tr σ F H c' Pr) (hP : ∀ x ds, Px x → Pr ds → Pq (x :: ds)) : EvSA K p q (tCons ta tr) σ F H (c + c') Pq := fun F1 H1 n s st hn Q k =>
  ha F1 H1 n s st (by omega) _ fun F2 H2 v x s2 st2 hx rv => hb F2 H2 (n + c) (s.trans s2) st2 (by omega) _ fun F3 H3 vs ds s3 st3 hds rs => k F3 H3 _ _ (s2.trans s3) (st3.le (by omega)) (hP x ds hx hds) (.cons (rv.mono s3.ff) rs)
theorem esa_d {ta : TA} {ds : List PyData} (h : EvA K [p, q] ta σ F H ds) : EvSA K p q ta σ F H 0 (fun x => x = ds) := fun F1 H1 n s st hn Q k => h F1 H1 s Q fun F2 H2 vs s2 rs => k F2 H2 vs ds s2.up (st.pure s2) rfl rs
theorem es_cb {rr : List V → Hp → VK → Prop} {ta : TA} {Pr : List PyData → Prop} (h : EvSA K p q ta σ F H c Pr) (hr : ∀ ds, Pr ds → ∃ z, RC K rr ds z ∧ Pz z) : EvS K p q (tCB rr ta) σ F H c Pz := fun F1 H1 n s st hn Q k =>
  h F1 H1 n s st hn _ fun F2 H2 vs ds s2 st2 hds rs => by
    obtain ⟨z, hz, pz⟩ := hr ds hds
    exact hz F2 H2 vs s2.fh rs Q fun F4 H4 u s4 ru => k F4 H4 u z (s2.trans s4.up) (st2.pure s4) pz ru
theorem es_tup {ta : TA} {Pr : List PyData → Prop} (h : EvSA K p q ta σ F H c Pr) (hl : ∀ ds, Pr ds → ds.length ≤ 1000) : EvS K p q (tTup ta) σ F H c (fun z => ∃ ds, Pr ds ∧ z = .tuple ds) := fun F1 H1 n s st hn Q k =>
  h F1 H1 n s st hn _ fun F2 H2 vs ds s2 st2 hds rs => ⟨Nat.le_of_lt (small1000 (by rw [rs.length]; exact hl ds hds)), fun l hl => k (upd F2 l (.tup vs)) _ _ _ (s2.trans (Sx.new s2.fh _ hl)) (st2.pure (Sx.new s2.fh _ hl)) ⟨ds, hds, rfl⟩ (.tup (.inl (.inl upd_same)) (rs.mono (fix_same (none_of_same s2.fh hl))))⟩
theorem es_lst {ta : TA} {Pr : List PyData → Prop} (h : EvSA K p q ta σ F H c Pr) (hl : ∀ ds, Pr ds → ds.length ≤ 1000) : EvS K p q (tLst ta) σ F H c (fun z => ∃ ds, Pr ds ∧ z = .list ds) := fun F1 H1 n s st hn Q k =>
  h F1 H1 n s st hn _ fun F2 H2 vs ds s2 st2 hds rs => ⟨Nat.le_of_lt (small1000 (by rw [rs.length]; exact hl ds hds)), fun l hl => k (upd F2 l (.lst vs)) _ _ _ (s2.trans (Sx.new s2.fh _ hl)) (st2.pure (Sx.new s2.fh _ hl)) ⟨ds, hds, rfl⟩ (.lst upd_same (rs.mono (fix_same (none_of_same s2.fh hl))))⟩
theorem est_test {Pb : Bool → Prop} (h : EvS K p q te σ F H c (fun d => ∃ b, d = .bool b ∧ Pb b)) : EvST K p q (tTest te) σ F H c Pb := fun F1 H1 n s st hn Q k => h F1 H1 n s st hn _ fun F2 H2 v d s2 st2 hd rv => by
  obtain ⟨b, rfl, hb⟩ := hd
  cases rv.bl_of
  exact ⟨b, rfl, k F2 H2 b s2 st2 hb⟩
theorem est_tru {Pb : Bool → Prop} (h : EvS K p q te σ F H c (fun d => ∃ b, truthD d = some b ∧ Pb b)) : EvST K p q (tTru K te) σ F H c Pb := fun F1 H1 n s st hn Q k => h F1 H1 n s st hn _ fun F2 H2 v d s2 st2 hd rv => by
  obtain ⟨b, hb, pb⟩ := hd
  exact ⟨b, truV_of s2.fh rv hb, k F2 H2 b s2 st2 pb⟩
theorem est_t {b : Bool} (h : EvT K [p, q] tt σ F H b) : EvST K p q tt σ F H 0 (fun x => x = b) := fun F1 H1 n s st hn Q k => h F1 H1 s Q fun F2 H2 s2 => k F2 H2 b s2.up (st.pure s2) rfl
theorem est_not {Pb : Bool → Prop} (h : EvST K p q tt σ F H c Pb) : EvST K p q (tNot tt) σ F H c (fun b => Pb (!b)) := fun F1 H1 n s st hn Q k => h F1 H1 n s st hn _ fun F2 H2 b s2 st2 hb => k F2 H2 (!b) s2 st2 (by show Pb (!(!b)); rw [Bool.not_not]; exact hb)
theorem es_if {c1 c2 c3 : Nat} {Pb : Bool → Prop} (h : EvST K p q tt σ F H c1 Pb) (h1 : Pb true → EvS K p q ta σ F H c2 Pz) (h2 : Pb false → EvS K p q tb σ F H c3 Pz) : EvS K p q (tIf tt ta tb) σ F H (c1 + c2 + c3) Pz := fun F1 H1 n s st hn Q k =>
  h F1 H1 n s st (by omega) _ fun F2 H2 b s2 st2 hb => by
    cases b with
    | true => exact iteT (h1 hb F2 H2 _ (s.trans s2) st2 (by omega) Q fun F3 H3 v d s3 st3 hd rv => k F3 H3 v d (s2.trans s3) (st3.le (by omega)) hd rv)
    | false => exact iteF (h2 hb F2 H2 _ (s.trans s2) st2 (by omega) Q fun F3 H3 v d s3 st3 hd rv => k F3 H3 v d (s2.trans s3) (st3.le (by omega)) hd rv)
/-- a draw -/
theorem es_below {i m : Nat} {E : XK} (h : σ[i]? = some (some (.ref p))) (hm : EvD K [p, q] te σ F H (.int (m : Int))) (h1 : 1 ≤ m) (h2 : m < 1073741824) : EvS K p q (tCall (sp_law_below K) [] E (tCons (tVar i) (tCons te tNil))) σ F H 1 (fun d => ∃ r : Nat, r < m ∧ d = .int (r : Int)) := fun F1 H1 n s st hn Q k =>
  ⟨.ref p, h, hm F1 H1 s _ fun F2 H2 v s2 rv => by
    cases rv.int_of
    exact ⟨p, q, n, m, F2, rfl, s2.fh, st.pure s2, h1, h2, by omega, fun F' H' r s3 st3 hr => k F' H' _ _ (s2.up.trans s3) st3 ⟨r, hr, rfl⟩ (.int _)⟩⟩
/-- a pure def called with drawn data -/
theorem es_callP {ι : Type} {din : ι → List PyData} {dout : ι → PyData} {pre : ι → Prop} {E : XK} {ta : TA} {Pr : List PyData → Prop} (h : EvSA K p q ta σ F H c Pr) (hi : ∀ ds, Pr ds → ∃ i, din i = ds ∧ pre i ∧ Pz (dout i)) : EvS K p q (tCall (spP K din dout pre) [] E ta) σ F H c Pz := fun F1 H1 n s st hn Q k =>
  h F1 H1 n s st hn _ fun F2 H2 vs ds s2 st2 hds rs => by
    obtain ⟨i, hi, hp, pz⟩ := hi ds hds
    exact ⟨i, F2, s2.fh, by rw [List.append_nil, hi]; exact rs, hp, fun F' H' v s3 rv => k F' H' v _ (s2.trans s3.up) (st2.pure s3) pz rv⟩
/-- what holds of a comprehension's list that draws -/
def Sw (K : PySem.W.Frag) (p q : Addr) (F H : Hp) (n c : Nat) (Dl : Addr) (Pg : Nat → PyData → Prop) (i : Nat) (H' : Hp) : Prop :=
  ∃ F' vs ds, Sx [p, q] F H F' H' ∧ Stm F' H' p q (n + c * i) ∧ F' Dl = none ∧ H Dl = none ∧ Dl ≠ p ∧ Dl ≠ q ∧ H' Dl = some (.lst vs) ∧ RpAll K F' vs ds ∧ ds.length = i ∧ ∀ j d, ds[j]? = some d → Pg j d
theorem Stm.put {n : Nat} {l : Addr} {o : HO} (st : Stm F H p q n) (h1 : l ≠ p) (h2 : l ≠ q) : Stm F (upd H l o) p q n := by
  obtain ⟨cs, a, b, c, e1, e2, r⟩ := st
  exact ⟨cs, a, b, c, by rw [upd_ne h1.symm]; exact e1, by rw [upd_ne h2.symm]; exact e2, r⟩
theorem Stm.nep {n : Nat} {l : Addr} (st : Stm F H p q n) (h : H l = none) : l ≠ p ∧ l ≠ q := by
  obtain ⟨cs, a, b, c, e1, e2, r⟩ := st
  exact ⟨fun z => (by rw [z, e1] at h; cases h), fun z => (by rw [z, e2] at h; cases h)⟩
theorem es_lc {wi : TI} {gt : TG} {vs : List Nat} (m : Nat) (e : Nat → PyData) (P : Nat → L2.St → Hp → L2.St → Prop) (Pg : Nat → PyData → Prop) (h : EvW K [p, q] wi σ F H m e) (hz : m ≤ 1000000)
    (hP : ∀ i, i < m → TgD K gt (e i) (P i)) (hw : ∀ i, i < m → ∀ F1 σ', P i (wipe σ vs) F1 σ' → wipe σ' vs = wipe σ vs)
    (he : ∀ i, i < m → ∀ F1 H1 σ', Sx [p, q] F H F1 H1 → P i (wipe σ vs) F1 σ' → EvS K p q te σ' F1 H1 c (Pg i)) :
    EvS K p q (tLc wi gt tYes te vs) σ F H (c * m) (fun d => ∃ ds, d = .list ds ∧ ds.length = m ∧ ∀ j d, ds[j]? = some d → Pg j d) := fun F1 H1 n s st hn Q k => h F1 H1 s _ fun F2 H2 J s2 ⟨G, Y, wk, hG, hY⟩ => fun Dl hD => by
  have st2 := st.pure s2
  obtain ⟨nep, neq⟩ := st2.nep hD
  refine lc_it wk (fun i H' => Sw K p q F2 H2 n c Dl Pg i H') ⟨F2, [], [], Sx.newM s2.fh _ hD, by rw [Nat.mul_zero]; exact st2.put nep neq, none_of_same s2.fh hD, hD, nep, neq, upd_same, .nil, rfl, by simp⟩ (fun i H' _ ⟨F', _, _, s3, _⟩ => hG F' H' s3.ff s3.fh) (fun i v H' H'' hi w y => ?_) (fun H' ⟨F', us, ds, s3, st3, n1, n2, _, _, hD3, r3, hl, hd⟩ => ?_)
  · obtain ⟨F3, ws, ds, s3, st3, n1, n2, _, _, hD3, r3, hl, hd⟩ := w
    obtain ⟨F4, s4, rv⟩ := hY i H' v H'' hi y F3 s3.ff s3.fh
    have s04 : Sx [p, q] F H F4 H'' := ((s.trans s2.up).trans s3).trans s4.up
    refine hP i hi F4 H'' v _ s4.fh rv _ fun σ' hσ => ⟨hw i hi _ _ hσ, ?_⟩
    unfold tYes
    dsimp only
    rw [if_pos rfl]
    have hle : c * (i + 1) ≤ c * m := Nat.mul_le_mul_left c hi
    have hmul : c * (i + 1) = c * i + c := Nat.mul_succ c i
    refine he i hi F4 H'' σ' s04 hσ F4 H'' (n + c * i) (Sx.refl s4.fh) (st3.pure s4) (by omega) _ fun F6 H6 u d s6 st6 pd ru => ?_
    have hD4 : H'' Dl = some (.lst ws) := s4.hh _ _ (by simp) hD3
    have hD6 : H6 Dl = some (.lst ws) := s6.hh _ _ (by simp [nep, neq]) hD4
    have nF6 : F6 Dl = none := s6.sep _ (s4.sep _ n1 (by rw [hD3]; simp)) (by rw [hD4]; simp)
    refine ⟨ws, hD6, Nat.lt_of_le_of_lt (by rw [r3.length, hl]; omega) (by decide : 1000000 < sizeLine), F6, _, ds ++ [d], Sx.put ((s3.trans s4.up).trans s6) _ (.inr n2) nF6, ?_, nF6, n2, nep, neq, upd_same, ((r3.mono s4.ff).mono s6.ff).append (.one ru), by simp [hl], fun j d' hj => ?_⟩
    · rw [hmul, ← Nat.add_assoc]
      exact st6.put nep neq
    · rcases Nat.lt_or_ge j ds.length with hlt | hge
      · rw [List.getElem?_append_left hlt] at hj
        exact hd j d' hj
      · rw [List.getElem?_append_right hge] at hj
        have : j - ds.length = 0 := by
          rcases Nat.eq_zero_or_pos (j - ds.length) with h | h
          · exact h
          · rw [List.getElem?_eq_none (by simp; omega)] at hj; cases hj
        rw [this] at hj
        simp at hj
        subst hj
        rw [show j = i by omega]
        exact pd
  · exact k (upd F' Dl (.lst us)) H' _ _ (Sx.fix (s2.up.trans s3) (Same.free s2.same n2) hD3 n1) (by
      obtain ⟨cs, a, b, cc, e1, e2, f1, f2, r⟩ := st3
      exact ⟨cs, a, b, cc, e1, e2, by rw [upd_ne nep.symm]; exact f1, by rw [upd_ne neq.symm]; exact f2, r⟩) ⟨ds, rfl, hl, hd⟩ (.lst upd_same (r3.mono (fix_same n1)))
/-! statements that draw -/
theorem qs_set {n i : Nat} (e : Same F H) (st : Stm F H p q n) (h : EvS K p q te σ F H c Px) (hn : n + c ≤ 1000000000) (k : ∀ F1 H1 v d, Sx [p, q] F H F1 H1 → Stm F1 H1 p q (n + c) → Px d → Rp K F1 v d → tw D (σ.set i (some v)) H1) : tSeq (tAsg te (gName i)) tw D σ H :=
  h F H n (Sx.refl e) st hn _ fun F1 H1 v d s st1 hd rv => k F1 H1 v d s st1 hd rv
theorem qs_asg {n : Nat} {g : TG} {P : PyData → L2.St → Hp → L2.St → Prop} (hg : ∀ d, Px d → TgD K g d (P d)) (e : Same F H) (st : Stm F H p q n) (h : EvS K p q te σ F H c Px) (hn : n + c ≤ 1000000000) (k : ∀ F1 H1 σ' d, Sx [p, q] F H F1 H1 → Stm F1 H1 p q (n + c) → Px d → P d σ F1 σ' → tw D σ' H1) : tSeq (tAsg te g) tw D σ H :=
  h F H n (Sx.refl e) st hn _ fun F1 H1 v d s st1 hd rv => hg d hd F1 H1 v σ s.fh rv _ fun σ' hσ => k F1 H1 σ' d s st1 hd hσ
theorem qs_par {n i j : Nat} {ta : TA} {Pr : PyData → PyData → Prop} (e : Same F H) (st : Stm F H p q n) (h : EvSA K p q ta σ F H c (fun ds => ∃ x y, ds = [x, y] ∧ Pr x y)) (hn : n + c ≤ 1000000000) (k : ∀ F1 H1 v w x y, Sx [p, q] F H F1 H1 → Stm F1 H1 p q (n + c) → Pr x y → Rp K F1 v x → Rp K F1 w y → tw D ((σ.set i (some v)).set j (some w)) H1) : tSeq (tPar i j ta) tw D σ H :=
  h F H n (Sx.refl e) st hn _ fun F1 H1 vs ds s st1 ⟨x, y, hd, hp⟩ rs => by
    subst hd
    obtain ⟨v, w, rfl, r1, r2⟩ := rs.inv2
    exact ⟨v, w, rfl, k F1 H1 v w x y s st1 hp r1 r2⟩
theorem ss_ret {n : Nat} (e : Same F H) (st : Stm F H p q n) (h : EvS K p q te σ F H c Px) (hn : n + c ≤ 1000000000) (k : ∀ F1 H1 v d, Sx [p, q] F H F1 H1 → Stm F1 H1 p q (n + c) → Px d → Rp K F1 v d → D.rt v H1) : tRet te D σ H :=
  h F H n (Sx.refl e) st hn _ fun F1 H1 v d s st1 hd rv => k F1 H1 v d s st1 hd rv
theorem qs_if {n : Nat} {Pb : Bool → Prop} {tv : TS} (e : Same F H) (st : Stm F H p q n) (h : EvST K p q tt σ F H c Pb) (hn : n + c ≤ 1000000000) (h1 : Pb true → ∀ F1 H1, Sx [p, q] F H F1 H1 → Stm F1 H1 p q (n + c) → tw { D with nx := tv D } σ H1) (h2 : Pb false → ∀ F1 H1, Sx [p, q] F H F1 H1 → Stm F1 H1 p q (n + c) → tz { D with nx := tv D } σ H1) : tSeq (tIfS tt tw tz) tv D σ H :=
  h F H n (Sx.refl e) st hn _ fun F1 H1 b s st1 hb => by
    cases b with
    | true => exact iteT (h1 hb F1 H1 s st1)
    | false => exact iteF (h2 hb F1 H1 s st1)
end
end Sf

/-! the law's own hands: chance, same, loose -/
namespace Sf
open PySem L2 RZ
/-! evaluation, construct by construct -/
local macro_rules | `(tactic| walk_at "rp") => `(tactic| first | assumption | exact .int _ | exact .bl _ | exact .str _ | exact .non | exact Rp.mono (Sx.ff (by assumption)) (by walk_at "rp"))
local macro_rules | `(tactic| walk_at "sc") => `(tactic| first | rfl | assumption | omega | decide | (simp; done) | (simp; omega))
local macro_rules | `(tactic| walk_at "ix") => `(tactic| first | rfl | assumption)
local macro_rules | `(tactic| walk_at "rv") => `(tactic| first
  | exact xAddI | exact xSub | exact xLt | exact xLe | exact xGt | exact xGe | exact xIsN | exact xNotN | exact xEqI | exact xNeI | exact xEqB | exact xNeB | exact xEqLB | exact xEqTB | exact xNeTB
  | exact xMod (by walk_at "sc")
  | exact xDiv (by walk_at "sc")
  | exact xPow (by walk_at "sc")
  | exact xMulI (by walk_at "sc")
  | exact rv_ixt (by walk_at "ix")
  | exact rv_ixl (by walk_at "ix")
  | exact xAddL (by walk_at "sc")
  | exact xAddT (by walk_at "sc"))
local macro_rules | `(tactic| walk_at "rc") => `(tactic| first | exact xLenL | exact xLenT | exact xListL | exact xListT | exact xTupL | exact xTupT | exact xMax2 | exact xInt | exact rc_all | exact rc_any)
local macro_rules | `(tactic| walk_at "ea") => `(tactic| first | exact ea_nil | refine ea_cons (by walk_at "ev") (by walk_at "ea"))
local macro_rules | `(tactic| walk_at "eo") => `(tactic| first | exact eo_none | refine eo_some (by walk_at "ev"))
local macro_rules | `(tactic| walk_at "et") => `(tactic| first
  | ((with_reducible show EvT _ _ (tTest _) _ _ _ _); exact et_test (by walk_at "ev"))
  | ((with_reducible show EvT _ _ (tNot _) _ _ _ _); exact et_not (by walk_at "et"))
  | ((with_reducible show EvT _ _ (tAnd _ _) _ _ _ _); exact et_and (by walk_at "et") (fun hh => by walk_at "et"))
  | ((with_reducible show EvT _ _ (tOr _ _) _ _ _ _); exact et_or (by walk_at "et") (fun hh => by walk_at "et"))
  | ((with_reducible show EvT _ _ (tTru _ _) _ _ _ _); exact xTru (by walk_at "ev") (by walk_at "sc"))
  | ((with_reducible show EvT _ _ tYes _ _ _ _); exact et_yes))
local macro_rules | `(tactic| walk_at "ev") => `(tactic| first
  | ((with_reducible show EvD _ _ (tC _) _ _ _ _); first | exact ev_int | exact ev_bl | exact ev_str | exact ev_non)
  | ((with_reducible show EvD _ _ (tVar _) _ _ _ _); exact ev_var (by rfl) (by walk_at "rp"))
  | ((with_reducible show EvD _ _ (tOp _ _ _) _ _ _ _); exact ev_op (by walk_at "ev") (by walk_at "ev") (by walk_at "rv"))
  | ((with_reducible show EvD _ _ (tUn _ _) _ _ _ _); exact ev_un (by walk_at "ev") xNeg)
  | ((with_reducible show EvD _ _ (tCB _ _) _ _ _ _); exact ev_cb (by walk_at "ea") (by walk_at "rc"))
  | ((with_reducible show EvD _ _ (tTup _) _ _ _ _); exact ev_tup (by walk_at "ea") (by walk_at "sc"))
  | ((with_reducible show EvD _ _ (tLst _) _ _ _ _); exact ev_lst (by walk_at "ea") (by walk_at "sc"))
  | ((with_reducible show EvD _ _ (tSl _ _ _ _) _ _ _ _); first | exact xSlL (by walk_at "ev") (by walk_at "eo") (by walk_at "eo") | exact xSlT (by walk_at "ev") (by walk_at "eo") (by walk_at "eo"))
  | ((with_reducible show EvD _ _ (tNotT _ _) _ _ _ _); exact ev_notT (by walk_at "ev") (by walk_at "sc"))
  | ((with_reducible show EvD _ _ (tAndT _ _ _) _ _ _ _); exact ev_andB (by walk_at "ev") (fun hh => by walk_at "ev"))
  | ((with_reducible show EvD _ _ (tOrT _ _ _) _ _ _ _); exact ev_orB (by walk_at "ev") (fun hh => by walk_at "ev")))

/-- plain data: no dict, texts of codes, no deeper than n, no list too long -/
inductive Pl : Nat → PyData → Prop where
  | non {n : Nat} : Pl n .none
  | bool {n : Nat} {b : Bool} : Pl n (.bool b)
  | int {n : Nat} {i : Int} : Pl n (.int i)
  | str {n : Nat} {x : Str} (h : PyData.strOk x = true) : Pl n (.str x)
  | list {n : Nat} {ds : List PyData} (h : ∀ d, d ∈ ds → Pl n d) (hl : ds.length ≤ 1000000) : Pl (n + 1) (.list ds)
  | tuple {n : Nat} {ds : List PyData} (h : ∀ d, d ∈ ds → Pl n d) (hl : ds.length ≤ 1000000) : Pl (n + 1) (.tuple ds)
theorem Pl.lay {n : Nat} {d : PyData} (h : Pl n d) : Lay n d := by
  induction h with
  | non => exact .non
  | bool => exact .bool
  | int => exact .int
  | str h => exact ⟨by simpa [PyData.canLay0] using h, by simp [PyData.depth]⟩
  | list h _ ih => exact Lay.list ih
  | tuple h _ ih => exact Lay.tuple ih
theorem Pl.up {n : Nat} {d : PyData} (h : Pl n d) : Pl (n + 1) d := by
  induction h with
  | non => exact .non
  | bool => exact .bool
  | int => exact .int
  | str h => exact .str h
  | list h hl ih => exact .list ih hl
  | tuple h hl ih => exact .tuple ih hl
theorem Pl.le {n m : Nat} {d : PyData} (h : Pl n d) (hm : n ≤ m) : Pl m d := by
  induction m with
  | zero => rw [Nat.le_zero.mp hm] at h; exact h
  | succ m ih =>
    rcases Nat.lt_or_eq_of_le hm with h1 | h1
    · exact (ih (by omega)).up
    · rw [← h1]; exact h
theorem Pl.bools {n : Nat} {bs : List Bool} : ∀ d, d ∈ bs.map PyData.bool → Pl n d := fun d h => by
  obtain ⟨b, _, rfl⟩ := List.mem_map.mp h
  exact .bool
theorem Pl.ints {n : Nat} {α : Type} {f : α → Int} {bs : List α} : ∀ d, d ∈ bs.map (fun a => PyData.int (f a)) → Pl n d := fun d h => by
  obtain ⟨b, _, rfl⟩ := List.mem_map.mp h
  exact .int
theorem Pl.one {n : Nat} {d : PyData} (h : Pl n d) : ∀ e, e ∈ [d] → Pl n e := fun e he => by
  rw [List.mem_singleton] at he; rw [he]; exact h
theorem Pl.cons {n : Nat} {d : PyData} {ds : List PyData} (h : Pl n d) (hs : ∀ e, e ∈ ds → Pl n e) : ∀ e, e ∈ d :: ds → Pl n e := fun e he => by
  rcases List.mem_cons.mp he with rfl | he
  · exact h
  · exact hs e he
theorem Pl.nil {n : Nat} : ∀ e, e ∈ ([] : List PyData) → Pl n e := fun e he => by cases he
section
variable {K : PySem.W.Frag} {F H F' H' F1 H1 F2 H2 : Hp} {M : List Addr} {σ : L2.St} {te ta tb tc tl : TE} {tt tu : TT} {d x y z : PyData} {r r' : R2} {D : Ends} {tw tz : TS}
/-! ### _law_same -/
def spn_law_same (n : Nat) (K : PySem.W.Frag) : Sp := fun vs H Q _ => ∃ (F : Hp) (v w : V) (d : PyData), vs = [v, w] ∧ Same F H ∧ Rp K F v d ∧ Rp K F w d ∧ Pl n d ∧ ∀ F' H', Sx [] F H F' H' → Q (.bl true) H'
def rc_law_same : Nat → PySem.W.Frag → Sp
  | 0, _ => fun _ _ _ _ => False
  | n + 1, K => spn_law_same n K
def sp_law_same (K : PySem.W.Frag) : Sp := spn_law_same 8 K
theorem len_law_same {n : Nat} {vs : List V} {Q : VK} {E : XK} (h : spn_law_same n K vs H Q E) : vs.length = ["found", "due"].length := by
  obtain ⟨F, v, w, d, rfl, _⟩ := h
  rfl
abbrev N_law_same : List Str := ["found", "due", "x", "y"]
def t_law_same (K : PySem.W.Frag) (rc : Sp) : TS :=
  (tSeq (tIfS (tTru K (tIsT K (tVar 1) ["list", "tuple"]))
   (tSeq (tIfS (tOr (tTest (tOp (rNeD K) (tIs K (tVar 0) "list") (tIs K (tVar 1) "list"))) (tTest (tOp (rNeD K) (tIs K (tVar 0) "tuple") (tIs K (tVar 1) "tuple"))))
     (tRet (tC (.bl false)))
     tNext)
    (tRet (tAndT K (tOp (rEqD K) (tCB (rLen K) (tCons (tVar 0) tNil)) (tCB (rLen K) (tCons (tVar 1) tNil))) (tCB (rAll K) (tCons (tLc (iZipA K (tCons (tVar 0) (tCons (tVar 1) tNil))) (gTup K 2 (gCons (gName 2) (gCons (gName 3) gNil))) tYes (tCall rc [] E0 (tCons (tVar 2) (tCons (tVar 3) tNil))) [2, 3]) tNil)))))
   tNext)
  (tSeq (tIfS (tTru K (tIs K (tVar 1) "dict"))
   tNever
   tNext)
  (tSeq (tIfS (tTru K (tIs K (tVar 1) "int"))
   (tRet (tAndT K (tIs K (tVar 0) "int") (tAndT K (tOp (rEqD K) (tIs K (tVar 0) "bool") (tIs K (tVar 1) "bool")) (tOp (rEqD K) (tVar 0) (tVar 1)))))
   tNext)
  (tSeq (tIfS (tTest (tOp rIsN (tVar 1) (tC (.non))))
   (tRet (tOp rIsN (tVar 0) (tC (.non))))
   tNext)
  (tSeq (tIfS (tTru K (tIs K (tVar 1) "str"))
   (tRet (tAndT K (tIs K (tVar 0) "str") (tOp (rEqD K) (tVar 0) (tVar 1))))
   tNext)
  tNever)))))
theorem ev_samen {n : Nat} {E : XK} (ha : EvD K M ta σ F H d) (hb : EvD K M tb σ F H d) (h : Pl n d) : EvD K M (tCall (spn_law_same n K) [] E (tCons ta (tCons tb tNil))) σ F H (.bool true) := fun F1 H1 s Q q =>
  ha F1 H1 s _ fun F2 H2 v s2 rv => hb F2 H2 (s.trans s2.up) _ fun F3 H3 w s3 rw => ⟨F3, v, w, d, rfl, s3.fh, rv.mono s3.ff, rw, h, fun F' H' s4 => q F' H' _ ((s2.trans s3).trans s4) (.bl _)⟩
theorem ev_same {E : XK} (ha : EvD K M ta σ F H d) (hb : EvD K M tb σ F H d) (h : Pl 8 d) : EvD K M (tCall (sp_law_same K) [] E (tCons ta (tCons tb tNil))) σ F H (.bool true) := ev_samen ha hb h
theorem all_true (n : Nat) : ((List.range n).filter fun _ => true).map (fun _ => PyData.bool true) = (List.replicate n true).map PyData.bool := by
  rw [filter_yes, List.map_const', List.map_replicate, List.length_range]
theorem kB (t n : String) (b : Bool) (h : kitB t n = some b) : kitB t n = some b := h
theorem rd_law_same (n : Nat) {vs : List V} {Q : VK} {E : XK} (h : spn_law_same n K vs H Q E) : t_law_same K (rc_law_same n K) { nx := fun _ H' => Q .non H', rt := Q } (L2.start N_law_same vs) H := by
  obtain ⟨F, v, w, d, rfl, e, hv, hw, hp, k⟩ := h
  cases hp with
  | non =>
    refine q_when (K := K) (M := []) (b := false) e (xTru (xIsT' "NoneType" (d := .none) (by walk_at "ev") rfl (by decide +kernel) (by decide +kernel) (by decide)) rfl) (fun hb => absurd hb (by decide)) fun _ F1 H1 s1 => ?_
    refine q_when (K := K) (M := []) (b := false) s1.fh (xTru (xIs "NoneType" (d := .none) (by walk_at "ev") rfl (by decide +kernel)) rfl) (fun hb => absurd hb (by decide)) fun _ F2 H2 s2 => ?_
    refine q_when (K := K) (M := []) (b := false) s2.fh (xTru (xIs "NoneType" (d := .none) (by walk_at "ev") rfl (by decide +kernel)) rfl) (fun hb => absurd hb (by decide)) fun _ F3 H3 s3 => ?_
    refine q_when (K := K) (M := []) (b := true) s3.fh (et_test (EvD.is (ev_op (x := .none) (by walk_at "ev") ev_non xIsN) rfl)) (fun _ F4 H4 s4 => ?_) (fun hb => absurd hb (by decide))
    exact st_ret (K := K) (M := []) (d := .bool true) s4.fh (EvD.is (ev_op (x := .none) (by walk_at "ev") ev_non xIsN) rfl) fun F5 H5 u s5 ru => by cases ru.bl_of; exact k _ _ ((((s1.trans s2).trans s3).trans s4).trans s5)
  | @bool _ b =>
    refine q_when (K := K) (M := []) (b := false) e (xTru (xIsT' "bool" (d := .bool b) (by walk_at "ev") rfl (by decide +kernel) (by decide +kernel) (by decide)) rfl) (fun hb => absurd hb (by decide)) fun _ F1 H1 s1 => ?_
    refine q_when (K := K) (M := []) (b := false) s1.fh (xTru (xIs "bool" (d := .bool b) (by walk_at "ev") rfl (by decide +kernel)) rfl) (fun hb => absurd hb (by decide)) fun _ F2 H2 s2 => ?_
    refine q_when (K := K) (M := []) (b := true) s2.fh (xTru (xIs "bool" (d := .bool b) (by walk_at "ev") rfl (by decide +kernel)) rfl) (fun _ F3 H3 s3 => ?_) (fun hb => absurd hb (by decide))
    exact st_ret (K := K) (M := []) (d := .bool (true && (decide (true = true) && decide (b = b)))) s3.fh (ev_andB (xIs "bool" (d := .bool b) (by walk_at "ev") rfl (by decide +kernel)) fun _ => ev_andB (ev_op (xIs "bool" (d := .bool b) (by walk_at "ev") rfl (by decide +kernel)) (xIs "bool" (d := .bool b) (by walk_at "ev") rfl (by decide +kernel)) xEqB) fun _ => ev_op (x := .bool b) (by walk_at "ev") (y := .bool b) (by walk_at "ev") xEqB) fun F5 H5 u s5 ru => by rw [decide_eq_true rfl, decide_eq_true rfl] at ru; cases ru.bl_of; exact k _ _ (((s1.trans s2).trans s3).trans s5)
  | @int _ i =>
    refine q_when (K := K) (M := []) (b := false) e (xTru (xIsT' "int" (d := .int i) (by walk_at "ev") rfl (by decide +kernel) (by decide +kernel) (by decide)) rfl) (fun hb => absurd hb (by decide)) fun _ F1 H1 s1 => ?_
    refine q_when (K := K) (M := []) (b := false) s1.fh (xTru (xIs "int" (d := .int i) (by walk_at "ev") rfl (by decide +kernel)) rfl) (fun hb => absurd hb (by decide)) fun _ F2 H2 s2 => ?_
    refine q_when (K := K) (M := []) (b := true) s2.fh (xTru (xIs "int" (d := .int i) (by walk_at "ev") rfl (by decide +kernel)) rfl) (fun _ F3 H3 s3 => ?_) (fun hb => absurd hb (by decide))
    exact st_ret (K := K) (M := []) (d := .bool (true && (decide (false = false) && decide (i = i)))) s3.fh (ev_andB (xIs "int" (d := .int i) (by walk_at "ev") rfl (by decide +kernel)) fun _ => ev_andB (ev_op (xIs "int" (d := .int i) (by walk_at "ev") rfl (by decide +kernel)) (xIs "int" (d := .int i) (by walk_at "ev") rfl (by decide +kernel)) xEqB) fun _ => ev_op (x := .int i) (by walk_at "ev") (y := .int i) (by walk_at "ev") xEqI) fun F5 H5 u s5 ru => by rw [decide_eq_true rfl, decide_eq_true rfl] at ru; cases ru.bl_of; exact k _ _ (((s1.trans s2).trans s3).trans s5)
  | @str _ x hx =>
    have hsh : SeqAt.shaped (.str x) = true := (Pl.str (n := 0) hx).lay.shaped (by decide)
    refine q_when (K := K) (M := []) (b := false) e (xTru (xIsT' "str" (d := .str x) (by walk_at "ev") rfl (by decide +kernel) (by decide +kernel) (by decide)) rfl) (fun hb => absurd hb (by decide)) fun _ F1 H1 s1 => ?_
    refine q_when (K := K) (M := []) (b := false) s1.fh (xTru (xIs "str" (d := .str x) (by walk_at "ev") rfl (by decide +kernel)) rfl) (fun hb => absurd hb (by decide)) fun _ F2 H2 s2 => ?_
    refine q_when (K := K) (M := []) (b := false) s2.fh (xTru (xIs "str" (d := .str x) (by walk_at "ev") rfl (by decide +kernel)) rfl) (fun hb => absurd hb (by decide)) fun _ F3 H3 s3 => ?_
    refine q_when (K := K) (M := []) (b := false) s3.fh (et_test (EvD.is (ev_op (x := .str x) (by walk_at "ev") ev_non xIsN) rfl)) (fun hb => absurd hb (by decide)) fun _ F4 H4 s4 => ?_
    refine q_when (K := K) (M := []) (b := true) s4.fh (xTru (xIs "str" (d := .str x) (by walk_at "ev") rfl (by decide +kernel)) rfl) (fun _ F5 H5 s5 => ?_) (fun hb => absurd hb (by decide))
    exact st_ret (K := K) (M := []) (d := .bool (true && PyData.eqv (.str x) (.str x))) s5.fh (ev_andB (xIs "str" (d := .str x) (by walk_at "ev") rfl (by decide +kernel)) fun _ => ev_op (x := .str x) (by walk_at "ev") (y := .str x) (by walk_at "ev") (rv_eqD hsh hsh)) fun F6 H6 u s6 ru => by
      rw [SeqAt.eqv_refl _ (Pl.str (n := 0) hx).lay.1] at ru; cases ru.bl_of; exact k _ _ (((((s1.trans s2).trans s3).trans s4).trans s5).trans s6)
  | @list m ds hd hl =>
    refine q_when (K := K) (M := []) (b := true) e (xTru (xIsT' "list" (d := .list ds) (by walk_at "ev") rfl (by decide +kernel) (by decide +kernel) (by decide)) rfl) (fun _ F1 H1 s1 => ?_) (fun hb => absurd hb (by decide))
    refine q_when (K := K) (M := []) (b := !decide (true = true) || !decide (false = false)) s1.fh (et_or (et_test (ev_op (xIs "list" (d := .list ds) (by walk_at "ev") rfl (by decide +kernel)) (xIs "list" (d := .list ds) (by walk_at "ev") rfl (by decide +kernel)) xNeB)) fun _ => et_test (ev_op (xIs "list" (d := .list ds) (by walk_at "ev") rfl (by decide +kernel)) (xIs "list" (d := .list ds) (by walk_at "ev") rfl (by decide +kernel)) xNeB)) (fun hb => absurd hb (by decide)) fun _ F2 H2 s2 => ?_
    refine st_ret (K := K) (M := []) (d := .bool (decide ((ds.length : Int) = (ds.length : Int)) && (List.replicate ds.length true).all id)) s2.fh (ev_andB (ev_op (ev_cb (ea_cons (x := .list ds) (by walk_at "ev") ea_nil) xLenL) (ev_cb (ea_cons (x := .list ds) (by walk_at "ev") ea_nil) xLenL) xEqI) fun _ => ev_cb (ea_cons (EvD.is (EvN.ev (en_lc ds.length (fun i => .tuple [ds.getD i .none, ds.getD i .none]) (fun _ => .bool true) (fun _ => true) (fun i => Nm2 K 2 3 (ds.getD i .none) (ds.getD i .none)) (ew_zipL (ds := ds) (es := ds) (e := fun i => ds.getD i .none) (e' := fun i => ds.getD i .none) (by walk_at "ea") (by simp) (fun i hi => by simp [List.getD_eq_getElem?_getD, hi]) (fun i hi => by simp [List.getD_eq_getElem?_getD, hi])) hl (fun _ _ => tg_nm2) ?_ (fun _ _ _ _ _ _ _ => et_yes) ?_)) (congrArg PyData.list (all_true _))) ea_nil) rc_all) fun F5 H5 u s5 ru => by
        rw [decide_eq_true rfl, show (List.replicate ds.length true).all id = true by simp] at ru; cases ru.bl_of; exact k _ _ ((s1.trans s2).trans s5)
    · rintro i _ F1 _ ⟨a, b, _, _, rfl⟩; rfl
    · rintro i hi _ F4 H4 _ s4 ⟨a, b, ha, hb, rfl⟩
      exact ev_samen (ev_var rfl ha) (ev_var rfl hb) (hd _ (by simp [List.getD_eq_getElem?_getD, hi]))
  | @tuple m ds hd hl =>
    refine q_when (K := K) (M := []) (b := true) e (xTru (xIsT' "tuple" (d := .tuple ds) (by walk_at "ev") rfl (by decide +kernel) (by decide +kernel) (by decide)) rfl) (fun _ F1 H1 s1 => ?_) (fun hb => absurd hb (by decide))
    refine q_when (K := K) (M := []) (b := !decide (false = false) || !decide (true = true)) s1.fh (et_or (et_test (ev_op (xIs "tuple" (d := .tuple ds) (by walk_at "ev") rfl (by decide +kernel)) (xIs "tuple" (d := .tuple ds) (by walk_at "ev") rfl (by decide +kernel)) xNeB)) fun _ => et_test (ev_op (xIs "tuple" (d := .tuple ds) (by walk_at "ev") rfl (by decide +kernel)) (xIs "tuple" (d := .tuple ds) (by walk_at "ev") rfl (by decide +kernel)) xNeB)) (fun hb => absurd hb (by decide)) fun _ F2 H2 s2 => ?_
    refine st_ret (K := K) (M := []) (d := .bool (decide ((ds.length : Int) = (ds.length : Int)) && (List.replicate ds.length true).all id)) s2.fh (ev_andB (ev_op (ev_cb (ea_cons (x := .tuple ds) (by walk_at "ev") ea_nil) xLenT) (ev_cb (ea_cons (x := .tuple ds) (by walk_at "ev") ea_nil) xLenT) xEqI) fun _ => ev_cb (ea_cons (EvD.is (EvN.ev (en_lc ds.length (fun i => .tuple [ds.getD i .none, ds.getD i .none]) (fun _ => .bool true) (fun _ => true) (fun i => Nm2 K 2 3 (ds.getD i .none) (ds.getD i .none)) (ew_zipT (ds := ds) (es := ds) (e := fun i => ds.getD i .none) (e' := fun i => ds.getD i .none) (by walk_at "ea") (by simp) (fun i hi => by simp [List.getD_eq_getElem?_getD, hi]) (fun i hi => by simp [List.getD_eq_getElem?_getD, hi])) hl (fun _ _ => tg_nm2) ?_ (fun _ _ _ _ _ _ _ => et_yes) ?_)) (congrArg PyData.list (all_true _))) ea_nil) rc_all) fun F5 H5 u s5 ru => by
        rw [decide_eq_true rfl, show (List.replicate ds.length true).all id = true by simp] at ru; cases ru.bl_of; exact k _ _ ((s1.trans s2).trans s5)
    · rintro i _ F1 _ ⟨a, b, _, _, rfl⟩; rfl
    · rintro i hi _ F4 H4 _ s4 ⟨a, b, ha, hb, rfl⟩
      exact ev_samen (ev_var rfl ha) (ev_var rfl hb) (hd _ (by simp [List.getD_eq_getElem?_getD, hi]))
/-! ### _law_loose -/
mutual
/-- how many draws a thing wants to be told loosely -/
def cst : PyData → Nat
  | .list ds => mxc ds * ds.length + 1
  | .tuple ds => mxc ds * ds.length + 1
  | _ => 0
def mxc : List PyData → Nat
  | [] => 0
  | d :: ds => max (cst d) (mxc ds)
end
theorem cst_le : ∀ {ds : List PyData} {d : PyData}, d ∈ ds → cst d ≤ mxc ds
  | [], _, h => by cases h
  | e :: ds, d, h => by
    rw [mxc]
    rcases List.mem_cons.mp h with rfl | h
    · omega
    · have := cst_le h; omega
/-- the same but for lists and tuples -/
inductive Loose : PyData → PyData → Prop where
  | atom {d : PyData} (h : (∀ ds, d ≠ .list ds) ∧ (∀ ds, d ≠ .tuple ds)) : Loose d d
  | row {ds es : List PyData} {d d' : PyData} (hd : d = .list ds ∨ d = .tuple ds) (he : d' = .list es ∨ d' = .tuple es) (hl : ds.length = es.length) (h : ∀ (i : Nat) x y, ds[i]? = some x → es[i]? = some y → Loose x y) : Loose d d'
def spn_law_loose (n : Nat) (K : PySem.W.Frag) : Sp := fun vs H Q _ => ∃ (p q : Addr) (m : Nat) (F : Hp) (v : V) (d : PyData), vs = [.ref p, v] ∧ Same F H ∧ Stm F H p q m ∧ Rp K F v d ∧ Pl n d ∧ m + cst d ≤ 1000000000 ∧
  ∀ F' H' v' d', Sx [p, q] F H F' H' → Stm F' H' p q (m + cst d) → Loose d d' → Rp K F' v' d' → Q v' H'
def rc_law_loose : Nat → PySem.W.Frag → Sp
  | 0, _ => fun _ _ _ _ => False
  | n + 1, K => spn_law_loose n K
def sp_law_loose (K : PySem.W.Frag) : Sp := spn_law_loose 8 K
theorem len_law_loose {n : Nat} {vs : List V} {Q : VK} {E : XK} (h : spn_law_loose n K vs H Q E) : vs.length = ["stream", "thing"].length := by
  obtain ⟨p, q, m, F, v, d, rfl, _⟩ := h
  rfl
abbrev N_law_loose : List Str := ["stream", "thing", "found", "part", "key"]
def t_law_loose (K : PySem.W.Frag) (rc : Sp) : TS :=
  (tSeq (tIfS (tTru K (tIs K (tVar 1) "dict"))
   tNever
   tNext)
  (tSeq (tIfS (tNot (tTru K (tIsT K (tVar 1) ["list", "tuple"])))
   (tRet (tVar 1))
   tNext)
  (tSeq (tAsg (tLc (iSeq K (tVar 1)) (gName 3) tYes (tCall rc [] E0 (tCons (tVar 0) (tCons (tVar 3) tNil))) [3]) (gName 2))
  (tRet (tIf (tTest (tOp (rEqD K) (tCall (sp_law_below K) [] E0 (tCons (tVar 0) (tCons (tC (.int 2)) tNil))) (tC (.int 0)))) (tVar 2) (tCB (rTupleOf K) (tCons (tVar 2) tNil)))))))
theorem es_loosen {n i : Nat} {p q : Addr} {E : XK} (h : σ[i]? = some (some (.ref p))) (hb : EvD K [p, q] tb σ F H d) (hp : Pl n d) : EvS K p q (tCall (spn_law_loose n K) [] E (tCons (tVar i) (tCons tb tNil))) σ F H (cst d) (Loose d) := fun F1 H1 m s st hn Q k =>
  ⟨.ref p, h, hb F1 H1 s _ fun F2 H2 v s2 rv => ⟨p, q, m, F2, v, d, rfl, s2.fh, st.pure s2, rv, hp, hn, fun F' H' v' d' s3 st3 hl rv' => k F' H' v' d' (s2.up.trans s3) st3 hl rv'⟩⟩
theorem es_loose {i : Nat} {p q : Addr} {E : XK} (h : σ[i]? = some (some (.ref p))) (hb : EvD K [p, q] tb σ F H d) (hp : Pl 8 d) : EvS K p q (tCall (sp_law_loose K) [] E (tCons (tVar i) (tCons tb tNil))) σ F H (cst d) (Loose d) := es_loosen h hb hp
/-- the end of a row -/
theorem loose_row {n : Nat} {p q : Addr} {m : Nat} {v : V} {ds : List PyData} {Q : VK} (hd : d = .list ds ∨ d = .tuple ds) (hl : ds.length ≤ 1000000) (hp : ∀ e, e ∈ ds → Pl n e) (e : Same F H) (st : Stm F H p q m) (hv : Rp K F v d) (hc : m + (mxc ds * ds.length + 1) ≤ 1000000000)
    (k : ∀ F' H' v' d', Sx [p, q] F H F' H' → Stm F' H' p q (m + (mxc ds * ds.length + 1)) → Loose d d' → Rp K F' v' d' → Q v' H') :
    (tSeq (tAsg (tLc (iSeq K (tVar 1)) (gName 3) tYes (tCall (spn_law_loose n K) [] E0 (tCons (tVar 0) (tCons (tVar 3) tNil))) [3]) (gName 2))
      (tRet (tIf (tTest (tOp (rEqD K) (tCall (sp_law_below K) [] E0 (tCons (tVar 0) (tCons (tC (.int 2)) tNil))) (tC (.int 0)))) (tVar 2) (tCB (rTupleOf K) (tCons (tVar 2) tNil))))) { nx := fun _ H' => Q .non H', rt := Q } [some (.ref p), some v, none, none, none] H := by
  have hw : EvW K [p, q] (iSeq K (tVar 1)) [some (.ref p), some v, none, none, none] F H ds.length (fun i => ds.getD i .none) := by
    rcases hd with rfl | rfl
    · exact ew_seqL (ds := ds) (ev_var rfl hv) rfl fun i hi => by simp [List.getD_eq_getElem?_getD, hi]
    · exact ew_seqT (ds := ds) (ev_var rfl hv) rfl fun i hi => by simp [List.getD_eq_getElem?_getD, hi]
  refine qs_set (K := K) e st (es_lc (c := mxc ds) ds.length (fun i => ds.getD i .none) (fun i => Nm K 3 (ds.getD i .none)) (fun i => Loose (ds.getD i .none)) hw hl (fun _ _ => tg_nm) ?_ ?_) (by omega) fun F1 H1 u d1 s1 st1 ⟨es, hd1, hle, hes⟩ ru => ?_
  · rintro i _ F1 _ ⟨a, _, rfl⟩; rfl
  · rintro i hi F4 H4 _ s4 ⟨a, ha, rfl⟩
    have hm : ds.getD i .none ∈ ds := by simp [List.getD_eq_getElem?_getD, hi]
    exact (es_loosen rfl (ev_var rfl ha) (hp _ hm)).weak (cst_le hm) fun _ h => h
  · subst hd1
    have hlo : ∀ (i : Nat) x y, ds[i]? = some x → es[i]? = some y → Loose x y := fun i x y hx hy => by
      have := hes i y hy
      rwa [List.getD_eq_getElem?_getD, hx] at this
    refine ss_ret (K := K) (c := 1 + 0 + 0) (Px := fun z => z = .list es ∨ z = .tuple es) s1.fh st1 (es_if (Pb := fun _ => True) (est_test (EvS.weak (es_op (Pz := fun z => ∃ b, z = .bool b ∧ True) (es_below rfl ev_int (by decide : 1 ≤ 2) (by decide)) (es_d ev_int) ?_) (Nat.le_refl _) fun _ h => h)) (fun _ => (es_d (ev_var rfl ru)).weak (Nat.le_refl _) fun _ h => .inl h) (fun _ => (es_d (ev_cb (ea_cons (ev_var rfl ru) ea_nil) xTupL)).weak (Nat.le_refl _) fun _ h => .inr h)) (by omega) fun F2 H2 w d2 s2 st2 hd2 rw => k F2 H2 w d2 (s1.trans s2) (st2.le (by omega)) (.row hd hd2 hle.symm hlo) rw
    rintro _ _ ⟨r, _, rfl⟩ rfl
    exact ⟨_, xEqI, _, rfl, trivial⟩
theorem rd_law_loose (n : Nat) {vs : List V} {Q : VK} {E : XK} (h : spn_law_loose n K vs H Q E) : t_law_loose K (rc_law_loose n K) { nx := fun _ H' => Q .non H', rt := Q } (L2.start N_law_loose vs) H := by
  obtain ⟨p, q, m, F, v, d, rfl, e, st, hv, hp, hc, k⟩ := h
  cases hp with
  | non =>
    refine q_when (K := K) (M := []) (b := false) e (xTru (xIs "NoneType" (d := .none) (by walk_at "ev") rfl (by decide +kernel)) rfl) (fun hb => absurd hb (by decide)) fun _ F1 H1 s1 => ?_
    refine q_when (K := K) (M := []) (b := true) s1.fh (et_not (xTru (xIsT' "NoneType" (d := .none) (by walk_at "ev") rfl (by decide +kernel) (b := false) (by decide +kernel) (by decide)) rfl)) (fun _ F2 H2 s2 => ?_) (fun hb => absurd hb (by decide))
    exact st_ret (K := K) (M := []) (d := .none) s2.fh (by walk_at "ev") fun F5 H5 u s5 ru => k _ _ _ _ ((s1.trans s2).trans s5).up ((st.pure ((s1.trans s2).trans s5)).le (by omega)) (.atom ⟨(fun _ z => by cases z), (fun _ z => by cases z)⟩) ru
  | @bool _ b =>
    refine q_when (K := K) (M := []) (b := false) e (xTru (xIs "bool" (d := .bool b) (by walk_at "ev") rfl (by decide +kernel)) rfl) (fun hb => absurd hb (by decide)) fun _ F1 H1 s1 => ?_
    refine q_when (K := K) (M := []) (b := true) s1.fh (et_not (xTru (xIsT' "bool" (d := .bool b) (by walk_at "ev") rfl (by decide +kernel) (b := false) (by decide +kernel) (by decide)) rfl)) (fun _ F2 H2 s2 => ?_) (fun hb => absurd hb (by decide))
    exact st_ret (K := K) (M := []) (d := .bool b) s2.fh (by walk_at "ev") fun F5 H5 u s5 ru => k _ _ _ _ ((s1.trans s2).trans s5).up ((st.pure ((s1.trans s2).trans s5)).le (by omega)) (.atom ⟨(fun _ z => by cases z), (fun _ z => by cases z)⟩) ru
  | @int _ b =>
    refine q_when (K := K) (M := []) (b := false) e (xTru (xIs "int" (d := .int b) (by walk_at "ev") rfl (by decide +kernel)) rfl) (fun hb => absurd hb (by decide)) fun _ F1 H1 s1 => ?_
    refine q_when (K := K) (M := []) (b := true) s1.fh (et_not (xTru (xIsT' "int" (d := .int b) (by walk_at "ev") rfl (by decide +kernel) (b := false) (by decide +kernel) (by decide)) rfl)) (fun _ F2 H2 s2 => ?_) (fun hb => absurd hb (by decide))
    exact st_ret (K := K) (M := []) (d := .int b) s2.fh (by walk_at "ev") fun F5 H5 u s5 ru => k _ _ _ _ ((s1.trans s2).trans s5).up ((st.pure ((s1.trans s2).trans s5)).le (by omega)) (.atom ⟨(fun _ z => by cases z), (fun _ z => by cases z)⟩) ru
  | @str _ b hb =>
    refine q_when (K := K) (M := []) (b := false) e (xTru (xIs "str" (d := .str b) (by walk_at "ev") rfl (by decide +kernel)) rfl) (fun hb => absurd hb (by decide)) fun _ F1 H1 s1 => ?_
    refine q_when (K := K) (M := []) (b := true) s1.fh (et_not (xTru (xIsT' "str" (d := .str b) (by walk_at "ev") rfl (by decide +kernel) (b := false) (by decide +kernel) (by decide)) rfl)) (fun _ F2 H2 s2 => ?_) (fun hb => absurd hb (by decide))
    exact st_ret (K := K) (M := []) (d := .str b) s2.fh (by walk_at "ev") fun F5 H5 u s5 ru => k _ _ _ _ ((s1.trans s2).trans s5).up ((st.pure ((s1.trans s2).trans s5)).le (by omega)) (.atom ⟨(fun _ z => by cases z), (fun _ z => by cases z)⟩) ru
  | @list n ds hd hl =>
    rw [cst] at hc
    refine q_when (K := K) (M := []) (b := false) e (xTru (xIs "list" (d := .list ds) (by walk_at "ev") rfl (by decide +kernel)) rfl) (fun hb => absurd hb (by decide)) fun _ F1 H1 s1 => ?_
    refine q_when (K := K) (M := []) (b := false) s1.fh (et_not (xTru (xIsT' "list" (d := .list ds) (by walk_at "ev") rfl (by decide +kernel) (b := true) (by decide +kernel) (by decide)) rfl)) (fun hb => absurd hb (by decide)) fun _ F2 H2 s2 => ?_
    refine loose_row (d := .list ds) (.inl rfl) hl hd s2.fh (st.pure (s1.trans s2)) ((hv.mono s1.ff).mono s2.ff) hc fun F' H' v' d' s3 st3 hlo rv => k F' H' v' d' ((s1.trans s2).up.trans s3) (by rw [cst]; exact st3) hlo rv
  | @tuple n ds hd hl =>
    rw [cst] at hc
    refine q_when (K := K) (M := []) (b := false) e (xTru (xIs "tuple" (d := .tuple ds) (by walk_at "ev") rfl (by decide +kernel)) rfl) (fun hb => absurd hb (by decide)) fun _ F1 H1 s1 => ?_
    refine q_when (K := K) (M := []) (b := false) s1.fh (et_not (xTru (xIsT' "tuple" (d := .tuple ds) (by walk_at "ev") rfl (by decide +kernel) (b := true) (by decide +kernel) (by decide)) rfl)) (fun hb => absurd hb (by decide)) fun _ F2 H2 s2 => ?_
    refine loose_row (d := .tuple ds) (.inr rfl) hl hd s2.fh (st.pure (s1.trans s2)) ((hv.mono s1.ff).mono s2.ff) hc fun F' H' v' d' s3 st3 hlo rv => k F' H' v' d' ((s1.trans s2).up.trans s3) (by rw [cst]; exact st3) hlo rv
end
end Sf

/-! enumerate(xs), enumerate(xs, k) of a list or a tuple -/
namespace Sf
open PySem PySem.Spec PyProof.Rows L2
/-- the items with their numbers from c on, in new pairs; Sq tells the items -/
def IteQ (Sq : Hp → List V → Prop) (c : Int) : It :=
  ⟨fun i H => ∃ (xs : List V) (x : V), Sq H xs ∧ xs[i]? = some x, fun i H v H' => ∃ T x, v = .ref T ∧ H T = none ∧ H' = upd H T (.tup [.int (c + (i : Nat)), x]) ∧ ∀ xs, Sq H xs → xs[i]? = some x, fun i H => ∃ xs : List V, Sq H xs ∧ xs.length ≤ i⟩
/-- what the sequence's iterator gives -/
structure SrcQ (w : World) (P : Program) (K : PySem.W.Frag) (Sq : Hp → List V → Prop) (it : Addr) (tn : Nat → Heap → Prop) : Prop where
  one : ∀ {X : Cx} {pins : List (Addr × Obj)} {σ : L2.St} {H : Hp} {s : Shared} {xs ys : List V}, X.K = K → Inv X pins σ H s → Sq H xs → Sq H ys → xs = ys
  live : ∀ i h, tn i h → ∃ o, h.get? it = some o ∧ ∀ v, o.data ≠ .cell v
  keep : ∀ i h h', tn i h → (∀ o, h.get? it = some o → h'.get? it = some o) → tn i h'
  src : ∀ {X : Cx} {pins : List (Addr × Obj)} {σ : L2.St} {H : Hp} {s : Shared} {xs : List V} {A : Around}, X.K = K → Inv X pins σ H s → Sq H xs → A.handled = none → ∃ (a : Addr) (o : Obj) (its : List Value), Vals xs its ∧ s.heap.get? a = some o ∧ (∀ vs, o.data ≠ .fields vs) ∧
    ∃ St : Nat → Heap → Prop, (∀ i h, St i h → tn i h) ∧ (∀ i, tn i s.heap → St i s.heap) ∧ Draws P w A it [it, a] its.length (fun i v => its[i]? = some v) St ∧
      ∀ i, its.length ≤ i → Draws P w A it [it, a] i (fun i v => its[i]? = some v) (fun j h => j = i ∧ St i h)
theorem turn_enumQ {P : Program} {w : World} {K : PySem.W.Frag} {elts : List Expr} {kk : Nat} {tpos : Pos} {Sq : Hp → List V → Prop} {it : Addr} {tn : Nat → Heap → Prop} (S : SrcQ w P K Sq it tn) (c : Int) (e : Addr) :
    Turn P w K (.Tuple elts kk tpos) (IteQ Sq c) [e, it] e (fun i h => (∃ old, IsEnum h e it (c + ((i : Nat) : Int)) old) ∧ tn i h ∧ e ≠ it) where
  mem := by simp
  obj := fun i h st b hb => by
    obtain ⟨⟨old, he⟩, hi, _⟩ := st
    have e' : b = e ∨ b = it := by simpa using hb
    rcases e' with z | z
    · rw [z]; exact ⟨_, he, fun v q => nomatch q⟩
    · rw [z]; exact S.live i h hi
  keep := fun i h h' st k => let ⟨⟨old, he⟩, hi, hne⟩ := st; ⟨⟨old, k e (by simp) _ he⟩, S.keep i h h' hi fun o q => k it (by simp) o q, hne⟩
  item := by
    intro X hP hw hK hc i pins s σ H E I hf st hg
    subst hP hw
    obtain ⟨⟨old, he⟩, hit, hne⟩ := st
    obtain ⟨xs, x, hq, hx⟩ := hg
    have hl0 : it ∈ [e, it] := by simp
    obtain ⟨a, oa, its, rv, ha, hnf, St, hSt, hSt2, D, _⟩ := S.src (A := X.A.in1) hK I hq (I.ok.hd hc)
    obtain ⟨u, hu, ru⟩ := rv.get hx
    have hlt : i < its.length := by
      rcases Nat.lt_or_ge i its.length with h | h
      · exact h
      · rw [List.getElem?_eq_none h] at hu; cases hu
    have hea : e ≠ a := fun z => by
      subst z
      unfold IsEnum at he
      rw [ha] at he
      cases he
      exact hnf _ rfl
    have hel : e < s.heap.objs.size := Heap.lt_size he
    have hil : it < s.heap.objs.size := by obtain ⟨_, q, _⟩ := S.live i _ hit; exact Heap.lt_size q
    refine wpAny_pyNext_enum_itemC D he (hSt2 i hit) hlt hne (by simp [hne, hea]) fun x' h' tk hx' ho hit' hT hsz hk => ?_
    have hxu : x' = u := Option.some.inj (hx'.symm.trans hu)
    subst hxu
    refine ⟨_, rfl, wpAny_letOwnedTupleGo_enum (s := { s with heap := h', toks := tk + 1 }) ho fun h'' he' sb => ?_⟩
    have hT2 : h''.get? s.heap.objs.size = some { cls := .type "tuple", data := .seq #[.int (c + (i : Nat)) tk, x'] } := (sb.2 _ (Nat.ne_of_gt hel)).trans hT
    have new : ObjOk X.prog X.w (upd H s.heap.objs.size (.tup [.int (c + (i : Nat)), x])) h'' s.heap.objs.size (.tup [.int (c + (i : Nat)), x]) :=
      ⟨by show 2 ≤ sizeLine; decide, [.int (c + (i : Nat)) tk, x'], .cons ⟨_, rfl⟩ (.cons ru .nil), ⟨_, hT2, rfl, _, rfl⟩⟩
    have I1 : Inv X pins σ (upd H s.heap.objs.size (.tup [.int (c + (i : Nat)), x])) { s with heap := h'', toks := tk + 1 } :=
      I.turnedNew (ch := [e, it]) (fun b ob hb q => (sb.2 b (fun z => hb (by simp [z]))).trans (hk b ob (fun z => hb (by simp [z])) (fun z => hb (by simp [z])) q)) hf (Nat.le_refl _) new
    refine ⟨.ref s.heap.objs.size, _, I1, rfl, ⟨_, x, rfl, I.hok.fresh (Nat.le_refl _), rfl, fun ys hy => by rw [S.one hK I hy hq]; exact hx⟩, ⟨⟨x', ?_⟩, S.keep _ _ _ (hSt _ _ hit') fun o q => (sb.2 it (Ne.symm hne)).trans q, hne⟩, fun b hb => ?_⟩
    · have e1 : c + ((i + 1 : Nat) : Int) = c + (i : Int) + 1 := by omega
      rw [e1]; exact he'
    · have hb' : b < s.heap.objs.size := by
        have e' : b = e ∨ b = it := by simpa using hb
        rcases e' with z | z
        · rw [z]; exact hel
        · rw [z]; exact hil
      rw [upd_ne (Nat.ne_of_lt hb')]
      exact (hf b hb).1
  done := by
    intro X hP hw hK hc i pins s σ H E I hf st hg
    subst hP hw
    obtain ⟨⟨old, he⟩, hit, hne⟩ := st
    obtain ⟨xs, hq, hx⟩ := hg
    obtain ⟨a, oa, its, rv, ha, hnf, St, hSt, hSt2, _, D⟩ := S.src (A := X.A.in1) hK I hq (I.ok.hd hc)
    obtain ⟨f0, f1, f2, f3, f4, f5⟩ := hf it (by simp)
    have hl := rv.length
    exact wpAny_pyNext_enum_endD (D i (by omega)) he ⟨rfl, hSt2 i hit⟩ fun h' eb => ⟨rfl, I.turned (t' := s.toks) (fun b o hb q => eb b o hb q) f0 f1 f3 f4 f5⟩
  self := fun A i s Q E st h => let ⟨⟨_, he⟩, _⟩ := st; wpAny_pyIter_enum he h
theorem srcL {w : World} {P : Program} {K : PySem.W.Frag} (a it : Addr) (hne : a ≠ it) : SrcQ w P K (fun H xs => SqL K H a xs) it (fun i h => h.IsListIter it a i) where
  one := fun hK I h h' => by subst hK; exact I.list_inj h h'
  live := fun i h st => let ⟨o, ho, _, hd⟩ := st; ⟨o, ho, fun v q => by rw [hd] at q; cases q⟩
  keep := fun i h h' st k => st.at k
  src := fun {X pins σ H s xs A} hK I h hA => by
    subst hK
    obtain ⟨its, rv, p, hz⟩ := I.list h
    obtain ⟨o, n, ho, hc, hdc, hd⟩ := id p
    refine ⟨a, o, its, rv, ho, (fun vs q => by rw [hd] at q; cases q), fun i h => h.IsListIter it a i ∧ h.IsList a its.toArray, fun i h st => st.1, fun i st => ⟨st, p.isList⟩, ?_, fun i hi => ?_⟩
    · have := Draws.list (prog := P) (w := w) hA it a hne its.toArray
      simpa using this
    · exact { live := fun j h st => let ⟨_, ⟨o, ho, _⟩, _⟩ := st; ⟨o, ho⟩
              frame := fun j h h' st k => ⟨st.1, st.2.1.at fun o q => k it (by simp) o q, by obtain ⟨_, _, o, q, r⟩ := st; exact ⟨o, k a (by simp) o q, r⟩⟩
              item := fun j s Q E hj st => by omega
              done := fun s Q E st hE => wpAny_nextOf_list_end hA st.2.1 st.2.2 (by simp; omega) hE }
theorem srcT {w : World} {P : Program} {K : PySem.W.Frag} (a it : Addr) (hne : a ≠ it) : SrcQ w P K (fun H xs => SqT K H a xs) it (fun i h => h.IsTupleIter it a i) where
  one := fun hK I h h' => by subst hK; exact I.tuple_inj h h'
  live := fun i h st => let ⟨o, ho, _, hd⟩ := st; ⟨o, ho, fun v q => by rw [hd] at q; cases q⟩
  keep := fun i h h' st k => st.at k
  src := fun {X pins σ H s xs A} hK I h hA => by
    subst hK
    obtain ⟨its, rv, p, hz⟩ := I.tuple h
    obtain ⟨o, ho, hc, n, hd⟩ := id p
    refine ⟨a, o, its, rv, ho, (fun vs q => by rw [hd] at q; cases q), fun i h => h.IsTupleIter it a i ∧ h.IsTuple a its.toArray, fun i h st => st.1, fun i st => ⟨st, p⟩, ?_, fun i hi => ?_⟩
    · have := Draws.tuple (prog := P) (w := w) hA it a hne its.toArray
      simpa using this
    · exact { live := fun j h st => let ⟨_, ⟨o, ho, _⟩, _⟩ := st; ⟨o, ho⟩
              frame := fun j h h' st k => ⟨st.1, st.2.1.at fun o q => k it (by simp) o q, by obtain ⟨_, _, o, q, r⟩ := st; exact ⟨o, k a (by simp) o q, r⟩⟩
              item := fun j s Q E hj st => by omega
              done := fun s Q E st hE => wpAny_nextOf_tuple_end hA st.2.1 st.2.2 (by simp; omega) hE }
set_option maxHeartbeats 8000000 in
theorem meets_enum1 {v : Value} {o : Obj} {H : Heap → Prop} (B : Begins v o H) :
    Meets (Builtin.«enumerate.__new__» ⟨[.type "enumerate", v], []⟩) (fun _ R s => H s.heap ∧
      R (.ok (.ret (.ref (s.heap.push o).objs.size))) { s with heap := (s.heap.push o).push { cls := .type "enumerate", data := .fields #[.none, .bool false, .ref s.heap.objs.size, rawInt 0, .none, .none] } }) :=
  .of_wp fun prog w A R s h => by
    obtain ⟨hp, g, d, tk, os⟩ := s; obtain ⟨h1, h⟩ := h
    have hsub := sub_enumerate
    have q1 : ∀ {A' : Around} {E : Value → Shared → Prop} {Q : Value → Shared → Prop}, Q (.ref hp.objs.size) ⟨hp.push o, g, d, tk, os⟩ → wpAny (model prog w) A' (pyIter v) Q E ⟨hp, g, d, tk, os⟩ :=
      fun q => B.iter prog w _ _ ⟨hp, g, d, tk, os⟩ _ h1 q
    wp_walk using q1
    refine wpAny_stack_any fun st => wpAny_pure ?_
    split
    · rename_i c _ _ _ _ _
      cases (c == Value.type "enumerate")
      · wp_walk using q1
        exact ⟨_, rfl, h⟩
      · wp_walk using q1
        exact ⟨_, rfl, h⟩
    · wp_walk using q1
      exact ⟨_, rfl, h⟩
theorem enum_begins1 {prog : Program} {w : World} {A : Around} {E : Value → Shared → Prop} {s : Shared} {v : Value} {o : Obj} {H : Heap → Prop} {Q : Value → Shared → Prop} (B : Begins v o H) (h1 : H s.heap)
    (h : ∀ h', IsEnum h' (s.heap.objs.size + 1) s.heap.objs.size 0 .none → h'.get? s.heap.objs.size = some o → h'.objs.size = s.heap.objs.size + 2 →
      (∀ b o, s.heap.get? b = some o → h'.get? b = some o) → Q (.ref (s.heap.objs.size + 1)) { s with heap := h' }) :
    wpAny (model prog w) A (call (.type "enumerate") [v]) Q E s := by
  refine callType_new F.called_enumerate (by decide) (F.typeCall_enumerate_1 _) (F.newCall_enumerate_1 _) (fun obj => F.args_object_init_2 obj _) F.entry_enumerate_new
    (meets_enum1 B) ⟨h1, ?_⟩
  have hz : (s.heap.push o).objs.size = s.heap.objs.size + 1 := Heap.size_push ..
  show _ ∧ _
  rw [hz]
  have he : IsEnum ((s.heap.push o).push { cls := .type "enumerate", data := .fields #[.none, .bool false, .ref s.heap.objs.size, rawInt 0, .none, .none] }) (s.heap.objs.size + 1) s.heap.objs.size 0 .none := by
    have := Heap.get?_push_size (s.heap.push o) (o := { cls := .type "enumerate", data := .fields #[.none, .bool false, .ref s.heap.objs.size, rawInt 0, .none, .none] }) rfl
    rw [hz] at this; exact this
  refine ⟨⟨_, he, rfl⟩, h _ he (Heap.get?_push_of_some _ (Heap.get?_push_size _ B.free)) (by rw [Heap.size_push, hz]) fun b o x => Heap.get?_push_of_some _ (Heap.get?_push_of_some _ x)⟩
/-- one of the two -/
def itU (K : PySem.W.Frag) (a : Addr) (c : Int) (H : Hp) (R : It → Hp → Prop) : Prop := (∃ xs, SqL K H a xs ∧ R (IteQ (fun H xs => SqL K H a xs) c) H) ∨ (∃ xs, SqT K H a xs ∧ R (IteQ (fun H xs => SqT K H a xs) c) H)
theorem pie_U {X : Cx} {pins : List (Addr × Obj)} {σ : L2.St} {H : Hp} {s : Shared} {R : It → Hp → Prop} {elts : List Expr} {kk : Nat} {tpos : Pos} {c : Int} {h' : Heap} {Sq : Hp → List V → Prop} {tn : Nat → Heap → Prop} (I : Inv X pins σ H s)
    (S : SrcQ X.w X.prog X.K Sq s.heap.objs.size tn) (h0 : tn 0 h') (he : IsEnum h' (s.heap.objs.size + 1) s.heap.objs.size c .none) (hk : ∀ b o, s.heap.get? b = some o → h'.get? b = some o) (q : R (IteQ Sq c) H) :
    PIE X pins σ (.Tuple elts kk tpos) R (.ref (s.heap.objs.size + 1)) { s with heap := h' } := by
  have I2 : Inv X pins σ H { s with heap := h' } := I.kept (t' := s.toks) hk
  refine ⟨s.heap.objs.size + 1, [s.heap.objs.size + 1, s.heap.objs.size], _, _, H, rfl, I2, turn_enumQ S c (s.heap.objs.size + 1), ⟨⟨.none, by simpa using he⟩, h0, Nat.succ_ne_self _⟩, fun b hb => ?_, q⟩
  have e' : b = s.heap.objs.size + 1 ∨ b = s.heap.objs.size := by simpa using hb
  have hle : s.heap.objs.size ≤ b := by
    rcases e' with z | z
    · rw [z]; exact Nat.le_add_right _ _
    · rw [z]; exact Nat.le_refl _
  exact I.fpOk hle (I.hok.fresh hle)
def iEnumU (K : PySem.W.Frag) (ta : TA) : TI := fun σ H R => ta σ H fun vs H1 => ∃ a, vs = [.ref a] ∧ itU K a 0 H1 R
def iEnumK (K : PySem.W.Frag) (ta : TA) : TI := fun σ H R => ta σ H fun vs H1 => ∃ a k, vs = [.ref a, .int k] ∧ -(2 ^ 62) ≤ k ∧ k < 2 ^ 62 ∧ itU K a k H1 R
theorem fresh_lst {K : PySem.W.Frag} {X : Cx} {pins : List (Addr × Obj)} {σ : L2.St} {H : Hp} {s : Shared} {a : Addr} {o : Obj} (e : s.heap.get? a = some o) : a ≠ s.heap.objs.size := fun z => Nat.lt_irrefl _ (z ▸ Heap.lt_size e)
theorem pi_enumU {X : Cx} {e : Expr} {ta : TA} {p pos tpos : Pos} {elts : List Expr} {kk : Nat} (hg : Gl X "enumerate") (hm : X.mg "enumerate" = none) (ha : PA X [e] ta) (hs : starEach [e] X.env = [(false, eval e X.env)] := by rfl) :
    PI X (.Tuple elts kk tpos) (.Call (.Name "enumerate" p) [e] [] pos) (iEnumU X.K ta) := by
  refine ⟨fun pins s σ H R I h => ?_⟩
  refine Call_ (ld_blt I hg hm boot_enumerate (PyProof.Rows.callWith_type1 (thn (ha.run pos pins s σ H _ I h) fun us s1 ⟨vs, H1, I1, r1, q1⟩ => ?_) hs rfl))
  obtain ⟨a, ex, q1⟩ := q1
  subst ex
  cases r1 with
  | cons r rr =>
    cases rr
    cases r
    rcases q1 with ⟨xs, hq, q⟩ | ⟨xs, hq, q⟩
    · obtain ⟨its, rv, p', hz⟩ := I1.list hq
      have hne : a ≠ s1.heap.objs.size := by obtain ⟨o, n, ho, _⟩ := id p'; exact fresh_lst (K := X.K) (X := X) (pins := pins) (σ := σ) (H := H) ho
      exact enum_begins1 (begins_list a its.toArray) p'.isList fun h' he hit hsz hk => wpAny_pyIter_enum he (pie_U I1 (srcL a _ hne) ⟨_, hit, rfl, rfl⟩ he hk q)
    · obtain ⟨its, rv, p', hz⟩ := I1.tuple hq
      have hne : a ≠ s1.heap.objs.size := by obtain ⟨o, ho, _⟩ := id p'; exact fresh_lst (K := X.K) (X := X) (pins := pins) (σ := σ) (H := H) ho
      exact enum_begins1 (begins_tuple a its.toArray) p' fun h' he hit hsz hk => wpAny_pyIter_enum he (pie_U I1 (srcT a _ hne) ⟨_, hit, rfl, rfl⟩ he hk q)
theorem pi_enumK {X : Cx} {e e2 : Expr} {ta : TA} {p pos tpos : Pos} {elts : List Expr} {kk : Nat} (hg : Gl X "enumerate") (hm : X.mg "enumerate" = none) (ha : PA X [e, e2] ta)
    (hs : starEach [e, e2] X.env = (false, eval e X.env) :: starEach [e2] X.env := by rfl) (hpl : (backTo pos (starEach [e2] X.env)).any (·.1) = false := by rfl) :
    PI X (.Tuple elts kk tpos) (.Call (.Name "enumerate" p) [e, e2] [] pos) (iEnumK X.K ta) := by
  refine ⟨fun pins s σ H R I h => ?_⟩
  refine Call_ (ld_blt I hg hm boot_enumerate (PyProof.Rows.callWith_type1 (thn (ha.run pos pins s σ H _ I h) fun us s1 ⟨vs, H1, I1, r1, q1⟩ => ?_) hs hpl))
  obtain ⟨a, k, ex, k1, k2, q1⟩ := q1
  subst ex
  cases r1 with
  | cons r rr =>
    cases rr with
    | cons r' rr =>
      cases rr
      cases r
      obtain ⟨t, rfl⟩ := r'
      rcases q1 with ⟨xs, hq, q⟩ | ⟨xs, hq, q⟩
      · obtain ⟨its, rv, p', hz⟩ := I1.list hq
        have hne : a ≠ s1.heap.objs.size := by obtain ⟨o, n, ho, _⟩ := id p'; exact fresh_lst (K := X.K) (X := X) (pins := pins) (σ := σ) (H := H) ho
        exact enum_begins (begins_list a its.toArray) p'.isList (by omega) (by omega) fun h' he hit hsz hk => wpAny_pyIter_enum he (pie_U I1 (srcL a _ hne) ⟨_, hit, rfl, rfl⟩ he hk q)
      · obtain ⟨its, rv, p', hz⟩ := I1.tuple hq
        have hne : a ≠ s1.heap.objs.size := by obtain ⟨o, ho, _⟩ := id p'; exact fresh_lst (K := X.K) (X := X) (pins := pins) (σ := σ) (H := H) ho
        exact enum_begins (begins_tuple a its.toArray) p' (by omega) (by omega) fun h' he hit hsz hk => wpAny_pyIter_enum he (pie_U I1 (srcT a _ hne) ⟨_, hit, rfl, rfl⟩ he hk q)
end Sf

/-! texts as data: order, parts, split, join, numbers; members of flat rows; walks with numbers -/
namespace Sf
open PySem L2 RZ TL
def sg (c : Nat) : Str := ⟨#[c]⟩
def rAddS : R2 := fun x y H Q => ∃ i j, x = .str i ∧ y = .str j ∧ i.length + j.length ≤ sizeLine ∧ Q (.str (i ++ j)) H
def rInSign : R2 := fun x y H Q => ∃ (c : Nat) (z : Str), x = .str ⟨#[c]⟩ ∧ y = .str z ∧ Q (.bl (decide (c ∈ z.cps.toList))) H
def rNotInSign : R2 := fun x y H Q => ∃ (c : Nat) (z : Str), x = .str ⟨#[c]⟩ ∧ y = .str z ∧ Q (.bl (!decide (c ∈ z.cps.toList))) H
def rSplit : V → List V → Hp → VK → Prop := fun x xs H Q => ∃ a b, x = .str a ∧ xs = [.str b] ∧ (b.length == 0) = false ∧ a.length + 2 ≤ sizeLine ∧ rNewStrs (Txt.split a b) H Q
def rJoin (K : PySem.W.Frag) : V → List V → Hp → VK → Prop := fun x xs H Q => ∃ a p, ∃ ys : List Str, x = .str a ∧ xs = [.ref p] ∧ (SqL K H p (ys.map V.str) ∨ SqT K H p (ys.map V.str)) ∧
      (ys.map (·.length)).sum + ys.length * a.length ≤ 16777216 ∧ Q (.str (Txt.join a ys)) H
def rIntS : List V → Hp → VK → Prop := fun xs H Q => ∃ a n, xs = [.str a] ∧ PySem.intText? a = some n ∧ a.length ≤ 640 ∧ Q (.int n) H
def rStrI : List V → Hp → VK → Prop := fun xs H Q => ∃ i, xs = [.int i] ∧ i.natAbs.log2 < 1920 ∧ Q (.str (toString i)) H
def rStrS : List V → Hp → VK → Prop := fun xs H Q => ∃ a, xs = [.str a] ∧ Q (.str a) H
def rStrU : List V → Hp → VK → Prop := fun xs H Q => rStrI xs H Q ∨ rStrS xs H Q
theorem call_strU {X : Cx} : CallR X (.type "str") rStrU := fun pins s σ H xs us Q I rs h => h.elim (fun h => call_str_int pins s σ H xs us Q I rs h) fun h => SkE.call_str_str pins s σ H xs us Q I rs h
/-! flat data -/
def vOf : PyData → V
  | .none => .non
  | .bool b => .bl b
  | .int i => .int i
  | .str x => .str x
  | _ => .non
def flatD : PyData → Bool
  | .none => true
  | .bool _ => true
  | .int _ => true
  | .str _ => true
  | _ => false
def inF (x : PyData) (ds : List PyData) : Bool := ds.any fun y => eqV (vOf y) (vOf x)
section
variable {K : PySem.W.Frag} {F H F' H' F1 H1 F2 H2 : Hp} {M : List Addr} {σ : L2.St} {te ta tb tc : TE} {tt tu : TT} {d x y z : PyData} {r r' : R2} {D : Ends} {tw tz : TS}
theorem Rp.flat {v : V} (h : Rp K F v d) (hd : flatD d = true) : v = vOf d ∧ flatV v = true := by
  cases h with
  | non => exact ⟨rfl, rfl⟩
  | bl b => exact ⟨rfl, rfl⟩
  | int i => exact ⟨rfl, rfl⟩
  | str s => exact ⟨rfl, rfl⟩
  | lst => cases hd
  | tup => cases hd
theorem RpAll.flat {vs : List V} {ds : List PyData} (h : RpAll K F vs ds) (hd : ds.all flatD = true) : vs = ds.map vOf ∧ vs.all flatV = true := by
  induction ds generalizing vs with
  | nil => cases h; exact ⟨rfl, rfl⟩
  | cons d ds ih =>
    cases h with
    | cons h1 h2 =>
      rw [List.all_cons, Bool.and_eq_true] at hd
      obtain ⟨e1, f1⟩ := Rp.flat h1 hd.1
      obtain ⟨e2, f2⟩ := ih h2 hd.2
      subst e1 e2
      exact ⟨rfl, by rw [List.all_cons, f1, f2]; rfl⟩
theorem strs_flat {ss : List Str} : (ss.map PyData.str).all flatD = true := by
  rw [List.all_map]; exact List.all_eq_true.mpr fun _ _ => rfl
theorem inF_str {a : Str} {ss : List Str} : inF (.str a) (ss.map .str) = decide (a ∈ ss) := by
  unfold inF
  rw [List.any_map]
  induction ss with
  | nil => rfl
  | cons b ss ih =>
    rw [List.any_cons, ih]
    show (b == a || decide (a ∈ ss)) = decide (a ∈ b :: ss)
    by_cases h : b = a
    · subst h; simp
    · have : (b == a) = false := by simpa using h
      rw [this, Bool.false_or]
      simp [Ne.symm h]
theorem xInF {ds : List PyData} {neg : Bool} (hx : flatD x = true) (hd : ds.all flatD = true) : RV K (rIn K neg) x (.list ds) (.bool (if neg then !inF x ds else inF x ds)) := fun F H v w e rv rw Q q => by
  obtain ⟨rfl, fv⟩ := Rp.flat rv hx
  obtain ⟨a, ws, rfl, ha, rs⟩ := rw.lst_of
  obtain ⟨rfl, fw⟩ := RpAll.flat rs hd
  refine ⟨a, _, rfl, .inl (.inl (.inl (e _ _ ha))), fv, fw, ?_⟩
  have e1 : inV (vOf x) (ds.map vOf) = inF x ds := by unfold inV inF; rw [List.any_map]; rfl
  rw [e1]
  exact q F H _ (Sx.refl e) (.bl _)
theorem xInFT {ds : List PyData} {neg : Bool} (hx : flatD x = true) (hd : ds.all flatD = true) : RV K (rIn K neg) x (.tuple ds) (.bool (if neg then !inF x ds else inF x ds)) := fun F H v w e rv rw Q q => by
  obtain ⟨rfl, fv⟩ := Rp.flat rv hx
  obtain ⟨a, ws, rfl, ha, rs⟩ := rw.tup_of
  obtain ⟨rfl, fw⟩ := RpAll.flat rs hd
  refine ⟨a, _, rfl, .inr (same_t e ha), fv, fw, ?_⟩
  have e1 : inV (vOf x) (ds.map vOf) = inF x ds := by unfold inV inF; rw [List.any_map]; rfl
  rw [e1]
  exact q F H _ (Sx.refl e) (.bl _)
/-! texts -/
theorem small_line {n : Nat} (h : n ≤ 1000000) : n ≤ sizeLine := Nat.le_trans h (by decide)
theorem xAddS {a b : Str} (h : a.length + b.length ≤ 1000000) : RV K rAddS (.str a) (.str b) (.str (a ++ b)) := fun F H v w e rv rw Q q => by
  cases rv.str_of; cases rw.str_of
  exact ⟨a, b, rfl, rfl, small_line h, q F H _ (Sx.refl e) (.str _)⟩
theorem xInSign {c : Nat} {s : Str} : RV K rInSign (.str (sg c)) (.str s) (.bool (decide (c ∈ tl s))) := fun F H v w e rv rw Q q => by
  cases rv.str_of; cases rw.str_of
  exact ⟨c, s, rfl, rfl, q F H _ (Sx.refl e) (.bl _)⟩
theorem xNotInSign {c : Nat} {s : Str} : RV K rNotInSign (.str (sg c)) (.str s) (.bool (!decide (c ∈ tl s))) := fun F H v w e rv rw Q q => by
  cases rv.str_of; cases rw.str_of
  exact ⟨c, s, rfl, rfl, q F H _ (Sx.refl e) (.bl _)⟩
theorem xIxS {s : Str} {i : Int} {c : Nat} (h : atI (tl s) i = some c) (hl : s.length ≤ 1000000) : RV K (rIx K) (.str s) (.int i) (.str (sg c)) := fun F H v w e rv rw Q q => by
  cases rv.str_of; cases rw.int_of
  exact .inr (.inr ⟨s, i, c, rfl, rfl, small_line hl, h, q F H _ (Sx.refl e) (.str _)⟩)
theorem xSlS {tl th : TO} {s : Str} {lo hi : Option Int} (h : EvD K M te σ F H (.str s)) (h1 : EvO K M tl σ F H lo) (h2 : EvO K M th σ F H hi) (hl : s.length ≤ 1000000) : EvD K M (L2.tSl rSlS te tl th) σ F H (.str (cutS s lo hi)) := fun F1 H1 s0 Q q =>
  h F1 H1 s0 _ fun F2 H2 v s2 rv => h1 F2 H2 (s0.trans s2.up) _ fun F3 H3 s3 => h2 F3 H3 ((s0.trans s2.up).trans s3.up) _ fun F4 H4 s4 => by
    cases rv.str_of
    exact ⟨s, rfl, small_line hl, q F4 H4 _ ((s2.trans s3).trans s4) (.str _)⟩
theorem xSplit {a b : Str} (ha : EvD K M ta σ F H (.str a)) (hb : EvD K M tb σ F H (.str b)) (hl : a.length ≤ 1000000) (hb0 : (b.length == 0) = false) : EvN K M (tM1 rSplit ta tb) σ F H ((Txt.split a b).map .str) := fun F1 H1 s Q q =>
  ha F1 H1 s _ fun F2 H2 v s2 rv => by
    cases rv.str_of
    refine ⟨⟨a, rfl⟩, hb F2 H2 (s.trans s2.up) _ fun F3 H3 w s3 rw => ?_⟩
    cases rw.str_of
    refine ⟨a, b, rfl, rfl, hb0, Nat.le_trans (Nat.add_le_add_right hl 2) (by decide), fun p hp => ?_⟩
    refine q F3 _ p _ ((s2.trans s3).trans (Sx.newM s3.fh _ hp)) ((s2.trans s3).same.free hp) (none_of_same s3.fh hp) upd_same ?_
    generalize Txt.split a b = ys
    induction ys with
    | nil => exact .nil
    | cons y ys ih => exact .cons (.str y) ih
theorem strs_of {vs : List V} {ss : List Str} (h : RpAll K F vs (ss.map .str)) : vs = ss.map V.str := by
  rw [(RpAll.flat h strs_flat).1, List.map_map]; rfl
theorem xJoinL {a : Str} {ss : List Str} (ha : EvD K M ta σ F H (.str a)) (hb : EvD K M tb σ F H (.list (ss.map .str))) (hl : (ss.map (·.length)).sum + ss.length * a.length ≤ 1000000) : EvD K M (tM1 (rJoin K) ta tb) σ F H (.str (Str.join a ss)) := fun F1 H1 s Q q =>
  ha F1 H1 s _ fun F2 H2 v s2 rv => by
    cases rv.str_of
    refine ⟨⟨a, rfl⟩, hb F2 H2 (s.trans s2.up) _ fun F3 H3 w s3 rw => ?_⟩
    obtain ⟨p, ws, rfl, hp, rs⟩ := rw.lst_of
    cases strs_of rs
    refine ⟨a, p, ss, rfl, rfl, .inl (.inl (.inl (s3.fh _ _ hp))), Nat.le_trans hl (by decide), ?_⟩
    rw [join_eq]
    exact q F3 H3 _ (s2.trans s3) (.str _)
theorem xIntS {a : Str} {n : Int} (h : PySem.intText? a = some n) (hl : a.length ≤ 640) : RC K rIntS [.str a] (.int n) := fun F H vs e rs Q q => by
  obtain ⟨v, rfl, h1⟩ := rs.inv1
  cases h1.str_of
  exact ⟨a, n, rfl, h, hl, q F H _ (Sx.refl e) (.int _)⟩
theorem xStrI {i : Int} (h : i.natAbs < 2 ^ 64) : RC K rStrU [.int i] (.str (Str.ofString (toString i))) := fun F H vs e rs Q q => by
  obtain ⟨v, rfl, h1⟩ := rs.inv1
  cases h1.int_of
  have hlog : i.natAbs.log2 < 1920 := by
    rcases Nat.eq_zero_or_pos i.natAbs with h0 | h0
    · rw [h0]; decide
    · exact Nat.lt_trans ((Nat.log2_lt (by omega)).mpr h) (by decide)
  exact .inl ⟨i, rfl, hlog, q F H _ (Sx.refl e) (.str _)⟩
theorem xStrS {a : Str} : RC K rStrU [.str a] (.str a) := fun F H vs e rs Q q => by
  obtain ⟨v, rfl, h1⟩ := rs.inv1
  cases h1.str_of
  exact .inr ⟨a, rfl, q F H _ (Sx.refl e) (.str _)⟩
/-! walks -/
theorem ew_str {s : Str} {n : Nat} (h : EvD K M te σ F H (.str s)) (hn : n = (tl s).length) : EvW K M (iStr te) σ F H n (fun i => .str (sg ((tl s).getD i 0))) := fun F1 H1 s0 R q => h F1 H1 s0 _ fun F2 H2 v s2 rv => by
  cases rv.str_of
  have hn' : n = s.cps.size := by rw [hn, ← Array.length_toList]
  subst hn'
  refine ⟨s, rfl, q F2 H2 _ s2 ⟨_, _, walk_str, fun _ _ _ _ => trivial, fun i H' v H'' hi y F' e1 e2 => ?_⟩⟩
  obtain ⟨rfl, c, hc, rfl⟩ := y
  refine ⟨F', Sx.refl e2, ?_⟩
  have e3 : (tl s).getD i 0 = c := by
    have : (tl s)[i]? = some c := by rw [← hc]; exact Array.getElem?_toList
    rw [List.getD_eq_getElem?_getD, this]; rfl
  show Rp K F' _ (.str (sg ((tl s).getD i 0)))
  rw [e3]
  exact .str _
theorem walk_enumQ {Sq : Hp → List V → Prop} {xs : List V} {c : Int} : Walk (IteQ Sq c) xs.length (fun H => Sq H xs) (fun i H v H' => ∃ T x, v = .ref T ∧ H T = none ∧ H' = upd H T (.tup [.int (c + (i : Nat)), x]) ∧ xs[i]? = some x) where
  goes i H hi q := ⟨xs, xs[i], q, List.getElem?_eq_getElem _⟩
  stops H q := ⟨xs, q, Nat.le_refl _⟩
  yields i H x H' hi q y := by
    obtain ⟨T, x', h1, h2, h3, h4⟩ := y
    exact ⟨T, x', h1, h2, h3, h4 _ q⟩
theorem enum_turn {F' H' H'' : Hp} {v : V} {i : Nat} {c : Int} {xs : List V} {ds : List PyData} {e : Nat → PyData} (rs : RpAll K F xs ds) (hd : ds[i]? = some (e i)) (y : ∃ T x, v = .ref T ∧ H' T = none ∧ H'' = upd H' T (.tup [.int (c + (i : Nat)), x]) ∧ xs[i]? = some x) (e1 : Same F F') (e2 : Same F' H') :
    ∃ F'', Sx [] F' H' F'' H'' ∧ Rp K F'' v (.tuple [.int (c + (i : Nat)), e i]) := by
  obtain ⟨T, x, rfl, hT, rfl, hx⟩ := y
  obtain ⟨d1, hd1, r1⟩ := rs.of_get hx
  rw [hd] at hd1
  cases hd1
  have sm := fix_same (o := HO.tup [.int (c + (i : Nat)), x]) (none_of_same e2 hT)
  exact ⟨upd F' T (.tup [.int (c + (i : Nat)), x]), Sx.new e2 _ hT, .tup (.inl (.inl upd_same)) (.cons (.int _) (.one ((r1.mono e1).mono sm)))⟩
theorem ew_enumL {ta : TA} {ds : List PyData} {n : Nat} {e : Nat → PyData} (h : EvA K M ta σ F H [.list ds]) (hn : n = ds.length) (he : ∀ i, i < n → ds[i]? = some (e i)) : EvW K M (iEnumU K ta) σ F H n (fun i => .tuple [.int (0 + (i : Nat)), e i]) := fun F1 H1 s R q => h F1 H1 s _ fun F2 H2 us s2 rs => by
  obtain ⟨_, rfl, h1⟩ := rs.inv1
  obtain ⟨a, xs, rfl, ha, ra⟩ := h1.lst_of
  have hl : n = xs.length := by rw [hn, ra.length]
  refine ⟨a, rfl, .inl ⟨xs, .inl (.inl (s2.fh _ _ ha)), q F2 H2 _ s2 ⟨_, _, hl ▸ walk_enumQ (xs := xs), fun F' H' e1 e2 => .inl (.inl (e2 _ _ (e1 _ _ ha))), fun i H' v H'' hi y F' e1 e2 => enum_turn ra (he i hi) y e1 e2⟩⟩⟩
theorem ew_enumT {ta : TA} {ds : List PyData} {n : Nat} {e : Nat → PyData} (h : EvA K M ta σ F H [.tuple ds]) (hn : n = ds.length) (he : ∀ i, i < n → ds[i]? = some (e i)) : EvW K M (iEnumU K ta) σ F H n (fun i => .tuple [.int (0 + (i : Nat)), e i]) := fun F1 H1 s R q => h F1 H1 s _ fun F2 H2 us s2 rs => by
  obtain ⟨_, rfl, h1⟩ := rs.inv1
  obtain ⟨a, xs, rfl, ha, ra⟩ := h1.tup_of
  have hl : n = xs.length := by rw [hn, ra.length]
  refine ⟨a, rfl, .inr ⟨xs, same_t s2.fh ha, q F2 H2 _ s2 ⟨_, _, hl ▸ walk_enumQ (xs := xs), fun F' H' e1 e2 => same_t e2 (same_t e1 ha), fun i H' v H'' hi y F' e1 e2 => enum_turn ra (he i hi) y e1 e2⟩⟩⟩
theorem ew_enumKL {ta : TA} {ds : List PyData} {n : Nat} {c : Int} {e : Nat → PyData} (h : EvA K M ta σ F H [.list ds, .int c]) (hc : -1000 ≤ c ∧ c ≤ 1000) (hn : n = ds.length) (he : ∀ i, i < n → ds[i]? = some (e i)) : EvW K M (iEnumK K ta) σ F H n (fun i => .tuple [.int (c + (i : Nat)), e i]) := fun F1 H1 s R q => h F1 H1 s _ fun F2 H2 us s2 rs => by
  obtain ⟨_, _, rfl, h1, h2⟩ := rs.inv2
  cases h2.int_of
  obtain ⟨a, xs, rfl, ha, ra⟩ := h1.lst_of
  have hl : n = xs.length := by rw [hn, ra.length]
  refine ⟨a, c, rfl, by omega, by omega, .inl ⟨xs, .inl (.inl (s2.fh _ _ ha)), q F2 H2 _ s2 ⟨_, _, hl ▸ walk_enumQ (xs := xs), fun F' H' e1 e2 => .inl (.inl (e2 _ _ (e1 _ _ ha))), fun i H' v H'' hi y F' e1 e2 => enum_turn ra (he i hi) y e1 e2⟩⟩⟩
/-- for, over whatever is walked -/
theorem st_forW {wi : TI} {g : TG} (n : Nat) (e : Nat → PyData) (P : Nat → L2.St → Hp → L2.St → Prop) (I : Nat → L2.St → Hp → Hp → Prop) (s0 : Same F H) (h : EvW K M wi σ F H n e) (hP : ∀ i, i < n → TgD K g (e i) (P i)) (h0 : ∀ F1 H1, Sx [] F H F1 H1 → I 0 σ F1 H1)
    (hs : ∀ F1 H1, Sx [] F H F1 H1 → ∀ i σ' F' H' F'' H'' σ'', i < n → Sx M F1 H1 F' H' → I i σ' F' H' → Sx [] F' H' F'' H'' → P i σ' F'' σ'' → tw { D with nx := fun σ2 H2 => ∃ F2, Sx M F1 H1 F2 H2 ∧ I (i + 1) σ2 F2 H2, ct := fun σ2 H2 => ∃ F2, Sx M F1 H1 F2 H2 ∧ I (i + 1) σ2 F2 H2, bk := D.nx } σ'' H'')
    (hd : ∀ σ' F' H', Sx M F H F' H' → I n σ' F' H' → D.nx σ' H') : tFor wi g tw D σ H :=
  h F H (Sx.refl s0) _ fun F1 H1 J s1 ⟨G, Y, wk, hG, hY⟩ =>
    for_it wk (fun i σ' H' => ∃ F', Sx M F1 H1 F' H' ∧ I i σ' F' H') ⟨F1, Sx.refl s1.fh, h0 F1 H1 s1⟩ (fun i σ' H' _ ⟨F', s', _⟩ => hG F' H' s'.ff s'.fh)
      (fun i x σ' H' H'' hi ⟨F', s', hI⟩ y => by
        obtain ⟨F'', s'', rv⟩ := hY i H' x H'' hi y F' s'.ff s'.fh
        exact hP i hi F'' H'' x σ' s''.fh rv _ fun σ'' hσ => hs F1 H1 s1 i σ' F' H' F'' H'' σ'' hi s' hI s'' hσ)
      fun σ' H' ⟨F', s', hI⟩ => hd σ' F' H' (s1.up.trans s') hI
theorem q_forW {tv : TS} {wi : TI} {g : TG} (n : Nat) (e : Nat → PyData) (P : Nat → L2.St → Hp → L2.St → Prop) (I : Nat → L2.St → Hp → Hp → Prop) (s0 : Same F H) (h : EvW K M wi σ F H n e) (hP : ∀ i, i < n → TgD K g (e i) (P i)) (h0 : ∀ F1 H1, Sx [] F H F1 H1 → I 0 σ F1 H1)
    (hs : ∀ F1 H1, Sx [] F H F1 H1 → ∀ i σ' F' H' F'' H'' σ'', i < n → Sx M F1 H1 F' H' → I i σ' F' H' → Sx [] F' H' F'' H'' → P i σ' F'' σ'' → tw { D with nx := fun σ2 H2 => ∃ F2, Sx M F1 H1 F2 H2 ∧ I (i + 1) σ2 F2 H2, ct := fun σ2 H2 => ∃ F2, Sx M F1 H1 F2 H2 ∧ I (i + 1) σ2 F2 H2, bk := tv D } σ'' H'')
    (hd : ∀ σ' F' H', Sx M F H F' H' → I n σ' F' H' → tv D σ' H') : tSeq (tFor wi g tw) tv D σ H := st_forW (D := { D with nx := tv D }) n e P I s0 h hP h0 hs hd
end
end Sf

/-! what the module's names hold: rows of flat things, a dict of numbers by texts -/
namespace Sf
open PySem L2 RZ TL
/-- a name that holds a datum that nothing changes -/
def tGl (K : PySem.W.Frag) (d : PyData) : TE := fun σ H Q => ∀ v, (∀ F : Hp, Rp K F v d) → Q v H
theorem pe_glD {X : Cx} {x : Str} {v : V} {u : Value} {d : PyData} {pos : PySem.Pos} (hg : Gl X x) (hm : X.mg x = some u) (r : RelV v u) (hd : ∀ F : Hp, Rp X.K F v d) (hb : (x == ("__debug__" : Str)) = false := by decide) : PE X (.Name x pos) (tGl X.K d) :=
  ⟨fun pins s σ H Q I q => (pe_glob hg hm r hb).run pins s σ H Q I (q v hd)⟩
/-- a dict of the module: numbers by texts -/
structure KdI (K : PySem.W.Frag) (w : World) (d : Addr) (es : List (Str × Int)) : Prop where
  ex : ∃ des n, KDict K w d des n ∧ Paired (fun (p : Str × Int) e => ∃ t t', e.key = .str p.1 t ∧ e.val = .int p.2 t') es des.toList
theorem find_pairs {es : List (Str × Int)} {ds : List DictEntry} (z : Str) (h : Paired (fun (p : Str × Int) e => ∃ t t', e.key = .str p.1 t ∧ e.val = .int p.2 t') es ds) :
    match es.lookup z with | none => ds.find? (·.key.isStr z) = none | some i => ∃ e t, ds.find? (·.key.isStr z) = some e ∧ e.val = .int i t := by
  induction h with
  | nil => rfl
  | @cons p e es ds h hs ih =>
    obtain ⟨t, t', hk, hv⟩ := h
    rw [List.find?_cons]
    have e1 : e.key.isStr z = (p.1 == z) := by
      rw [hk, PySem.W.isStr_of]
      rfl
    rw [e1, List.lookup]
    cases hz : p.1 == z with
    | true =>
      have hpz : p.1 = z := by simpa using hz
      have : (z == p.1) = true := by rw [hpz]; simp
      rw [this]
      exact ⟨e, t', rfl, hv⟩
    | false =>
      have : (z == p.1) = false := by
        cases h2 : z == p.1 with
        | false => rfl
        | true =>
          have : z = p.1 := by simpa using h2
          rw [this] at hz
          simp at hz
      rw [this]
      exact ih
theorem KdI.ns {K : PySem.W.Frag} {w : World} {d : Addr} {es : List (Str × Int)} (D : KdI K w d es) (z : Str) :
    match es.lookup z with | none => PySem.W.nsIn K d z = some none | some i => ∃ t, PySem.W.nsIn K d z = some (some (.int i t)) := by
  obtain ⟨des, n, D, hp⟩ := D.ex
  have h1 := find_pairs z hp
  have hr : des.toList.any (·.refKey) = false := by
    rw [List.any_eq_false]
    intro e he
    obtain ⟨x, t, hk, _⟩ := D.lit.all e he
    cases e with
    | mk key h val => cases hk; simp [DictEntry.refKey]
  revert h1
  unfold PySem.W.nsIn
  rw [D.at_]
  cases es.lookup z with
  | none =>
    intro h1
    show (match des.toList.find? (·.key.isStr z) with | some e => some (some e.val) | none => if des.toList.any (·.refKey) then none else some none) = some none
    rw [h1, hr]
    rfl
  | some i =>
    rintro ⟨e, t, h1, h2⟩
    refine ⟨t, ?_⟩
    show (match des.toList.find? (·.key.isStr z) with | some e => some (some e.val) | none => if des.toList.any (·.refKey) then none else some none) = _
    rw [h1]
    show some (some e.val) = _
    rw [h2]
theorem mem_keys {es : List (Str × Int)} {z : Str} : (es.lookup z).isSome = decide (z ∈ es.map (·.1)) := by
  induction es with
  | nil => rfl
  | cons p es ih =>
    rw [List.lookup, List.map_cons]
    cases h : z == p.1 with
    | true =>
      have : z = p.1 := by simpa using h
      simp [this]
    | false =>
      have : z ≠ p.1 := fun q => by rw [q] at h; simp at h
      rw [ih]
      simp [this]
def KdV (K : PySem.W.Frag) (w : World) (v : V) (es : List (Str × Int)) : Prop := ∃ d, v = .ref d ∧ KdI K w d es
def tKd (K : PySem.W.Frag) (w : World) (es : List (Str × Int)) : TE := fun σ H Q => ∀ v, KdV K w v es → Q v H
def rInKd (K : PySem.W.Frag) (w : World) (es : List (Str × Int)) : R2 := fun x y H Q => ∃ z, x = .str z ∧ KdV K w y es ∧ Q (.bl (decide (z ∈ es.map (·.1)))) H
def rIxKd (K : PySem.W.Frag) (w : World) (es : List (Str × Int)) : R2 := fun x y H Q => ∃ z i, KdV K w x es ∧ y = .str z ∧ es.lookup z = some i ∧ Q (.int i) H
theorem pe_kd {X : Cx} {x : Str} {d : Addr} {es : List (Str × Int)} {pos : PySem.Pos} (hg : Gl X x) (hm : X.mg x = some (.ref d)) (D : KdI X.K X.w d es) (hb : (x == ("__debug__" : Str)) = false := by decide) : PE X (.Name x pos) (tKd X.K X.w es) :=
  ⟨fun pins s σ H Q I q => (pe_glob (v := .ref d) hg hm rfl hb).run pins s σ H Q I (q _ ⟨d, rfl, D⟩)⟩
theorem op_inKd {X : Cx} {es : List (Str × Int)} : OpR X (compareOp .In) (rInKd X.K X.w es) := fun pins s σ H x y v u Q I rx ry h => by
  obtain ⟨z, rfl, ⟨d, rfl, D⟩, q⟩ := h
  obtain ⟨des, n, D0, hp⟩ := id D.ex
  have hn := D.ns z
  rw [← mem_keys] at q
  revert q
  revert hn
  cases es.lookup z with
  | none => exact fun hn q => op_in_kd D0 pins s σ H _ _ _ _ Q I rx ry ⟨z, none, rfl, rfl, hn, q⟩
  | some i => exact fun ⟨t, hn⟩ q => op_in_kd D0 pins s σ H _ _ _ _ Q I rx ry ⟨z, some _, rfl, rfl, hn, q⟩
theorem ix_kd {X : Cx} {es : List (Str × Int)} : IxR X (rIxKd X.K X.w es) := fun value slice pins s σ H x y v u Q I rx ry h hs => by
  obtain ⟨z, i, ⟨d, rfl, D⟩, rfl, hl, q⟩ := h
  obtain ⟨des, n, D0, hp⟩ := id D.ex
  have hn := D.ns z
  rw [hl] at hn
  obtain ⟨t, hn⟩ := hn
  exact ix_kdict value slice pins s σ H _ _ _ _ Q I rx ry ⟨d, z, .int i, rfl, rfl, ⟨des, n, _, D0.at_, D0.lit, hn, ⟨t, rfl⟩⟩, q⟩ hs
section
variable {K : PySem.W.Frag} {w : World} {F H : Hp} {M : List Addr} {σ : L2.St} {te : TE} {d : PyData}
theorem ev_gl : EvD K M (tGl K d) σ F H d := fun F1 H1 s Q q v hv => q F1 H1 v (Sx.refl s.fh) (hv F1)
theorem ev_inKd {es : List (Str × Int)} {s : Str} (h : EvD K M te σ F H (.str s)) : EvD K M (tOp (rInKd K w es) te (tKd K w es)) σ F H (.bool (decide (s ∈ es.map (·.1)))) := fun F1 H1 s0 Q q =>
  h F1 H1 s0 _ fun F2 H2 v s2 rv y hy => by
    cases rv.str_of
    exact ⟨s, rfl, hy, q F2 H2 _ s2 (.bl _)⟩
theorem ev_ixKd {es : List (Str × Int)} {s : Str} {i : Int} (h : EvD K M te σ F H (.str s)) (hl : es.lookup s = some i) : EvD K M (tOp (rIxKd K w es) (tKd K w es) te) σ F H (.int i) := fun F1 H1 s0 Q q =>
  fun y hy => h F1 H1 s0 _ fun F2 H2 v s2 rv => by
    cases rv.str_of
    exact ⟨s, i, hy, rfl, hl, q F2 H2 _ s2 (.int _)⟩
/-- a tuple of the module: flat items -/
theorem rp_ktup {a : Addr} {o : Obj} {its : Array Value} {n : Nat} {ds : List PyData} (hk : K.lookup a = some o) (hc : o.cls = .type "tuple") (hd : o.data = .seq its n) (hz : its.size ≤ sizeLine) (hv : Vals (ds.map vOf) its.toList) (hf : ds.all flatD = true) : ∀ F : Hp, Rp K F (.ref a) (.tuple ds) := fun F => by
  refine .tup (.inr ⟨o, its, n, hk, hc, hd, hz, hv⟩) ?_
  clear hv
  induction ds with
  | nil => exact .nil
  | cons d ds ih =>
    rw [List.all_cons, Bool.and_eq_true] at hf
    refine .cons ?_ (ih hf.2)
    cases d with
    | none => exact .non
    | bool b => exact .bl b
    | int i => exact .int i
    | str s => exact .str s
    | _ => exact absurd hf.1 (by simp [flatD])
end
end Sf

/-! names, octets: what the program's and the law's defs tell of texts -/
namespace Sf
open PySem L2 RZ TL
/-! evaluation, construct by construct -/
local macro_rules | `(tactic| walk_at "rp") => `(tactic| first | assumption | exact .int _ | exact .bl _ | exact .str _ | exact .non | exact Rp.mono (Sx.ff (by assumption)) (by walk_at "rp"))
local macro_rules | `(tactic| walk_at "sc") => `(tactic| first | rfl | assumption | omega | decide | (simp; done) | (simp; omega))
local macro_rules | `(tactic| walk_at "ix") => `(tactic| first | rfl | assumption)
local macro_rules | `(tactic| walk_at "rv") => `(tactic| first
  | exact xAddI | exact xSub | exact xLt | exact xLe | exact xGt | exact xGe | exact xIsN | exact xNotN | exact xEqI | exact xNeI | exact xEqB | exact xNeB | exact xEqLB | exact xEqTB | exact xNeTB
  | exact xMod (by walk_at "sc")
  | exact xDiv (by walk_at "sc")
  | exact xPow (by walk_at "sc")
  | exact xMulI (by walk_at "sc")
  | exact rv_ixt (by walk_at "ix")
  | exact rv_ixl (by walk_at "ix")
  | exact xAddL (by walk_at "sc")
  | exact xAddT (by walk_at "sc"))
local macro_rules | `(tactic| walk_at "rc") => `(tactic| first | exact xLenL | exact xLenT | exact xListL | exact xListT | exact xTupL | exact xTupT | exact xMax2 | exact xInt | exact rc_all | exact rc_any)
local macro_rules | `(tactic| walk_at "ea") => `(tactic| first | exact ea_nil | refine ea_cons (by walk_at "ev") (by walk_at "ea"))
local macro_rules | `(tactic| walk_at "eo") => `(tactic| first | exact eo_none | refine eo_some (by walk_at "ev"))
local macro_rules | `(tactic| walk_at "et") => `(tactic| first
  | ((with_reducible show EvT _ _ (tTest _) _ _ _ _); exact et_test (by walk_at "ev"))
  | ((with_reducible show EvT _ _ (tNot _) _ _ _ _); exact et_not (by walk_at "et"))
  | ((with_reducible show EvT _ _ (tAnd _ _) _ _ _ _); exact et_and (by walk_at "et") (fun hh => by walk_at "et"))
  | ((with_reducible show EvT _ _ (tOr _ _) _ _ _ _); exact et_or (by walk_at "et") (fun hh => by walk_at "et"))
  | ((with_reducible show EvT _ _ (tTru _ _) _ _ _ _); exact xTru (by walk_at "ev") (by walk_at "sc"))
  | ((with_reducible show EvT _ _ tYes _ _ _ _); exact et_yes))
local macro_rules | `(tactic| walk_at "ev") => `(tactic| first
  | ((with_reducible show EvD _ _ (tC _) _ _ _ _); first | exact ev_int | exact ev_bl | exact ev_str | exact ev_non)
  | ((with_reducible show EvD _ _ (tVar _) _ _ _ _); exact ev_var (by rfl) (by walk_at "rp"))
  | ((with_reducible show EvD _ _ (tOp _ _ _) _ _ _ _); exact ev_op (by walk_at "ev") (by walk_at "ev") (by walk_at "rv"))
  | ((with_reducible show EvD _ _ (tUn _ _) _ _ _ _); exact ev_un (by walk_at "ev") xNeg)
  | ((with_reducible show EvD _ _ (tCB _ _) _ _ _ _); exact ev_cb (by walk_at "ea") (by walk_at "rc"))
  | ((with_reducible show EvD _ _ (tTup _) _ _ _ _); exact ev_tup (by walk_at "ea") (by walk_at "sc"))
  | ((with_reducible show EvD _ _ (tLst _) _ _ _ _); exact ev_lst (by walk_at "ea") (by walk_at "sc"))
  | ((with_reducible show EvD _ _ (tSl _ _ _ _) _ _ _ _); first | exact xSlL (by walk_at "ev") (by walk_at "eo") (by walk_at "eo") | exact xSlT (by walk_at "ev") (by walk_at "eo") (by walk_at "eo"))
  | ((with_reducible show EvD _ _ (tNotT _ _) _ _ _ _); exact ev_notT (by walk_at "ev") (by walk_at "sc"))
  | ((with_reducible show EvD _ _ (tAndT _ _ _) _ _ _ _); exact ev_andB (by walk_at "ev") (fun hh => by walk_at "ev"))
  | ((with_reducible show EvD _ _ (tOrT _ _ _) _ _ _ _); exact ev_orB (by walk_at "ev") (fun hh => by walk_at "ev")))

def lets : Str := "abcdefghijklmnopqrstuvwxyz"
def figs : Str := "0123456789"
def keyWords : List Str := ["signs", "kind", "filter", "from", "to", "height", "start", "at", "read", "when", "nought", "above", "up", "down", "write", "same", "go", "end", "pipe", "then"]
def sgs (s : Str) (p : Nat → Bool) : List Nat := (tl s).filter p
def isNm (s : Str) : Bool := (decide (1 ≤ s.length) && decide (s.length ≤ 8)) && (!decide (s ∈ keyWords) && (decide ((tl s).getD 0 0 ∈ tl lets) && (tl s).all fun c => decide (c ∈ tl (lets ++ figs))))
def nmD : PyData → Bool
  | .str s => isNm s
  | _ => false
/-- what a lazy part of an or, of an and, hangs on -/
theorem first_sign {s : Str} (h : 1 ≤ s.length) : atI (tl s) 0 = some ((tl s).getD 0 0) := by
  have : 0 < (tl s).length := by rw [← len_tl]; exact h
  have e1 : (tl s)[0]? = some ((tl s).getD 0 0) := by
    rw [List.getD_eq_getElem?_getD, List.getElem?_eq_getElem this]; rfl
  exact atI_nat (j := 0) e1
section
variable {K : PySem.W.Frag} {F H F' H' F1 H1 F2 H2 : Hp} {M : List Addr} {σ : L2.St} {te ta tb tc : TE} {tt tu : TT} {d x y z : PyData} {r r' : R2} {D : Ends} {tw tz : TS}
/-- [sign for sign in s if p sign] -/
theorem en_signs {s : Str} {j : Nat} {p : Nat → Bool} (h : EvD K M te σ F H (.str s)) (hl : s.length ≤ 1000000) (hw : ∀ v, wipe ((wipe σ [j]).set j (some v)) [j] = wipe σ [j])
    (hj : ∀ v : V, ((wipe σ [j]).set j (some v))[j]? = some (some v))
    (ht : ∀ c F1 H1 v, Rp K F1 v (.str (sg c)) → Sx M F H F1 H1 → EvT K M tt ((wipe σ [j]).set j (some v)) F1 H1 (p c)) :
    EvN K M (tLc (iStr te) (gName j) tt (tVar j) [j]) σ F H ((sgs s p).map fun c => .str (sg c)) := by
  have hn := en_lc (K := K) (M := M) (te := tVar j) (tt := tt) (vs := [j]) (tl s).length (fun i => .str (sg ((tl s).getD i 0))) (fun i => .str (sg ((tl s).getD i 0))) (fun i => p ((tl s).getD i 0)) (fun i => Nm K j (.str (sg ((tl s).getD i 0)))) (ew_str h rfl) (by rw [← len_tl]; exact hl) (fun _ _ => tg_nm)
    (fun i _ F1 σ' ⟨v, _, hσ⟩ => by subst hσ; exact hw v) (fun i _ F1 H1 σ' s' ⟨v, rv, hσ⟩ => by subst hσ; exact ht _ F1 H1 v rv s') (fun i _ _ F1 H1 σ' s' ⟨v, rv, hσ⟩ => by subst hσ; exact ev_var (hj v) rv)
  have e : ((List.range (tl s).length).filter fun i => p ((tl s).getD i 0)).map (fun i => PyData.str (sg ((tl s).getD i 0))) = (sgs s p).map fun c => PyData.str (sg c) := by
    unfold sgs
    have key : ∀ l : List Nat, ((List.range l.length).filter fun i => p (l.getD i 0)).map (fun i => PyData.str (sg (l.getD i 0))) = (l.filter p).map fun c => PyData.str (sg c) := by
      intro l
      have e1 : (List.range l.length).map (fun i => l.getD i 0) = l := by
        apply List.ext_getElem (by simp)
        intro i h1 h2
        simp [List.getD_eq_getElem?_getD, h2]
      conv => rhs; rw [← e1, List.filter_map, List.map_map]
      rfl
    exact key (tl s)
  rw [e] at hn
  exact hn
theorem sg_ok {s : Str} (h : PyData.strOk s = true) {c : Nat} (hc : c ∈ tl s) : PyData.strOk (sg c) = true := by
  have h1 : ∀ x ∈ s.cps.toList, x < 1114112 := by
    have := Array.all_eq_true'.mp h
    intro x hx
    have := this x (by simpa using hx)
    simpa using this
  have h2 := h1 c hc
  show (#[c]).all _ = true
  simp [h2]
theorem sh_signs {s : Str} {p : Nat → Bool} (h : PyData.strOk s = true) (hl : s.length ≤ 1000000) : SeqAt.shaped (.list ((sgs s p).map fun c => PyData.str (sg c))) = true := by
  refine (Pl.list (n := 0) (fun d hd => ?_) ?_).lay.shaped (by decide)
  · obtain ⟨c, hc, rfl⟩ := List.mem_map.mp hd
    exact .str (sg_ok h (List.mem_filter.mp hc).1)
  · rw [List.length_map]
    exact Nat.le_trans (List.length_filter_le _ _) (by rw [← len_tl]; exact hl)
theorem sgs_nil {s : Str} {p : Nat → Bool} : ((sgs s p).map fun c => PyData.str (sg c)).isEmpty = (tl s).all fun c => !p c := by
  unfold sgs
  induction tl s with
  | nil => rfl
  | cons a l ih =>
    rw [List.filter_cons, List.all_cons]
    cases hp : p a with
    | true => rfl
    | false => simpa [hp] using ih
/-! ### is_row, is_number -/
def rowD : PyData → Option (List PyData)
  | .list ds => some ds
  | .tuple ds => some ds
  | _ => none
def isRow : PyData → Bool
  | .list _ => true
  | .tuple _ => true
  | _ => false
def numD (lo hi : Int) : PyData → Bool
  | .int i => decide (lo ≤ i) && decide (i ≤ hi)
  | _ => false
/-- told of the value's type alone: {} is asked, too -/
def sp_is_row (K : PySem.W.Frag) : Sp := fun vs H Q _ => ∃ (v : V) (t : String) (F : Hp), vs = [v] ∧ Same F H ∧ (∀ H', Same H H' → TyX K H' v (.type t)) ∧ ["list", "tuple"].all (kitOk t) = true ∧ ∀ F' H', Sx [] F H F' H' → Q (.bl (["list", "tuple"].any (kitA t))) H'
theorem len_is_row {vs : List V} {Q : VK} {E : XK} (h : sp_is_row K vs H Q E) : vs.length = ["thing"].length := by
  obtain ⟨v, t, F, rfl, _⟩ := h
  rfl
abbrev N_is_row : List Str := ["thing"]
def t_is_row (K : PySem.W.Frag) : TS :=
  (tRet (tIsT K (tVar 0) ["list", "tuple"]))
theorem rd_is_row {vs : List V} {Q : VK} {E : XK} (h : sp_is_row K vs H Q E) : t_is_row K { nx := fun _ H' => Q .non H', rt := Q } (L2.start N_is_row vs) H := by
  obtain ⟨v, t, F, rfl, e, ht, hk, q⟩ := h
  refine ⟨v, rfl, tysA_run _ H _ ⟨Nat.le_of_lt (small1000 (by simp)), fun p hp => ⟨v, p, _, _, _, _, rfl, upd_same, clsAll _, ht _ (fun b u z => (Sx.new (M := []) e _ hp).hh b u (by simp) z), ?_, q _ _ (Sx.new e _ hp)⟩⟩⟩
  exact kit_anyL (f := kitA t) (kit_all hk)
theorem row_kit (d : PyData) : ["list", "tuple"].all (kitOk (typeD d)) = true ∧ ["list", "tuple"].any (kitA (typeD d)) = isRow d := by
  have key : ∀ (t : String) (b : Bool), (["list", "tuple"].all (kitOk t) && (["list", "tuple"].any (kitA t) == b)) = true → ["list", "tuple"].all (kitOk t) = true ∧ ["list", "tuple"].any (kitA t) = b := fun t b h => by
    rw [Bool.and_eq_true] at h
    exact ⟨h.1, beq_iff_eq.mp h.2⟩
  cases d with
  | none => exact key "NoneType" false (by decide +kernel)
  | bool b => exact key "bool" false (by decide +kernel)
  | int b => exact key "int" false (by decide +kernel)
  | str b => exact key "str" false (by decide +kernel)
  | list b => exact key "list" true (by decide +kernel)
  | tuple b => exact key "tuple" true (by decide +kernel)
  | dict b => exact key "dict" false (by decide +kernel)
theorem ev_is_row {ta : TA} {E : XK} (h : EvA K M ta σ F H [d]) : EvD K M (tCall (sp_is_row K) [] E ta) σ F H (.bool (isRow d)) := fun F1 H1 s Q q =>
  h F1 H1 s _ fun F2 H2 vs s2 rs => by
    obtain ⟨v, rfl, h1⟩ := rs.inv1
    refine ⟨v, typeD d, F2, by rw [List.append_nil], s2.fh, fun H' e' => tyx_of (s2.fh.trans e') h1, (row_kit d).1, fun F' H' s3 => q F' H' _ (s2.trans s3) ?_⟩
    have := (row_kit d).2
    rw [this]
    exact .bl _
local macro_rules | `(tactic| walk_at "ev") => `(tactic| ((with_reducible show EvD _ _ (tCall (sp_is_row _) _ _ _) _ _ _ _); exact ev_is_row (by walk_at "ea")))
def sp_is_number (K : PySem.W.Frag) : Sp := spP K (fun i : (PyData) × (Int) × (Int) => (fun (d : PyData) (lo : Int) (hi : Int) => ([d, .int lo, .int hi] : List PyData)) i.1 i.2.1 i.2.2) (fun i => (fun (d : PyData) (lo : Int) (hi : Int) => (.bool (numD lo hi d) : PyData)) i.1 i.2.1 i.2.2) (fun i => (fun (d : PyData) (lo : Int) (hi : Int) => (True : Prop)) i.1 i.2.1 i.2.2)
theorem ev_is_number {K : PySem.W.Frag} {M : List Addr} {σ : L2.St} {F H : Hp} {ta : TA} {E : XK} {d : PyData} {lo : Int} {hi : Int} (h : EvA K M ta σ F H [d, .int lo, .int hi]) : EvD K M (tCall (sp_is_number K) [] E ta) σ F H (.bool (numD lo hi d)) := ev_call (d, lo, hi) h trivial
local macro_rules | `(tactic| walk_at "ev") => `(tactic| ((with_reducible show EvD _ _ (tCall (sp_is_number _) _ _ _) _ _ _ _); exact ev_is_number (by walk_at "ea")))
abbrev N_is_number : List Str := ["thing", "low", "high"]
def t_is_number (K : PySem.W.Frag) : TS :=
  (tRet (tAndT K (tIs K (tVar 0) "int") (tAndT K (tNotT K (tIs K (tVar 0) "bool")) (tChain rLeI rLeI (tVar 1) (tVar 0) (tVar 2)))))
theorem rd_is_number' {K : PySem.W.Frag} {F H : Hp} (d : PyData) (lo : Int) (hi : Int) {vs : List V} (e : Same F H) (rs : RpAll K F vs [d, .int lo, .int hi]) (hp : True) (D : Ends) (hn : ∀ σ H', D.nx σ H' = D.rt .non H') (q : ∀ F' H' v, Sx [] F H F' H' → Rp K F' v (.bool (numD lo hi d)) → D.rt v H') : t_is_number K D (L2.start N_is_number vs) H := by
  obtain ⟨v, v2, v3, rfl, h1, h2, h3⟩ := rs.inv3
  cases d with
  | int i =>
    refine st_ret (K := K) (M := []) (d := .bool (true && (!false && (decide (lo ≤ i) && decide (i ≤ hi))))) e ?_ fun F2 H2 u s2 ru => q _ _ _ s2 (by simpa [numD] using ru)
    refine ev_andB (xIs "int" (d := .int i) (by walk_at "ev") rfl (by decide +kernel)) fun _ => ev_andB (ev_notT (xIs "int" (d := .int i) (by walk_at "ev") rfl (by decide +kernel)) rfl) fun _ => ?_
    exact ev_chain (x := .int lo) (y := .int i) (w := .int hi) (by walk_at "ev") (by walk_at "ev") xLe (fun _ => by walk_at "ev") (fun _ => xLe)
  | bool b =>
    refine st_ret (K := K) (M := []) (d := .bool (true && (!true && true))) e ?_ fun F2 H2 u s2 ru => q _ _ _ s2 (by simpa [numD] using ru)
    exact ev_andB (xIs "bool" (d := .bool b) (by walk_at "ev") rfl (by decide +kernel)) fun _ => ev_andB (ev_notT (xIs "bool" (d := .bool b) (by walk_at "ev") rfl (by decide +kernel)) rfl) fun hh => absurd hh (by decide)
  | none => exact st_ret (K := K) (M := []) (d := .bool (false && true)) e (ev_andB (xIs "NoneType" (d := .none) (by walk_at "ev") rfl (by decide +kernel)) fun hh => absurd hh (by decide)) fun F2 H2 u s2 ru => q _ _ _ s2 ru
  | str b => exact st_ret (K := K) (M := []) (d := .bool (false && true)) e (ev_andB (xIs "str" (d := .str b) (by walk_at "ev") rfl (by decide +kernel)) fun hh => absurd hh (by decide)) fun F2 H2 u s2 ru => q _ _ _ s2 ru
  | list b => exact st_ret (K := K) (M := []) (d := .bool (false && true)) e (ev_andB (xIs "list" (d := .list b) (by walk_at "ev") rfl (by decide +kernel)) fun hh => absurd hh (by decide)) fun F2 H2 u s2 ru => q _ _ _ s2 ru
  | tuple b => exact st_ret (K := K) (M := []) (d := .bool (false && true)) e (ev_andB (xIs "tuple" (d := .tuple b) (by walk_at "ev") rfl (by decide +kernel)) fun hh => absurd hh (by decide)) fun F2 H2 u s2 ru => q _ _ _ s2 ru
  | dict b => exact st_ret (K := K) (M := []) (d := .bool (false && true)) e (ev_andB (xIs "dict" (d := .dict b) (by walk_at "ev") rfl (by decide +kernel)) fun hh => absurd hh (by decide)) fun F2 H2 u s2 ru => q _ _ _ s2 ru
/-! ### is_name -/
/-- a text that can be laid -/
def TOk (s : Str) : Prop := PyData.strOk s = true ∧ s.length ≤ 1000000
def txD : PyData → Prop
  | .str s => TOk s
  | _ => True
def sp_is_name (K : PySem.W.Frag) : Sp := spP K (fun i : (PyData) => (fun (d : PyData) => ([d] : List PyData)) i) (fun i => (fun (d : PyData) => (.bool (nmD d) : PyData)) i) (fun i => (fun (d : PyData) => (txD d : Prop)) i)
theorem ev_is_name {K : PySem.W.Frag} {M : List Addr} {σ : L2.St} {F H : Hp} {ta : TA} {E : XK} {d : PyData} (h : EvA K M ta σ F H [d]) (hp : txD d) : EvD K M (tCall (sp_is_name K) [] E ta) σ F H (.bool (nmD d)) := ev_call (d) h hp
local macro_rules | `(tactic| walk_at "ev") => `(tactic| ((with_reducible show EvD _ _ (tCall (sp_is_name _) _ _ _) _ _ _ _); exact ev_is_name (by walk_at "ea") (by walk_at "sc")))
abbrev N_is_name : List Str := ["thing", "sign"]
def t_is_name (K : PySem.W.Frag) : TS :=
  (tSeq (tIfS (tOr (tNot (tTru K (tIs K (tVar 0) "str"))) (tOr (tNot (tTest (tChain rLeI rLeI (tC (.int 1)) (tCB (rLen K) (tCons (tVar 0) tNil)) (tC (.int 8))))) (tOr (tTest (tOp (rIn K false) (tVar 0) (tGl K (.tuple [(.str "signs"), (.str "kind"), (.str "filter"), (.str "from"), (.str "to"), (.str "height"), (.str "start"), (.str "at"), (.str "read"), (.str "when"), (.str "nought"), (.str "above"), (.str "up"), (.str "down"), (.str "write"), (.str "same"), (.str "go"), (.str "end"), (.str "pipe"), (.str "then")])))) (tTest (tOp rNotInSign (tOp (rIx K) (tVar 0) (tC (.int 0))) (tC (.str "abcdefghijklmnopqrstuvwxyz")))))))
   (tRet (tC (.bl false)))
   tNext)
  (tRet (tOp (rEqD K) (tLc (iStr (tVar 0)) (gName 1) (tTest (tOp rNotInSign (tVar 1) (tOp rAddS (tC (.str "abcdefghijklmnopqrstuvwxyz")) (tC (.str "0123456789"))))) (tVar 1) [1]) (tLst tNil))))
theorem rd_is_name' {K : PySem.W.Frag} {F H : Hp} (d : PyData) {vs : List V} (e : Same F H) (rs : RpAll K F vs [d]) (hp : txD d) (D : Ends) (hn : ∀ σ H', D.nx σ H' = D.rt .non H') (q : ∀ F' H' v, Sx [] F H F' H' → Rp K F' v (.bool (nmD d)) → D.rt v H') : t_is_name K D (L2.start N_is_name vs) H := by
  obtain ⟨v, rfl, h1⟩ := rs.inv1
  have no : ∀ (t : String), typeD d = t → kitB t "str" = some false → nmD d = false → t_is_name K D (L2.start N_is_name [v]) H := fun t ht hk hn => by
    refine q_when (K := K) (M := []) (b := !false || false) e (et_or (et_not (xTru (xIs t (d := d) (by walk_at "ev") ht hk) rfl)) fun z => absurd z (by decide)) (fun _ F1 H1 s1 => ?_) fun z => absurd z (by decide)
    exact st_ret (K := K) (M := []) (d := .bool false) s1.fh (by walk_at "ev") fun F2 H2 u s2 ru => q _ _ _ (s1.trans s2) (by rw [hn]; exact ru)
  cases d with
  | none => exact no "NoneType" rfl (by decide +kernel) rfl
  | bool b => exact no "bool" rfl (by decide +kernel) rfl
  | int b => exact no "int" rfl (by decide +kernel) rfl
  | list b => exact no "list" rfl (by decide +kernel) rfl
  | tuple b => exact no "tuple" rfl (by decide +kernel) rfl
  | dict b => exact no "dict" rfl (by decide +kernel) rfl
  | str s =>
    obtain ⟨hs, hl⟩ : TOk s := hp
    have hor : (!true || (!(decide ((1 : Int) ≤ (s.length : Int)) && decide ((s.length : Int) ≤ 8)) || (decide (s ∈ keyWords) || !decide ((tl s).getD 0 0 ∈ tl lets)))) = !((decide (1 ≤ s.length) && decide (s.length ≤ 8)) && (!decide (s ∈ keyWords) && decide ((tl s).getD 0 0 ∈ tl lets))) := by
      have e1 : decide ((1 : Int) ≤ (s.length : Int)) = decide (1 ≤ s.length) := decide_eq_decide.mpr (by omega)
      have e2 : decide ((s.length : Int) ≤ 8) = decide (s.length ≤ 8) := decide_eq_decide.mpr (by omega)
      rw [e1, e2]
      cases decide (1 ≤ s.length) <;> cases decide (s.length ≤ 8) <;> cases decide (s ∈ keyWords) <;> cases decide ((tl s).getD 0 0 ∈ tl lets) <;> rfl
    refine q_when (K := K) (M := []) (b := !((decide (1 ≤ s.length) && decide (s.length ≤ 8)) && (!decide (s ∈ keyWords) && decide ((tl s).getD 0 0 ∈ tl lets)))) e (EvT.is (et_or (et_not (xTru (xIs "str" (d := .str s) (by walk_at "ev") rfl (by decide +kernel)) rfl)) fun _ =>
      et_or (et_not (et_test (ev_chain (x := .int 1) (y := .int (s.length : Int)) (w := .int 8) ev_int (ev_cb (ea_cons (ev_var rfl h1) ea_nil) (xLenS hl)) xLe (fun _ => ev_int) fun _ => xLe))) fun hlen =>
      et_or (et_test (EvD.is (ev_op (ev_var rfl h1) ev_gl (xInFT (neg := false) (ds := keyWords.map .str) rfl strs_flat)) (congrArg PyData.bool inF_str))) fun _ =>
      et_test (ev_op (ev_op (ev_var rfl h1) ev_int (xIxS (first_sign (by simp at hlen; omega)) hl)) ev_str xNotInSign)) hor) (fun hb F1 H1 s1 => ?_) fun hb F1 H1 s1 => ?_
    · refine st_ret (K := K) (M := []) (d := .bool false) s1.fh (by walk_at "ev") fun F2 H2 u s2 ru => q _ _ _ (s1.trans s2) ?_
      have : nmD (.str s) = false := by
        show isNm s = false
        unfold isNm
        rw [Bool.not_eq_true'] at hb
        revert hb
        cases decide (1 ≤ s.length) <;> cases decide (s.length ≤ 8) <;> cases decide (s ∈ keyWords) <;> cases decide ((tl s).getD 0 0 ∈ tl lets) <;> simp
      rw [this]; exact ru
    · have r1 := h1.mono s1.ff
      refine st_ret (K := K) (M := []) (d := .bool ((tl s).all fun c => !!decide (c ∈ tl (lets ++ figs)))) s1.fh (EvD.is (ev_op (EvN.ev (en_signs (p := fun c => !decide (c ∈ tl (lets ++ figs))) (ev_var rfl r1) hl (fun _ => rfl) (fun _ => rfl) fun c F3 H3 v rv s3 => et_test (ev_op (ev_var rfl rv) (ev_op ev_str ev_str (xAddS (by decide))) xNotInSign))) (ev_lst ea_nil (by decide)) (xEqNil (sh_signs hs hl))) (congrArg PyData.bool sgs_nil)) fun F2 H2 u s2 ru => q _ _ _ (s1.trans s2) ?_
      have : nmD (.str s) = (tl s).all fun c => !!decide (c ∈ tl (lets ++ figs)) := by
        show isNm s = _
        unfold isNm
        simp only [Bool.not_not]
        revert hb
        cases decide (1 ≤ s.length) <;> cases decide (s.length ≤ 8) <;> cases decide (s ∈ keyWords) <;> cases decide ((tl s).getD 0 0 ∈ tl lets) <;> simp
      rw [this]; exact ru
end
end Sf

/-! plain law of texts of deeds: words, lines, numbers, deeds -/
namespace Sf
open PySem L2 RZ TL
def cutL (c : Nat) : List Nat → List Nat → List (List Nat)
  | acc, [] => [acc]
  | acc, x :: r => if x = c then acc :: cutL c [] r else cutL c (acc ++ [x]) r
theorem spl_cutL (c : Nat) : ∀ l acc : List Nat, spl [c] 0 acc l = cutL c acc l
  | [], acc => spl_nil _ _ _
  | x :: r, acc => by
    rw [cutL]
    by_cases h : x = c
    · rw [if_pos h, spl_hit (by subst h; simp [pre])]
      show acc :: spl [c] 0 [] r = _
      rw [spl_cutL c r []]
    · rw [if_neg h, spl_miss (by simp [pre, h]), spl_cutL c r _]
theorem cutL_len (c : Nat) : ∀ l acc : List Nat, (cutL c acc l).length ≤ l.length + 1
  | [], acc => by simp [cutL]
  | x :: r, acc => by
    rw [cutL]
    split
    · have := cutL_len c r []; simp; omega
    · have := cutL_len c r (acc ++ [x]); simp; omega
theorem cutL_ne (c : Nat) : ∀ l acc : List Nat, cutL c acc l ≠ []
  | [], acc => by simp [cutL]
  | x :: r, acc => by
    rw [cutL]
    split
    · simp
    · exact cutL_ne c r _
theorem cutL_mem (c : Nat) : ∀ (l acc p : List Nat), p ∈ cutL c acc l → (∀ x ∈ p, x ∈ acc ∨ x ∈ l) ∧ p.length ≤ acc.length + l.length ∧ (c ∉ acc → c ∉ p)
  | [], acc, p, h => by
    rw [cutL, List.mem_singleton] at h
    subst h
    exact ⟨fun x hx => .inl hx, by simp, fun h => h⟩
  | y :: r, acc, p, h => by
    rw [cutL] at h
    split at h
    · rcases List.mem_cons.mp h with rfl | h
      · exact ⟨fun x hx => .inl hx, by omega, fun h => h⟩
      · obtain ⟨h1, h2, h3⟩ := cutL_mem c r [] p h
        exact ⟨fun x hx => by rcases h1 x hx with q | q; cases q; exact .inr (List.mem_cons_of_mem _ q), by simp at h2 ⊢; omega, fun _ => h3 (by simp)⟩
    · rename_i hne
      obtain ⟨h1, h2, h3⟩ := cutL_mem c r _ p h
      exact ⟨fun x hx => by
        rcases h1 x hx with q | q
        · rcases List.mem_append.mp q with q | q
          · exact .inl q
          · rw [List.mem_singleton.mp q]; exact .inr (List.mem_cons_self ..)
        · exact .inr (List.mem_cons_of_mem _ q), by simp at h2 ⊢; omega, fun hc => h3 (by simp [hc]; exact fun z => hne z.symm)⟩
theorem joinL_cons {S p : List Nat} {ps : List (List Nat)} (h : ps ≠ []) : joinL S (p :: ps) = p ++ (S ++ joinL S ps) := by
  cases ps with
  | nil => exact absurd rfl h
  | cons q r => rfl
theorem join_cutL (c : Nat) : ∀ l acc : List Nat, joinL [c] (cutL c acc l) = acc ++ l
  | [], acc => by simp [cutL, joinL]
  | x :: r, acc => by
    rw [cutL]
    split
    · rename_i h
      rw [joinL_cons (cutL_ne c r []), join_cutL c r [], h]
      simp
    · rw [join_cutL c r (acc ++ [x])]
      simp
def spc : Str := " "
def nln : Str := "\n"
theorem tl_spc : tl spc = [32] := rfl
theorem tl_nln : tl nln = [10] := rfl
def words (s : Str) : List Str := Txt.split s spc
def lines (s : Str) : List Str := Txt.split s nln
theorem tl_words (s : Str) : (words s).map tl = cutL 32 [] (tl s) := by
  unfold words
  rw [split_spl s spc (by decide) (kind_ok (by decide +kernel)), tl_spc, spl_cutL]
theorem tl_lines (s : Str) : (lines s).map tl = cutL 10 [] (tl s) := by
  unfold lines
  rw [split_spl s nln (by decide) (kind_ok (by decide +kernel)), tl_nln, spl_cutL]
theorem words_ne (s : Str) : words s ≠ [] := fun h => cutL_ne 32 (tl s) [] (by rw [← tl_words, h]; rfl)
theorem lines_ne (s : Str) : lines s ≠ [] := fun h => cutL_ne 10 (tl s) [] (by rw [← tl_lines, h]; rfl)
theorem words_len (s : Str) : (words s).length ≤ s.length + 1 := by
  have := cutL_len 32 (tl s) []
  rw [← tl_words, List.length_map, ← len_tl] at this
  exact this
theorem lines_len (s : Str) : (lines s).length ≤ s.length + 1 := by
  have := cutL_len 10 (tl s) []
  rw [← tl_lines, List.length_map, ← len_tl] at this
  exact this
theorem part_ok {s : Str} (h : TOk s) {p : Str} (h1 : ∀ x ∈ tl p, x ∈ tl s) (h2 : p.length ≤ s.length) : TOk p := by
  refine ⟨?_, Nat.le_trans h2 h.2⟩
  have hs := Array.all_eq_true'.mp h.1
  refine Array.all_eq_true'.mpr fun x hx => hs x ?_
  have := h1 x (by simpa using hx)
  simpa using this
theorem word_in {s p : Str} (hp : p ∈ words s) : (∀ x ∈ tl p, x ∈ tl s) ∧ p.length ≤ s.length := by
  have := cutL_mem 32 (tl s) [] (tl p) (by rw [← tl_words]; exact List.mem_map_of_mem hp)
  exact ⟨fun x hx => by rcases this.1 x hx with q | q; cases q; exact q, by rw [len_tl p, len_tl s]; simpa using this.2.1⟩
theorem line_in {s p : Str} (hp : p ∈ lines s) : (∀ x ∈ tl p, x ∈ tl s) ∧ p.length ≤ s.length := by
  have := cutL_mem 10 (tl s) [] (tl p) (by rw [← tl_lines]; exact List.mem_map_of_mem hp)
  exact ⟨fun x hx => by rcases this.1 x hx with q | q; cases q; exact q, by rw [len_tl p, len_tl s]; simpa using this.2.1⟩
theorem word_ok {s p : Str} (h : TOk s) (hp : p ∈ words s) : TOk p := part_ok h (word_in hp).1 (word_in hp).2
theorem line_ok {s p : Str} (h : TOk s) (hp : p ∈ lines s) : TOk p := part_ok h (line_in hp).1 (line_in hp).2
theorem join_words (s : Str) : Str.join spc (words s) = s := ext_tl (by rw [tl_join, tl_words, tl_spc, join_cutL]; rfl)
theorem join_lines (s : Str) : Str.join nln (lines s) = s := ext_tl (by rw [tl_join, tl_lines, tl_nln, join_cutL]; rfl)
theorem words_join {ps : List Str} (hne : ps ≠ []) (h : ∀ p ∈ ps, 32 ∉ tl p) : words (Str.join spc ps) = ps := by
  rw [← join_eq]; exact split_join (s := 32) (S := []) tl_spc (by decide +kernel) hne h
theorem lines_join {ps : List Str} (hne : ps ≠ []) (h : ∀ p ∈ ps, 10 ∉ tl p) : lines (Str.join nln ps) = ps := by
  rw [← join_eq]; exact split_join (s := 10) (S := []) tl_nln (by decide +kernel) hne h
/-! numbers -/
theorem fig_iff {c : Nat} : c ∈ tl figs ↔ 48 ≤ c ∧ c ≤ 57 := by
  have : tl figs = [48, 49, 50, 51, 52, 53, 54, 55, 56, 57] := rfl
  rw [this]
  simp
  omega
def zer : Str := "0"
def canon (s : Str) : Bool := (decide (1 ≤ s.length) && decide (s.length ≤ 3)) && (((tl s).all fun c => decide (c ∈ tl figs)) && !(decide ((tl s).getD 0 0 = 48) && !decide (s = zer)))
def valS (s : Str) : Nat := NumText.digitsVal (tl s)
def octN (s : Str) : Option Nat := if canon s && decide (valS s < 256) then some (valS s) else none
def numS (n : Nat) : Str := Str.ofString (toString ((n : Nat) : Int))
theorem canon_figs {s : Str} (h : canon s = true) : (1 ≤ s.length ∧ s.length ≤ 3) ∧ (∀ c ∈ tl s, 48 ≤ c ∧ c ≤ 57) ∧ ((tl s).getD 0 0 = 48 → s = zer) := by
  unfold canon at h
  simp only [Bool.and_eq_true, decide_eq_true_eq, List.all_eq_true, Bool.not_eq_true', Bool.and_eq_false_iff, decide_eq_false_iff_not, Bool.not_eq_false'] at h
  exact ⟨h.1, fun c hc => fig_iff.mp (h.2.1 c hc), fun q => by rcases h.2.2 with z | z; exact absurd q z; simpa using z⟩
theorem canon_int {s : Str} (h : canon s = true) : intText? s = some (valS s : Int) := by
  obtain ⟨h1, h2, _⟩ := canon_figs h
  exact intText_digits h2 (fun z => by have := len_tl s; rw [show tl s = [] from z] at this; simp at this; omega) (by omega)
theorem canon_num {s : Str} (h : canon s = true) : numS (valS s) = s := by
  obtain ⟨h1, h2, h3⟩ := canon_figs h
  apply ext_tl
  unfold numS
  rw [tl_num]
  unfold valS
  have hl := len_tl s
  have h0 : s = zer → (tl s) = [48] := fun z => by rw [z]; rfl
  revert h2 h3 h0 hl
  match hs : tl s with
  | [] => intro _ _ hl _; simp at hl; omega
  | [a] =>
    intro h2 h3 hl h0
    have := h2 a (by simp)
    rw [numL_lt (by simp [NumText.digitsVal]; omega)]
    simp [NumText.digitsVal]
    omega
  | [a, b] =>
    intro h2 h3 hl h0
    have ha := h2 a (by simp)
    have hb := h2 b (by simp)
    have hne : a ≠ 48 := fun z => by have := h0 (h3 (by simp [z])); cases this
    have hv : NumText.digitsVal [a, b] = (a - 48) * 10 + (b - 48) := by simp [NumText.digitsVal]
    rw [hv, numL_step (by omega), numL_lt (by omega)]
    simp
    omega
  | [a, b, c] =>
    intro h2 h3 hl h0
    have ha := h2 a (by simp)
    have hb := h2 b (by simp)
    have hc := h2 c (by simp)
    have hne : a ≠ 48 := fun z => by have := h0 (h3 (by simp [z])); cases this
    have hv : NumText.digitsVal [a, b, c] = ((a - 48) * 10 + (b - 48)) * 10 + (c - 48) := by simp [NumText.digitsVal]
    rw [hv, numL_step (by omega), numL_step (by omega), numL_lt (by omega)]
    simp
    omega
  | a :: b :: c :: e :: r => intro _ _ hl _; simp at hl; omega
theorem octN_some {s : Str} {n : Nat} (h : octN s = some n) : n < 256 ∧ numS n = s ∧ canon s = true ∧ valS s = n := by
  unfold octN at h
  split at h
  · rename_i hc
    simp only [Bool.and_eq_true, decide_eq_true_eq] at hc
    cases h
    exact ⟨hc.2, canon_num hc.1, hc.1, rfl⟩
  · cases h
theorem octN_num : ∀ n, n < 256 → octN (numS n) = some n := by decide +kernel
theorem numS_free {n c : Nat} (h : c < 48 ∨ 57 < c) : c ∉ tl (numS n) := by unfold numS; rw [tl_num]; exact numL_free h
/-! names -/
theorem isNm_free {s : Str} (h : isNm s = true) {c : Nat} (hc : c ∉ tl (lets ++ figs)) : c ∉ tl s := fun q => by
  unfold isNm at h
  simp only [Bool.and_eq_true, decide_eq_true_eq, List.all_eq_true] at h
  exact hc (h.2.2.2 c q)
theorem isNm_ok {s : Str} (h : isNm s = true) : TOk s := by
  unfold isNm at h
  simp only [Bool.and_eq_true, decide_eq_true_eq, List.all_eq_true] at h
  refine ⟨Array.all_eq_true'.mpr fun x hx => ?_, by omega⟩
  have h1 := h.2.2.2 x (by simpa using hx)
  have h2 : ∀ y ∈ tl (lets ++ figs), y < 1114112 := by decide +kernel
  have := h2 x h1
  simpa using this
/-! deeds -/
inductive Deed where
  | drop (n : Str)
  | chain (n : Str) (ns : List Str)
  | octs (w n : Str) (os : List Nat)
def sDrop : Str := "drop"
def sChain : Str := "chain"
def sPut : Str := "put"
def sExch : Str := "exchange"
def octAll : List Str → Option (List Nat)
  | [] => some []
  | s :: r => match octN s, octAll r with | some n, some ns => some (n :: ns) | _, _ => none
def deedOf : List Str → Option Deed
  | [w, n] => if w = sDrop ∧ isNm n = true then some (.drop n) else none
  | w :: n :: r => if isNm n = true then (if w = sChain then (if r.length ≤ 4 ∧ r.all isNm = true then some (.chain n r) else none) else if w = sPut ∨ w = sExch then (octAll r).map (.octs w n) else none) else none
  | _ => none
def deedWords : Deed → List Str
  | .drop n => [sDrop, n]
  | .chain n ns => sChain :: n :: ns
  | .octs w n os => w :: n :: os.map numS
def GoodDeed : Deed → Prop
  | .drop n => isNm n = true
  | .chain n ns => isNm n = true ∧ 1 ≤ ns.length ∧ ns.length ≤ 4 ∧ ns.all isNm = true
  | .octs w n os => (w = sPut ∨ w = sExch) ∧ isNm n = true ∧ 1 ≤ os.length ∧ os.length ≤ 20000 ∧ ∀ o ∈ os, o < 256
theorem octAll_some : ∀ {r : List Str} {os : List Nat}, octAll r = some os → os.map numS = r ∧ (∀ o ∈ os, o < 256) ∧ os.length = r.length
  | [], os, h => by cases h; exact ⟨rfl, by simp, rfl⟩
  | s :: r, os, h => by
    rw [octAll] at h
    cases h1 : octN s with
    | none => rw [h1] at h; cases h
    | some n =>
      cases h2 : octAll r with
      | none => rw [h1, h2] at h; cases h
      | some ns =>
        rw [h1, h2] at h
        cases h
        obtain ⟨a, b, c⟩ := octAll_some h2
        obtain ⟨d, e, _⟩ := octN_some h1
        exact ⟨by rw [List.map_cons, a, e], fun o ho => by rcases List.mem_cons.mp ho with rfl | ho; exact d; exact b o ho, by simp [c]⟩
theorem octAll_num : ∀ {os : List Nat}, (∀ o ∈ os, o < 256) → octAll (os.map numS) = some os
  | [], _ => rfl
  | o :: os, h => by
    rw [List.map_cons, octAll, octN_num o (h o (by simp)), octAll_num fun x hx => h x (List.mem_cons_of_mem _ hx)]
theorem deedOf_some {ws : List Str} {d : Deed} (hl : ws.length ≤ 20000) (h : deedOf ws = some d) : deedWords d = ws ∧ GoodDeed d := by
  match ws, h with
  | [w, n], h =>
    rw [deedOf] at h
    split at h
    · rename_i hc
      cases h
      exact ⟨by rw [hc.1]; rfl, hc.2⟩
    · cases h
  | w :: n :: a :: r, h =>
    rw [deedOf] at h
    split at h
    · rename_i hn
      split at h
      · rename_i hw
        split at h
        · rename_i hc
          cases h
          exact ⟨by rw [hw]; rfl, hn, by simp, hc.1, hc.2⟩
        · cases h
      · split at h
        · rename_i hw
          cases ho : octAll (a :: r) with
          | none => rw [ho] at h; cases h
          | some os =>
            rw [ho] at h
            cases h
            obtain ⟨h1, h2, h3⟩ := octAll_some ho
            exact ⟨by show _ :: _ :: _ = _; rw [h1], hw, hn, by rw [h3]; simp, by rw [h3]; simp at hl ⊢; omega, h2⟩
        · cases h
    · cases h
    · intro z; cases z
  | [w], h => cases h
  | [], h => cases h
theorem deedOf_good {d : Deed} (h : GoodDeed d) : deedOf (deedWords d) = some d := by
  cases d with
  | drop n => show (if sDrop = sDrop ∧ isNm n = true then _ else _) = _; rw [if_pos ⟨rfl, h⟩]
  | chain n ns =>
    obtain ⟨h1, h2, h3, h4⟩ := h
    cases ns with
    | nil => simp at h2
    | cons a r =>
      show (if isNm n = true then (if sChain = sChain then (if (a :: r).length ≤ 4 ∧ (a :: r).all isNm = true then _ else _) else _) else _) = _
      rw [if_pos h1, if_pos rfl, if_pos ⟨h3, h4⟩]
  | octs w n os =>
    obtain ⟨h1, h2, h3, h4, h5⟩ := h
    cases os with
    | nil => simp at h3
    | cons a r =>
      have hne : w ≠ sChain := by rcases h1 with z | z <;> rw [z] <;> decide
      show (if isNm n = true then (if w = sChain then _ else if w = sPut ∨ w = sExch then (octAll ((a :: r).map numS)).map _ else _) else _) = _
      rw [if_pos h2, if_neg hne, if_pos h1, octAll_num h5]
      rfl
theorem words_free {d : Deed} (h : GoodDeed d) {c : Nat} (hc : c = 32 ∨ c = 10) : ∀ p ∈ deedWords d, c ∉ tl p := by
  have hn : c ∉ tl (lets ++ figs) := by rcases hc with rfl | rfl <;> decide +kernel
  have hk : c ∉ tl sDrop ∧ c ∉ tl sChain ∧ c ∉ tl sPut ∧ c ∉ tl sExch := by rcases hc with rfl | rfl <;> decide +kernel
  have ho : ∀ n, c ∉ tl (numS n) := fun n => numS_free (by omega)
  cases d with
  | drop n =>
    intro p hp
    rcases List.mem_cons.mp hp with rfl | hp
    · exact hk.1
    · rw [List.mem_singleton.mp hp]; exact isNm_free h hn
  | chain n ns =>
    intro p hp
    rcases List.mem_cons.mp hp with rfl | hp
    · exact hk.2.1
    rcases List.mem_cons.mp hp with rfl | hp
    · exact isNm_free h.1 hn
    · exact isNm_free (List.all_eq_true.mp h.2.2.2 p hp) hn
  | octs w n os =>
    intro p hp
    rcases List.mem_cons.mp hp with rfl | hp
    · rcases h.1 with z | z <;> rw [z]
      · exact hk.2.2.1
      · exact hk.2.2.2
    rcases List.mem_cons.mp hp with rfl | hp
    · exact isNm_free h.2.1 hn
    · obtain ⟨o, _, rfl⟩ := List.mem_map.mp hp; exact ho o
def deedLine (d : Deed) : Str := Str.join spc (deedWords d)
theorem deedWords_ne (d : Deed) : deedWords d ≠ [] := by cases d <;> simp [deedWords]
theorem words_line {d : Deed} (h : GoodDeed d) : words (deedLine d) = deedWords d := words_join (deedWords_ne d) (words_free h (.inl rfl))
theorem joinL_free {c : Nat} {S : List Nat} (hS : c ∉ S) : ∀ {ps : List (List Nat)}, (∀ p ∈ ps, c ∉ p) → c ∉ joinL S ps
  | [], _ => by simp [joinL]
  | [p], h => h p (by simp)
  | p :: q :: r, h => by
    show c ∉ p ++ (S ++ joinL S (q :: r))
    have := joinL_free hS (ps := q :: r) fun x hx => h x (List.mem_cons_of_mem _ hx)
    simp only [List.mem_append, not_or]
    exact ⟨h p (by simp), hS, this⟩
theorem line_free {d : Deed} (h : GoodDeed d) : 10 ∉ tl (deedLine d) := by
  unfold deedLine
  rw [tl_join]
  refine joinL_free (by decide) fun p hp => ?_
  obtain ⟨s, hs, rfl⟩ := List.mem_map.mp hp
  exact words_free h (.inr rfl) s hs
/-- the text of deeds -/
def deedsText (ds : List Deed) : Str := Str.join nln (ds.map deedLine ++ [Str.empty])
theorem lines_text {ds : List Deed} (h : ∀ d ∈ ds, GoodDeed d) : lines (deedsText ds) = ds.map deedLine ++ [Str.empty] := by
  refine lines_join (by simp) fun p hp => ?_
  rcases List.mem_append.mp hp with hp | hp
  · obtain ⟨d, hd, rfl⟩ := List.mem_map.mp hp; exact line_free (h d hd)
  · rw [List.mem_singleton.mp hp]; decide
end Sf

set_option maxHeartbeats 8000000
/-! deeds by form: the program's reading of a deed, of a line -/
namespace Sf
open PySem L2 RZ TL
/-! evaluation, construct by construct -/
local macro_rules | `(tactic| walk_at "rp") => `(tactic| first | assumption | exact .int _ | exact .bl _ | exact .str _ | exact .non | exact Rp.mono (Sx.ff (by assumption)) (by walk_at "rp"))
local macro_rules | `(tactic| walk_at "sc") => `(tactic| first | rfl | assumption | omega | decide | (simp; done) | (simp; omega))
local macro_rules | `(tactic| walk_at "ix") => `(tactic| first | rfl | assumption)
local macro_rules | `(tactic| walk_at "rv") => `(tactic| first
  | exact xAddI | exact xSub | exact xLt | exact xLe | exact xGt | exact xGe | exact xIsN | exact xNotN | exact xEqI | exact xNeI | exact xEqB | exact xNeB | exact xEqLB | exact xEqTB | exact xNeTB
  | exact xMod (by walk_at "sc")
  | exact xDiv (by walk_at "sc")
  | exact xPow (by walk_at "sc")
  | exact xMulI (by walk_at "sc")
  | exact rv_ixt (by walk_at "ix")
  | exact rv_ixl (by walk_at "ix")
  | exact xAddL (by walk_at "sc")
  | exact xAddT (by walk_at "sc"))
local macro_rules | `(tactic| walk_at "rc") => `(tactic| first | exact xLenL | exact xLenT | exact xListL | exact xListT | exact xTupL | exact xTupT | exact xMax2 | exact xInt | exact rc_all | exact rc_any)
local macro_rules | `(tactic| walk_at "ea") => `(tactic| first | exact ea_nil | refine ea_cons (by walk_at "ev") (by walk_at "ea"))
local macro_rules | `(tactic| walk_at "eo") => `(tactic| first | exact eo_none | refine eo_some (by walk_at "ev"))
local macro_rules | `(tactic| walk_at "et") => `(tactic| first
  | ((with_reducible show EvT _ _ (tTest _) _ _ _ _); exact et_test (by walk_at "ev"))
  | ((with_reducible show EvT _ _ (tNot _) _ _ _ _); exact et_not (by walk_at "et"))
  | ((with_reducible show EvT _ _ (tAnd _ _) _ _ _ _); exact et_and (by walk_at "et") (fun hh => by walk_at "et"))
  | ((with_reducible show EvT _ _ (tOr _ _) _ _ _ _); exact et_or (by walk_at "et") (fun hh => by walk_at "et"))
  | ((with_reducible show EvT _ _ (tTru _ _) _ _ _ _); exact xTru (by walk_at "ev") (by walk_at "sc"))
  | ((with_reducible show EvT _ _ tYes _ _ _ _); exact et_yes))
local macro_rules | `(tactic| walk_at "ev") => `(tactic| first
  | ((with_reducible show EvD _ _ (tC _) _ _ _ _); first | exact ev_int | exact ev_bl | exact ev_str | exact ev_non)
  | ((with_reducible show EvD _ _ (tVar _) _ _ _ _); exact ev_var (by rfl) (by walk_at "rp"))
  | ((with_reducible show EvD _ _ (tOp _ _ _) _ _ _ _); exact ev_op (by walk_at "ev") (by walk_at "ev") (by walk_at "rv"))
  | ((with_reducible show EvD _ _ (tUn _ _) _ _ _ _); exact ev_un (by walk_at "ev") xNeg)
  | ((with_reducible show EvD _ _ (tCB _ _) _ _ _ _); exact ev_cb (by walk_at "ea") (by walk_at "rc"))
  | ((with_reducible show EvD _ _ (tTup _) _ _ _ _); exact ev_tup (by walk_at "ea") (by walk_at "sc"))
  | ((with_reducible show EvD _ _ (tLst _) _ _ _ _); exact ev_lst (by walk_at "ea") (by walk_at "sc"))
  | ((with_reducible show EvD _ _ (tSl _ _ _ _) _ _ _ _); first | exact xSlL (by walk_at "ev") (by walk_at "eo") (by walk_at "eo") | exact xSlT (by walk_at "ev") (by walk_at "eo") (by walk_at "eo"))
  | ((with_reducible show EvD _ _ (tNotT _ _) _ _ _ _); exact ev_notT (by walk_at "ev") (by walk_at "sc"))
  | ((with_reducible show EvD _ _ (tAndT _ _ _) _ _ _ _); exact ev_andB (by walk_at "ev") (fun hh => by walk_at "ev"))
  | ((with_reducible show EvD _ _ (tOrT _ _ _) _ _ _ _); exact ev_orB (by walk_at "ev") (fun hh => by walk_at "ev")))

local macro_rules | `(tactic| walk_at "ev") => `(tactic| ((with_reducible show EvD _ _ (tCall (sp_is_number _) _ _ _) _ _ _ _); exact ev_is_number (by walk_at "ea")))
local macro_rules | `(tactic| walk_at "ev") => `(tactic| ((with_reducible show EvD _ _ (tCall (sp_is_name _) _ _ _) _ _ _ _); exact ev_is_name (by walk_at "ea") (by walk_at "sc")))
/-- data without dicts, texts that can be laid, rows not too long -/
inductive Pt : Nat → PyData → Prop where
  | non {n : Nat} : Pt n .none
  | bool {n : Nat} {b : Bool} : Pt n (.bool b)
  | int {n : Nat} {i : Int} : Pt n (.int i)
  | str {n : Nat} {x : Str} (h : TOk x) : Pt n (.str x)
  | list {n : Nat} {ds : List PyData} (h : ∀ d, d ∈ ds → Pt n d) (hl : ds.length ≤ 1000000) : Pt (n + 1) (.list ds)
  | tuple {n : Nat} {ds : List PyData} (h : ∀ d, d ∈ ds → Pt n d) (hl : ds.length ≤ 1000000) : Pt (n + 1) (.tuple ds)
theorem Pt.pl {n : Nat} {d : PyData} (h : Pt n d) : Pl n d := by
  induction h with
  | non => exact .non
  | bool => exact .bool
  | int => exact .int
  | str h => exact .str h.1
  | list _ hl ih => exact .list ih hl
  | tuple _ hl ih => exact .tuple ih hl
theorem Pt.up {n : Nat} {d : PyData} (h : Pt n d) : Pt (n + 1) d := by
  induction h with
  | non => exact .non
  | bool => exact .bool
  | int => exact .int
  | str h => exact .str h
  | list _ hl ih => exact .list ih hl
  | tuple _ hl ih => exact .tuple ih hl
theorem Pt.row {n : Nat} {d : PyData} {ds : List PyData} (h : Pt (n + 1) d) (hd : rowD d = some ds) : (∀ x, x ∈ ds → Pt n x) ∧ ds.length ≤ 1000000 := by
  cases h with
  | list h hl => cases hd; exact ⟨h, hl⟩
  | tuple h hl => cases hd; exact ⟨h, hl⟩
  | _ => cases hd
theorem Pt.tx {n : Nat} {d : PyData} (h : Pt n d) : txD d := by cases h <;> first | trivial | assumption
theorem Pt.shaped {n : Nat} {d : PyData} (h : Pt n d) (hn : n ≤ 60) : SeqAt.shaped d = true := Lay.shaped h.pl.lay (Nat.le_trans hn (by decide))
theorem Pt.strs {n : Nat} {ss : List Str} (h : ∀ s ∈ ss, TOk s) : ∀ d, d ∈ ss.map PyData.str → Pt n d := fun d hd => by
  obtain ⟨s, hs, rfl⟩ := List.mem_map.mp hd; exact .str (h s hs)
theorem row_is {d : PyData} {ds : List PyData} (h : rowD d = some ds) : (d = .list ds ∨ d = .tuple ds) ∧ isRow d = true := by
  cases d <;> cases h <;> simp [isRow]
theorem row_no {d : PyData} (h : rowD d = none) : isRow d = false := by cases d <;> first | rfl | cases h
section
variable {K : PySem.W.Frag} {w : World} {F H F' H' F1 H1 F2 H2 : Hp} {M : List Addr} {σ : L2.St} {te ta tb tc : TE} {tt tu : TT} {d x y z : PyData} {r r' : R2} {D : Ends} {tw tz : TS}
theorem ev_ixRow {ds : List PyData} {k : Nat} (h : EvD K M te σ F H d) (hd : rowD d = some ds) (hk : ds[k]? = some x) : EvD K M (tOp (rIx K) te (tC (.int (k : Int)))) σ F H x := by
  rcases (row_is hd).1 with rfl | rfl
  · exact ev_op h ev_int (rv_ixl (atI_nat hk))
  · exact ev_op h ev_int (rv_ixt (atI_nat hk))
theorem ev_lenRow {ds : List PyData} (h : EvD K M te σ F H d) (hd : rowD d = some ds) : EvD K M (tCB (rLen K) (tCons te tNil)) σ F H (.int (ds.length : Int)) := by
  rcases (row_is hd).1 with rfl | rfl
  · exact ev_cb (ea_cons h ea_nil) xLenL
  · exact ev_cb (ea_cons h ea_nil) xLenT
theorem ev_tupRow {ds : List PyData} (h : EvD K M te σ F H d) (hd : rowD d = some ds) : EvD K M (tCB (rTupleOf K) (tCons te tNil)) σ F H (.tuple ds) := by
  rcases (row_is hd).1 with rfl | rfl
  · exact ev_cb (ea_cons h ea_nil) xTupL
  · exact ev_cb (ea_cons h ea_nil) xTupT
theorem en_items {ds : List PyData} {j : Nat} (p : PyData → Bool) (h : EvD K M te σ F H d) (hd : rowD d = some ds) (hl : ds.length ≤ 1000000) (hw : ∀ v, wipe ((wipe σ [j]).set j (some v)) [j] = wipe σ [j])
    (hj : ∀ v : V, ((wipe σ [j]).set j (some v))[j]? = some (some v))
    (ht : ∀ x ∈ ds, ∀ F1 H1 v, Rp K F1 v x → Sx M F H F1 H1 → EvT K M tt ((wipe σ [j]).set j (some v)) F1 H1 (p x)) :
    EvN K M (tLc (iSeq K te) (gName j) tt (tVar j) [j]) σ F H (ds.filter p) := by
  have e : ((ds.filter p).map id) = ds.filter p := List.map_id _
  rcases (row_is hd).1 with rfl | rfl
  · have hn := xLcL (en_lcL (K := K) (M := M) (σ := σ) (te := tVar j) (tt := tt) (vs := [j]) ds id id p (fun a => Nm K j a) (by rw [List.map_id]; exact h) hl (fun _ _ => tg_nm)
      (fun a _ F1 σ' ⟨v, _, hσ⟩ => by subst hσ; exact hw v) (fun a ha F1 H1 σ' s' ⟨v, rv, hσ⟩ => by subst hσ; exact ht a ha F1 H1 v rv s') (fun a _ _ F1 H1 σ' s' ⟨v, rv, hσ⟩ => by subst hσ; exact ev_var (hj v) rv))
    rw [e] at hn
    exact hn
  · have hn := xLcT (en_lcT (K := K) (M := M) (σ := σ) (te := tVar j) (tt := tt) (vs := [j]) ds id id p (fun a => Nm K j a) (by rw [List.map_id]; exact h) hl (fun _ _ => tg_nm)
      (fun a _ F1 σ' ⟨v, _, hσ⟩ => by subst hσ; exact hw v) (fun a ha F1 H1 σ' s' ⟨v, rv, hσ⟩ => by subst hσ; exact ht a ha F1 H1 v rv s') (fun a _ _ F1 H1 σ' s' ⟨v, rv, hσ⟩ => by subst hσ; exact ev_var (hj v) rv))
    rw [e] at hn
    exact hn
theorem filter_none {α : Type} {ds : List α} {p : α → Bool} : (ds.filter fun x => !p x).isEmpty = ds.all p := by
  induction ds with
  | nil => rfl
  | cons a l ih =>
    rw [List.filter_cons, List.all_cons]
    cases hp : p a with
    | true => simpa [hp] using ih
    | false => rfl
theorem Pt.filt {n : Nat} {ds : List PyData} {p : PyData → Bool} (h : ∀ x, x ∈ ds → Pt n x) (hl : ds.length ≤ 1000000) : Pt (n + 1) (.list (ds.filter p)) := .list (fun d hd => h d (List.mem_filter.mp hd).1) (Nat.le_trans (List.length_filter_le _ _) hl)
theorem sh_str {a : Str} (h : PyData.strOk a = true) : SeqAt.shaped (.str a) = true := Lay.shaped (n := 0) (Pl.lay (.str h)) (by decide)
theorem eqv_str {a b : Str} : PyData.eqv (.str a) (.str b) = decide (a = b) := by
  show (a == b) = decide (a = b)
  by_cases q : a = b
  · subst q; simp
  · rw [decide_eq_false q]; simpa using q
theorem xEqS {a b : Str} (ha : PyData.strOk a = true) (hb : PyData.strOk b = true) : RV K (rEqD K) (.str a) (.str b) (.bool (decide (a = b))) := eqv_str ▸ rv_eqD (K := K) (sh_str ha) (sh_str hb)
theorem xNeS {a b : Str} (ha : PyData.strOk a = true) (hb : PyData.strOk b = true) : RV K (rNeD K) (.str a) (.str b) (.bool (!decide (a = b))) := eqv_str ▸ rv_neD (K := K) (sh_str ha) (sh_str hb)
/-! ### is_octets -/
def octsD (d : PyData) : Bool := match rowD d with
  | some ds => ds.all (numD 0 255)
  | none => false
def sp_is_octets (K : PySem.W.Frag) : Sp := spP K (fun i : (PyData) => (fun (d : PyData) => ([d] : List PyData)) i) (fun i => (fun (d : PyData) => (.bool (octsD d) : PyData)) i) (fun i => (fun (d : PyData) => (Pt 3 d : Prop)) i)
theorem ev_is_octets {K : PySem.W.Frag} {M : List Addr} {σ : L2.St} {F H : Hp} {ta : TA} {E : XK} {d : PyData} (h : EvA K M ta σ F H [d]) (hp : Pt 3 d) : EvD K M (tCall (sp_is_octets K) [] E ta) σ F H (.bool (octsD d)) := ev_call (d) h hp
local macro_rules | `(tactic| walk_at "ev") => `(tactic| ((with_reducible show EvD _ _ (tCall (sp_is_octets _) _ _ _) _ _ _ _); exact ev_is_octets (by walk_at "ea") (by walk_at "sc")))
abbrev N_is_octets : List Str := ["thing", "one"]
def t_is_octets (K : PySem.W.Frag) : TS :=
  (tRet (tAndT K (tCall (sp_is_row K) [] E0 (tCons (tVar 0) tNil)) (tOp (rEqD K) (tLc (iSeq K (tVar 0)) (gName 1) (tNot (tTru K (tCall (sp_is_number K) [] E0 (tCons (tVar 1) (tCons (tC (.int 0)) (tCons (tC (.int 255)) tNil)))))) (tVar 1) [1]) (tLst tNil))))
theorem rd_is_octets' {K : PySem.W.Frag} {F H : Hp} (d : PyData) {vs : List V} (e : Same F H) (rs : RpAll K F vs [d]) (hp : Pt 3 d) (D : Ends) (hn : ∀ σ H', D.nx σ H' = D.rt .non H') (q : ∀ F' H' v, Sx [] F H F' H' → Rp K F' v (.bool (octsD d)) → D.rt v H') : t_is_octets K D (L2.start N_is_octets vs) H := by
  obtain ⟨v, rfl, h1⟩ := rs.inv1
  cases hd : rowD d with
  | none =>
    refine st_ret (K := K) (M := []) (d := .bool (isRow d && true)) e (ev_andB (ev_is_row (ea_cons (ev_var rfl h1) ea_nil)) fun hh => ?_) fun F2 H2 u s2 ru => q _ _ _ s2 (by rw [row_no hd] at ru; unfold octsD; rw [hd]; exact ru)
    rw [row_no hd] at hh; cases hh
  | some ds =>
    obtain ⟨hx, hl⟩ := hp.row hd
    refine st_ret (K := K) (M := []) (d := .bool (isRow d && (ds.filter fun x => !numD 0 255 x).isEmpty)) e (ev_andB (ev_is_row (ea_cons (ev_var rfl h1) ea_nil)) fun _ => ev_op (EvN.ev (en_items (fun x => !numD 0 255 x) (ev_var rfl h1) hd hl (fun _ => rfl) (fun _ => rfl) fun x _ F1 H1 v rv s1 => et_not (xTru (ev_is_number (ea_cons (ev_var rfl rv) (ea_cons ev_int (ea_cons ev_int ea_nil)))) rfl))) (ev_lst ea_nil (by decide)) (xEqNil ((Pt.filt hx hl).shaped (by decide)))) fun F2 H2 u s2 ru => q _ _ _ s2 ?_
    rw [(row_is hd).2, filter_none] at ru
    unfold octsD
    rw [hd]
    exact ru
/-! ### octet_of -/
def octD (s : Str) : PyData := match octN s with
  | some n => .int (n : Int)
  | none => .none
def sp_octet_of (K : PySem.W.Frag) : Sp := spP K (fun i : (Str) => (fun (s : Str) => ([.str s] : List PyData)) i) (fun i => (fun (s : Str) => (octD s : PyData)) i) (fun i => (fun (s : Str) => (TOk s : Prop)) i)
theorem ev_octet_of {K : PySem.W.Frag} {M : List Addr} {σ : L2.St} {F H : Hp} {ta : TA} {E : XK} {s : Str} (h : EvA K M ta σ F H [.str s]) (hp : TOk s) : EvD K M (tCall (sp_octet_of K) [] E ta) σ F H (octD s) := ev_call (s) h hp
local macro_rules | `(tactic| walk_at "ev") => `(tactic| ((with_reducible show EvD _ _ (tCall (sp_octet_of _) _ _ _) _ _ _ _); exact ev_octet_of (by walk_at "ea") (by walk_at "sc")))
abbrev N_octet_of : List Str := ["word", "sign"]
def t_octet_of (K : PySem.W.Frag) : TS :=
  (tSeq (tIfS (tOr (tNot (tTest (tChain rLeI rLeI (tC (.int 1)) (tCB (rLen K) (tCons (tVar 0) tNil)) (tC (.int 3))))) (tOr (tTru K (tLc (iStr (tVar 0)) (gName 1) (tTest (tOp rNotInSign (tVar 1) (tC (.str "0123456789")))) (tVar 1) [1])) (tAnd (tTest (tOp (rEqD K) (tOp (rIx K) (tVar 0) (tC (.int 0))) (tC (.str "0")))) (tTest (tOp (rNeD K) (tVar 0) (tC (.str "0")))))))
   (tRet (tC (.non)))
   tNext)
  (tRet (tIf (tTest (tOp rLtI (tCB rIntS (tCons (tVar 0) tNil)) (tC (.int 256)))) (tCB rIntS (tCons (tVar 0) tNil)) (tC (.non)))))
theorem rd_octet_of' {K : PySem.W.Frag} {F H : Hp} (s : Str) {vs : List V} (e : Same F H) (rs : RpAll K F vs [.str s]) (hp : TOk s) (D : Ends) (hn : ∀ σ H', D.nx σ H' = D.rt .non H') (q : ∀ F' H' v, Sx [] F H F' H' → Rp K F' v (octD s) → D.rt v H') : t_octet_of K D (L2.start N_octet_of vs) H := by
  obtain ⟨v, rfl, h1⟩ := rs.inv1
  obtain ⟨hs, hl⟩ := hp
  have hor : (!(decide ((1 : Int) ≤ (s.length : Int)) && decide ((s.length : Int) ≤ 3)) || (!((tl s).all fun c => decide (c ∈ tl figs)) || (decide ((tl s).getD 0 0 = 48) && !decide (s = zer)))) = !canon s := by
    have e1 : decide ((1 : Int) ≤ (s.length : Int)) = decide (1 ≤ s.length) := decide_eq_decide.mpr (by omega)
    have e2 : decide ((s.length : Int) ≤ 3) = decide (s.length ≤ 3) := decide_eq_decide.mpr (by omega)
    unfold canon
    rw [e1, e2]
    cases decide (1 ≤ s.length) <;> cases decide (s.length ≤ 3) <;> cases ((tl s).all fun c => decide (c ∈ tl figs)) <;> cases decide ((tl s).getD 0 0 = 48) <;> cases decide (s = zer) <;> rfl
  have e48 : ∀ c, decide (sg c = zer) = decide (c = 48) := fun c => decide_eq_decide.mpr ⟨fun h => by
    have := congrArg tl h
    have h2 : [c] = [48] := this
    simpa using h2, fun h => by rw [h]; rfl⟩
  refine q_when (K := K) (M := []) (b := !canon s) e (EvT.is (et_or (et_not (et_test (ev_chain (x := .int 1) (y := .int (s.length : Int)) (w := .int 3) ev_int (ev_cb (ea_cons (ev_var rfl h1) ea_nil) (xLenS hl)) xLe (fun _ => ev_int) fun _ => xLe))) fun hlen =>
    et_or (xTru (b := !((tl s).all fun c => decide (c ∈ tl figs))) (EvN.ev (en_signs (p := fun c => !decide (c ∈ tl figs)) (ev_var rfl h1) hl (fun _ => rfl) (fun _ => rfl) fun c F3 H3 v rv s3 => et_test (ev_op (ev_var rfl rv) ev_str xNotInSign))) ?_) fun _ =>
    et_and (a := decide ((tl s).getD 0 0 = 48)) (et_test ((ev_op (ev_op (ev_var rfl h1) ev_int (xIxS (first_sign (by simp at hlen; omega)) hl)) ev_str (xEqS (sg_ok hs ?_) (by decide +kernel))).is (congrArg PyData.bool (e48 _)))) fun _ => et_test (ev_op (ev_var rfl h1) ev_str (xNeS hs (by decide +kernel)))) hor) (fun hb F1 H1 s1 => ?_) fun hb F1 H1 s1 => ?_
  · show some (!((sgs s fun c => !decide (c ∈ tl figs)).map fun c => PyData.str (sg c)).isEmpty) = _
    rw [sgs_nil]
    simp
  · have hpos : 0 < (tl s).length := by rw [← len_tl]; simp at hlen; omega
    rw [List.getD_eq_getElem?_getD, List.getElem?_eq_getElem hpos]
    exact List.getElem_mem hpos
  · refine st_ret (K := K) (M := []) (d := .none) s1.fh ev_non fun F2 H2 u s2 ru => q _ _ _ (s1.trans s2) ?_
    have hc : canon s = false := by simpa using hb
    unfold octD octN
    rw [hc]
    exact ru
  · have hc : canon s = true := by simpa using hb
    have r1 := h1.mono s1.ff
    have hlen := (canon_figs hc).1.2
    have hi : ∀ {F2 H2 : Hp}, Rp K F2 v (.str s) → EvD K [] (tCB rIntS (tCons (tVar 0) tNil)) [some v, none] F2 H2 (.int (valS s : Int)) := fun rv => ev_cb (ea_cons (ev_var rfl rv) ea_nil) (xIntS (canon_int hc) (by omega))
    refine st_ret (K := K) (M := []) (d := octD s) s1.fh (ev_if (b := decide ((valS s : Int) < 256)) (et_test (ev_op (hi r1) ev_int xLt)) (fun h => ?_) (fun h => ?_)) fun F2 H2 u s2 ru => q _ _ _ (s1.trans s2) ru
    · have : octD s = .int (valS s : Int) := by
        unfold octD octN
        rw [hc, decide_eq_true (show valS s < 256 by simp at h; omega)]; rfl
      rw [this]
      exact hi r1
    · have : octD s = .none := by
        unfold octD octN
        rw [hc, decide_eq_false (show ¬ valS s < 256 by simp at h; omega)]; rfl
      rw [this]
      exact ev_non
end
end Sf

/-! deeds by form, further -/
namespace Sf
open PySem L2 RZ TL
/-! evaluation, construct by construct -/
local macro_rules | `(tactic| walk_at "rp") => `(tactic| first | assumption | exact .int _ | exact .bl _ | exact .str _ | exact .non | exact Rp.mono (Sx.ff (by assumption)) (by walk_at "rp"))
local macro_rules | `(tactic| walk_at "sc") => `(tactic| first | rfl | assumption | omega | decide | (simp; done) | (simp; omega))
local macro_rules | `(tactic| walk_at "ix") => `(tactic| first | rfl | assumption)
local macro_rules | `(tactic| walk_at "rv") => `(tactic| first
  | exact xAddI | exact xSub | exact xLt | exact xLe | exact xGt | exact xGe | exact xIsN | exact xNotN | exact xEqI | exact xNeI | exact xEqB | exact xNeB | exact xEqLB | exact xEqTB | exact xNeTB
  | exact xMod (by walk_at "sc")
  | exact xDiv (by walk_at "sc")
  | exact xPow (by walk_at "sc")
  | exact xMulI (by walk_at "sc")
  | exact rv_ixt (by walk_at "ix")
  | exact rv_ixl (by walk_at "ix")
  | exact xAddL (by walk_at "sc")
  | exact xAddT (by walk_at "sc"))
local macro_rules | `(tactic| walk_at "rc") => `(tactic| first | exact xLenL | exact xLenT | exact xListL | exact xListT | exact xTupL | exact xTupT | exact xMax2 | exact xInt | exact rc_all | exact rc_any)
local macro_rules | `(tactic| walk_at "ea") => `(tactic| first | exact ea_nil | refine ea_cons (by walk_at "ev") (by walk_at "ea"))
local macro_rules | `(tactic| walk_at "eo") => `(tactic| first | exact eo_none | refine eo_some (by walk_at "ev"))
local macro_rules | `(tactic| walk_at "et") => `(tactic| first
  | ((with_reducible show EvT _ _ (tTest _) _ _ _ _); exact et_test (by walk_at "ev"))
  | ((with_reducible show EvT _ _ (tNot _) _ _ _ _); exact et_not (by walk_at "et"))
  | ((with_reducible show EvT _ _ (tAnd _ _) _ _ _ _); exact et_and (by walk_at "et") (fun hh => by walk_at "et"))
  | ((with_reducible show EvT _ _ (tOr _ _) _ _ _ _); exact et_or (by walk_at "et") (fun hh => by walk_at "et"))
  | ((with_reducible show EvT _ _ (tTru _ _) _ _ _ _); exact xTru (by walk_at "ev") (by walk_at "sc"))
  | ((with_reducible show EvT _ _ tYes _ _ _ _); exact et_yes))
local macro_rules | `(tactic| walk_at "ev") => `(tactic| first
  | ((with_reducible show EvD _ _ (tC _) _ _ _ _); first | exact ev_int | exact ev_bl | exact ev_str | exact ev_non)
  | ((with_reducible show EvD _ _ (tVar _) _ _ _ _); exact ev_var (by rfl) (by walk_at "rp"))
  | ((with_reducible show EvD _ _ (tOp _ _ _) _ _ _ _); exact ev_op (by walk_at "ev") (by walk_at "ev") (by walk_at "rv"))
  | ((with_reducible show EvD _ _ (tUn _ _) _ _ _ _); exact ev_un (by walk_at "ev") xNeg)
  | ((with_reducible show EvD _ _ (tCB _ _) _ _ _ _); exact ev_cb (by walk_at "ea") (by walk_at "rc"))
  | ((with_reducible show EvD _ _ (tTup _) _ _ _ _); exact ev_tup (by walk_at "ea") (by walk_at "sc"))
  | ((with_reducible show EvD _ _ (tLst _) _ _ _ _); exact ev_lst (by walk_at "ea") (by walk_at "sc"))
  | ((with_reducible show EvD _ _ (tSl _ _ _ _) _ _ _ _); first | exact xSlL (by walk_at "ev") (by walk_at "eo") (by walk_at "eo") | exact xSlT (by walk_at "ev") (by walk_at "eo") (by walk_at "eo"))
  | ((with_reducible show EvD _ _ (tNotT _ _) _ _ _ _); exact ev_notT (by walk_at "ev") (by walk_at "sc"))
  | ((with_reducible show EvD _ _ (tAndT _ _ _) _ _ _ _); exact ev_andB (by walk_at "ev") (fun hh => by walk_at "ev"))
  | ((with_reducible show EvD _ _ (tOrT _ _ _) _ _ _ _); exact ev_orB (by walk_at "ev") (fun hh => by walk_at "ev")))

local macro_rules | `(tactic| walk_at "ev") => `(tactic| ((with_reducible show EvD _ _ (tCall (sp_is_number _) _ _ _) _ _ _ _); exact ev_is_number (by walk_at "ea")))
local macro_rules | `(tactic| walk_at "ev") => `(tactic| ((with_reducible show EvD _ _ (tCall (sp_is_name _) _ _ _) _ _ _ _); exact ev_is_name (by walk_at "ea") (by walk_at "sc")))
local macro_rules | `(tactic| walk_at "ev") => `(tactic| ((with_reducible show EvD _ _ (tCall (sp_is_octets _) _ _ _) _ _ _ _); exact ev_is_octets (by walk_at "ea") (by walk_at "sc")))
local macro_rules | `(tactic| walk_at "ev") => `(tactic| ((with_reducible show EvD _ _ (tCall (sp_octet_of _) _ _ _) _ _ _ _); exact ev_octet_of (by walk_at "ea") (by walk_at "sc")))
def isStrD : PyData → Bool
  | .str _ => true
  | _ => false
def deedSizes : List (Str × Int) := [("put", 3), ("drop", 2), ("exchange", 3), ("chain", 3)]
def isDeedD (d : PyData) : Bool := match rowD d with
  | some (.str w :: r) => decide (w ∈ deedSizes.map (·.1)) && decide (deedSizes.lookup w = some ((r.length + 1 : Nat) : Int))
  | _ => false
def restD (w : Str) (d : PyData) : PyData := match rowD d with
  | some ds => if w = sChain then (if (decide (1 ≤ ds.length) && decide (ds.length ≤ 4)) && ds.all nmD then .tuple ds else .none) else (if ds.all (numD 0 255) && (decide (1 ≤ ds.length) && decide (ds.length ≤ 20000)) then .tuple ds else .none)
  | none => .none
def plD (d : PyData) : PyData := match rowD d with
  | some (.str w :: n :: r) => if isDeedD d && nmD n then (if w = sDrop then .tuple (.str w :: n :: r) else match r with
    | t :: _ => if isNon (restD w t) then .none else .tuple [.str w, n, restD w t]
    | [] => .none) else .none
  | _ => .none
section
variable {K : PySem.W.Frag} {w : World} {F H F' H' F1 H1 F2 H2 : Hp} {M : List Addr} {σ : L2.St} {te ta tb tc : TE} {tt tu : TT} {d x y z : PyData} {r r' : R2} {D : Ends} {tw tz : TS}
theorem ev_isStr (h : EvD K M te σ F H x) : EvD K M (tIs K te "str") σ F H (.bool (isStrD x)) := by
  cases x with
  | none => exact xIs "NoneType" h rfl (by decide +kernel)
  | bool b => exact xIs "bool" h rfl (Eq.trans (b := some false) (by decide +kernel) rfl)
  | int b => exact xIs "int" h rfl (Eq.trans (b := some false) (by decide +kernel) rfl)
  | str b => exact xIs "str" h rfl (Eq.trans (b := some true) (by decide +kernel) rfl)
  | list b => exact xIs "list" h rfl (Eq.trans (b := some false) (by decide +kernel) rfl)
  | tuple b => exact xIs "tuple" h rfl (Eq.trans (b := some false) (by decide +kernel) rfl)
  | dict b => exact xIs "dict" h rfl (Eq.trans (b := some false) (by decide +kernel) rfl)
theorem truth_row {ds : List PyData} (h : rowD d = some ds) : truthD d = some (!ds.isEmpty) := by
  rcases (row_is h).1 with rfl | rfl <;> rfl
theorem xEqI' {i j : Int} : RV K (rEqD K) (.int i) (.int j) (.bool (decide (i = j))) := xEqI
def sp_is_deed (K : PySem.W.Frag) : Sp := spP K (fun i : (PyData) => (fun (d : PyData) => ([d] : List PyData)) i) (fun i => (fun (d : PyData) => (.bool (isDeedD d) : PyData)) i) (fun i => (fun (d : PyData) => (Pt 3 d : Prop)) i)
theorem ev_is_deed {K : PySem.W.Frag} {M : List Addr} {σ : L2.St} {F H : Hp} {ta : TA} {E : XK} {d : PyData} (h : EvA K M ta σ F H [d]) (hp : Pt 3 d) : EvD K M (tCall (sp_is_deed K) [] E ta) σ F H (.bool (isDeedD d)) := ev_call (d) h hp
local macro_rules | `(tactic| walk_at "ev") => `(tactic| ((with_reducible show EvD _ _ (tCall (sp_is_deed _) _ _ _) _ _ _ _); exact ev_is_deed (by walk_at "ea") (by walk_at "sc")))
abbrev N_is_deed : List Str := ["thing"]
def t_is_deed (K : PySem.W.Frag) (w : World) : TS :=
  (tSeq (tIfS (tOr (tNot (tTru K (tCall (sp_is_row K) [] E0 (tCons (tVar 0) tNil)))) (tOr (tNot (tTru K (tVar 0))) (tNot (tTru K (tIs K (tOp (rIx K) (tVar 0) (tC (.int 0))) "str")))))
   (tRet (tC (.bl false)))
   tNext)
  (tRet (tAndT K (tOp (rInKd K w [("put", 3), ("drop", 2), ("exchange", 3), ("chain", 3)]) (tOp (rIx K) (tVar 0) (tC (.int 0))) (tKd K w [("put", 3), ("drop", 2), ("exchange", 3), ("chain", 3)])) (tOp (rEqD K) (tCB (rLen K) (tCons (tVar 0) tNil)) (tOp (rIxKd K w [("put", 3), ("drop", 2), ("exchange", 3), ("chain", 3)]) (tKd K w [("put", 3), ("drop", 2), ("exchange", 3), ("chain", 3)]) (tOp (rIx K) (tVar 0) (tC (.int 0))))))))
theorem rd_is_deed' {K : PySem.W.Frag} {F H : Hp} (d : PyData) {vs : List V} (e : Same F H) (rs : RpAll K F vs [d]) (hp : Pt 3 d) (D : Ends) (hn : ∀ σ H', D.nx σ H' = D.rt .non H') (q : ∀ F' H' v, Sx [] F H F' H' → Rp K F' v (.bool (isDeedD d)) → D.rt v H') {w : World} : t_is_deed K w D (L2.start N_is_deed vs) H := by
  obtain ⟨v, rfl, h1⟩ := rs.inv1
  cases hd : rowD d with
  | none =>
    refine q_when (K := K) (M := []) (b := !isRow d || true) e (et_or (et_not (xTru (ev_is_row (ea_cons (ev_var rfl h1) ea_nil)) rfl)) fun z => ?_) (fun _ F1 H1 s1 => ?_) (fun z => ?_)
    · rw [row_no hd] at z; cases z
    · refine st_ret (K := K) (M := []) (d := .bool false) s1.fh (by walk_at "ev") fun F2 H2 u s2 ru => q _ _ _ (s1.trans s2) ?_
      unfold isDeedD; rw [hd]; exact ru
    · rw [row_no hd] at z; cases z
  | some ds =>
    obtain ⟨hx, hl⟩ := hp.row hd
    cases ds with
    | nil =>
      refine q_when (K := K) (M := []) (b := !isRow d || (!false || true)) e (et_or (et_not (xTru (ev_is_row (ea_cons (ev_var rfl h1) ea_nil)) rfl)) fun z => et_or (et_not (xTru (ev_var rfl h1) (truth_row hd))) fun z => absurd z (by decide)) (fun _ F1 H1 s1 => ?_) (fun z => ?_)
      · refine st_ret (K := K) (M := []) (d := .bool false) s1.fh (by walk_at "ev") fun F2 H2 u s2 ru => q _ _ _ (s1.trans s2) ?_
        unfold isDeedD; rw [hd]; exact ru
      · rw [(row_is hd).2] at z; cases z
    | cons a r =>
      refine q_when (K := K) (M := []) (b := !isRow d || (!true || !isStrD a)) e (et_or (et_not (xTru (ev_is_row (ea_cons (ev_var rfl h1) ea_nil)) rfl)) fun z => et_or (et_not (xTru (ev_var rfl h1) (truth_row hd))) fun _ => et_not (xTru (ev_isStr (ev_ixRow (k := 0) (ev_var rfl h1) hd rfl)) rfl)) (fun hb F1 H1 s1 => ?_) (fun hb F1 H1 s1 => ?_)
      · refine st_ret (K := K) (M := []) (d := .bool false) s1.fh (by walk_at "ev") fun F2 H2 u s2 ru => q _ _ _ (s1.trans s2) ?_
        have : isDeedD d = false := by
          unfold isDeedD; rw [hd]
          rw [(row_is hd).2] at hb
          cases a <;> first | rfl | (simp [isStrD] at hb)
        rw [this]; exact ru
      · rw [(row_is hd).2] at hb
        cases a with
        | str z =>
          have r1 := h1.mono s1.ff
          have hz : TOk z := hx (.str z) (by simp) |>.tx
          have hi : ∀ {F2 H2 : Hp}, Rp K F2 v d → EvD K [] (tOp (rIx K) (tVar 0) (tC (.int 0))) [some v] F2 H2 (.str z) := fun rv => ev_ixRow (k := 0) (ev_var rfl rv) hd rfl
          refine st_ret (K := K) (M := []) (d := .bool (decide (z ∈ deedSizes.map (·.1)) && decide (deedSizes.lookup z = some ((r.length + 1 : Nat) : Int)))) s1.fh (ev_andB (ev_inKd (es := deedSizes) (hi r1)) fun hin => ?_) fun F2 H2 u s2 ru => q _ _ _ (s1.trans s2) (by unfold isDeedD; rw [hd]; exact ru)
          rw [← mem_keys] at hin
          cases hlk : deedSizes.lookup z with
          | none => rw [hlk] at hin; cases hin
          | some i =>
            refine EvD.is (ev_op (ev_lenRow (ev_var rfl r1) hd) (ev_ixKd (es := deedSizes) (hi r1) hlk) xEqI') (congrArg PyData.bool (decide_eq_decide.mpr ?_))
            rw [List.length_cons]
            constructor
            · intro h; rw [h]
            · intro h; exact (Option.some.inj h).symm
        | _ => simp [isStrD] at hb
/-! ### rest_in -/
def sp_rest_in (K : PySem.W.Frag) : Sp := spP K (fun i : (Str) × (PyData) => (fun (s : Str) (d : PyData) => ([.str s, d] : List PyData)) i.1 i.2) (fun i => (fun (s : Str) (d : PyData) => (restD s d : PyData)) i.1 i.2) (fun i => (fun (s : Str) (d : PyData) => (TOk s ∧ Pt 3 d : Prop)) i.1 i.2)
theorem ev_rest_in {K : PySem.W.Frag} {M : List Addr} {σ : L2.St} {F H : Hp} {ta : TA} {E : XK} {s : Str} {d : PyData} (h : EvA K M ta σ F H [.str s, d]) (hp : TOk s ∧ Pt 3 d) : EvD K M (tCall (sp_rest_in K) [] E ta) σ F H (restD s d) := ev_call (s, d) h hp
local macro_rules | `(tactic| walk_at "ev") => `(tactic| ((with_reducible show EvD _ _ (tCall (sp_rest_in _) _ _ _) _ _ _ _); exact ev_rest_in (by walk_at "ea") (by walk_at "sc")))
abbrev N_rest_in : List Str := ["word", "thing", "good", "one"]
def t_rest_in (K : PySem.W.Frag) : TS :=
  (tSeq (tIfS (tTest (tOp (rEqD K) (tVar 0) (tC (.str "chain"))))
   (tSeq (tAsg (tAndT K (tCall (sp_is_row K) [] E0 (tCons (tVar 1) tNil)) (tAndT K (tChain rLeI rLeI (tC (.int 1)) (tCB (rLen K) (tCons (tVar 1) tNil)) (tC (.int 4))) (tOp (rEqD K) (tLc (iSeq K (tVar 1)) (gName 3) (tNot (tTru K (tCall (sp_is_name K) [] E0 (tCons (tVar 3) tNil)))) (tVar 3) [3]) (tLst tNil)))) (gName 2))
    (tRet (tIf (tTru K (tVar 2)) (tCB (rTupleOf K) (tCons (tVar 1) tNil)) (tC (.non)))))
   tNext)
  (tRet (tIf (tAnd (tTru K (tCall (sp_is_octets K) [] E0 (tCons (tVar 1) tNil))) (tTest (tChain rLeI rLeI (tC (.int 1)) (tCB (rLen K) (tCons (tVar 1) tNil)) (tC (.int 20000))))) (tCB (rTupleOf K) (tCons (tVar 1) tNil)) (tC (.non)))))
theorem rd_rest_in' {K : PySem.W.Frag} {F H : Hp} (s : Str) (d : PyData) {vs : List V} (e : Same F H) (rs : RpAll K F vs [.str s, d]) (hp : TOk s ∧ Pt 3 d) (D : Ends) (hn : ∀ σ H', D.nx σ H' = D.rt .non H') (q : ∀ F' H' v, Sx [] F H F' H' → Rp K F' v (restD s d) → D.rt v H') : t_rest_in K D (L2.start N_rest_in vs) H := by
  obtain ⟨v, v2, rfl, h1, h2⟩ := rs.inv2
  obtain ⟨hs, hp⟩ := hp
  refine q_when (K := K) (M := []) (b := decide (s = sChain)) e (et_test (ev_op (ev_var rfl h1) ev_str (xEqS hs.1 (by decide +kernel)))) (fun hb F1 H1 s1 => ?_) fun hb F1 H1 s1 => ?_
  · have hw : s = sChain := of_decide_eq_true hb
    have r2 := h2.mono s1.ff
    cases hd : rowD d with
    | none =>
      refine q_set (K := K) (M := []) (d := .bool (isRow d && true)) s1.fh (ev_andB (ev_is_row (ea_cons (ev_var rfl r2) ea_nil)) fun z => ?_) fun F3 H3 v3 s3 r3 => ?_
      · rw [row_no hd] at z; cases z
      · rw [row_no hd] at r3
        refine st_ret (K := K) (M := []) (d := .none) s3.fh (ev_if (b := false) (xTru (ev_var rfl r3) rfl) (fun z => absurd z (by decide)) fun _ => ev_non) fun F4 H4 u s4 ru => q _ _ _ ((s1.trans s3).trans s4) ?_
        unfold restD; rw [hd]; exact ru
    | some ds =>
      obtain ⟨hx, hl⟩ := hp.row hd
      have e1 : decide ((1 : Int) ≤ (ds.length : Int)) = decide (1 ≤ ds.length) := decide_eq_decide.mpr (by omega)
      have e2 : decide ((ds.length : Int) ≤ 4) = decide (ds.length ≤ 4) := decide_eq_decide.mpr (by omega)
      refine q_set (K := K) (M := []) (d := .bool (isRow d && ((decide ((1 : Int) ≤ (ds.length : Int)) && decide ((ds.length : Int) ≤ 4)) && (ds.filter fun x => !nmD x).isEmpty))) s1.fh (ev_andB (ev_is_row (ea_cons (ev_var rfl r2) ea_nil)) fun _ => ev_andB (ev_chain (x := .int 1) (y := .int (ds.length : Int)) (w := .int 4) ev_int (ev_lenRow (ev_var rfl r2) hd) xLe (fun _ => ev_int) fun _ => xLe) fun _ =>
        ev_op (EvN.ev (en_items (fun x => !nmD x) (ev_var rfl r2) hd hl (fun _ => rfl) (fun _ => rfl) fun x hxm F1 H1 v rv s1 => et_not (xTru (ev_is_name (ea_cons (ev_var rfl rv) ea_nil) (hx x hxm).tx) rfl))) (ev_lst ea_nil (by decide)) (xEqNil ((Pt.filt hx hl).shaped (by decide)))) fun F3 H3 v3 s3 r3 => ?_
      rw [(row_is hd).2, filter_none, e1, e2, Bool.true_and] at r3
      refine st_ret (K := K) (M := []) (d := restD s d) s3.fh (ev_if (xTru (ev_var rfl r3) rfl) (fun hb => ?_) (fun hb => ?_)) fun F4 H4 u s4 ru => q _ _ _ ((s1.trans s3).trans s4) ru
      · have : restD s d = .tuple ds := by unfold restD; rw [hd]; dsimp only; rw [if_pos hw, if_pos hb]
        rw [this]
        exact ev_tupRow (ev_var rfl (r2.mono s3.ff)) hd
      · have : restD s d = .none := by unfold restD; rw [hd]; dsimp only; rw [if_pos hw, if_neg (by rw [hb]; decide)]
        rw [this]
        exact ev_non
  · have hw : s ≠ sChain := of_decide_eq_false hb
    have r2 := h2.mono s1.ff
    cases hd : rowD d with
    | none =>
      have ho : octsD d = false := by unfold octsD; rw [hd]
      refine st_ret (K := K) (M := []) (d := .none) s1.fh (ev_if (b := octsD d && true) (et_and (xTru (ev_is_octets (ea_cons (ev_var rfl r2) ea_nil) hp) rfl) fun z => by rw [ho] at z; cases z) (fun z => by rw [ho] at z; cases z) fun _ => ev_non) fun F4 H4 u s4 ru => q _ _ _ (s1.trans s4) ?_
      unfold restD; rw [hd]; exact ru
    | some ds =>
      have ho : octsD d = ds.all (numD 0 255) := by unfold octsD; rw [hd]
      have e1 : decide ((1 : Int) ≤ (ds.length : Int)) = decide (1 ≤ ds.length) := decide_eq_decide.mpr (by omega)
      have e2 : decide ((ds.length : Int) ≤ 20000) = decide (ds.length ≤ 20000) := decide_eq_decide.mpr (by omega)
      refine st_ret (K := K) (M := []) (d := restD s d) s1.fh (ev_if (b := octsD d && (decide ((1 : Int) ≤ (ds.length : Int)) && decide ((ds.length : Int) ≤ 20000))) (et_and (xTru (ev_is_octets (ea_cons (ev_var rfl r2) ea_nil) hp) rfl) fun _ => et_test (ev_chain (x := .int 1) (y := .int (ds.length : Int)) (w := .int 20000) ev_int (ev_lenRow (ev_var rfl r2) hd) xLe (fun _ => ev_int) fun _ => xLe)) (fun hb => ?_) (fun hb => ?_)) fun F4 H4 u s4 ru => q _ _ _ (s1.trans s4) ru
      · rw [ho, e1, e2] at hb
        have : restD s d = .tuple ds := by unfold restD; rw [hd]; dsimp only; rw [if_neg hw, if_pos hb]
        rw [this]
        exact ev_tupRow (ev_var rfl r2) hd
      · rw [ho, e1, e2] at hb
        have : restD s d = .none := by unfold restD; rw [hd]; dsimp only; rw [if_neg hw, if_neg (by rw [hb]; decide)]
        rw [this]
        exact ev_non
/-! ### plain_deed -/
theorem sizes_of {w : Str} {i : Int} (h : deedSizes.lookup w = some i) : (w = sDrop ∧ i = 2) ∨ ((w = sPut ∨ w = sExch ∨ w = sChain) ∧ i = 3) := by
  unfold deedSizes at h
  rw [List.lookup] at h
  split at h
  · rename_i q; cases h; exact .inr ⟨.inl (beq_iff_eq.mp q), rfl⟩
  rw [List.lookup] at h
  split at h
  · rename_i q; cases h; exact .inl ⟨beq_iff_eq.mp q, rfl⟩
  rw [List.lookup] at h
  split at h
  · rename_i q; cases h; exact .inr ⟨.inr (.inl (beq_iff_eq.mp q)), rfl⟩
  rw [List.lookup] at h
  split at h
  · rename_i q; cases h; exact .inr ⟨.inr (.inr (beq_iff_eq.mp q)), rfl⟩
  · cases h
theorem deed_two {d : PyData} (h : isDeedD d = true) : ∃ w n r, rowD d = some (.str w :: n :: r) ∧ ((w = sDrop ∧ r = []) ∨ (w ≠ sDrop ∧ ∃ t, r = [t])) := by
  unfold isDeedD at h
  split at h
  · rename_i w r hd
    simp only [Bool.and_eq_true, decide_eq_true_eq] at h
    rcases sizes_of h.2 with ⟨hw, hi⟩ | ⟨hw, hi⟩
    · match r, hi with
      | [n], _ => exact ⟨w, n, [], hd, .inl ⟨hw, rfl⟩⟩
      | [], hi => simp at hi
      | a :: b :: r, hi => simp at hi; omega
    · match r, hi with
      | [n, t], _ => exact ⟨w, n, [t], hd, .inr ⟨by rcases hw with z | z | z <;> rw [z] <;> decide +kernel, t, rfl⟩⟩
      | [], hi => simp at hi
      | [n], hi => simp at hi
      | a :: b :: c :: r, hi => simp at hi; omega
  · cases h
theorem plD_no {d : PyData} (h : isDeedD d = false) : plD d = .none := by
  unfold plD
  split
  · rw [h]; rfl
  · rfl
def sp_plain_deed (K : PySem.W.Frag) : Sp := spP K (fun i : (PyData) => (fun (d : PyData) => ([d] : List PyData)) i) (fun i => (fun (d : PyData) => (plD d : PyData)) i) (fun i => (fun (d : PyData) => (Pt 3 d : Prop)) i)
theorem ev_plain_deed {K : PySem.W.Frag} {M : List Addr} {σ : L2.St} {F H : Hp} {ta : TA} {E : XK} {d : PyData} (h : EvA K M ta σ F H [d]) (hp : Pt 3 d) : EvD K M (tCall (sp_plain_deed K) [] E ta) σ F H (plD d) := ev_call (d) h hp
local macro_rules | `(tactic| walk_at "ev") => `(tactic| ((with_reducible show EvD _ _ (tCall (sp_plain_deed _) _ _ _) _ _ _ _); exact ev_plain_deed (by walk_at "ea") (by walk_at "sc")))
abbrev N_plain_deed : List Str := ["thing", "rest"]
def t_plain_deed (K : PySem.W.Frag) : TS :=
  (tSeq (tIfS (tOr (tNot (tTru K (tCall (sp_is_deed K) [] E0 (tCons (tVar 0) tNil)))) (tNot (tTru K (tCall (sp_is_name K) [] E0 (tCons (tOp (rIx K) (tVar 0) (tC (.int 1))) tNil)))))
   (tRet (tC (.non)))
   tNext)
  (tSeq (tIfS (tTest (tOp (rEqD K) (tOp (rIx K) (tVar 0) (tC (.int 0))) (tC (.str "drop"))))
   (tRet (tCB (rTupleOf K) (tCons (tVar 0) tNil)))
   tNext)
  (tSeq (tAsg (tCall (sp_rest_in K) [] E0 (tCons (tOp (rIx K) (tVar 0) (tC (.int 0))) (tCons (tOp (rIx K) (tVar 0) (tC (.int 2))) tNil))) (gName 1))
  (tRet (tIf (tTest (tOp rIsN (tVar 1) (tC (.non)))) (tC (.non)) (tTup (tCons (tOp (rIx K) (tVar 0) (tC (.int 0))) (tCons (tOp (rIx K) (tVar 0) (tC (.int 1))) (tCons (tVar 1) tNil)))))))))
theorem rd_plain_deed' {K : PySem.W.Frag} {F H : Hp} (d : PyData) {vs : List V} (e : Same F H) (rs : RpAll K F vs [d]) (hp : Pt 3 d) (D : Ends) (hn : ∀ σ H', D.nx σ H' = D.rt .non H') (q : ∀ F' H' v, Sx [] F H F' H' → Rp K F' v (plD d) → D.rt v H') : t_plain_deed K D (L2.start N_plain_deed vs) H := by
  obtain ⟨v, rfl, h1⟩ := rs.inv1
  cases hD : isDeedD d with
  | false =>
    refine q_when (K := K) (M := []) (b := !isDeedD d || true) e (et_or (et_not (xTru (ev_is_deed (ea_cons (ev_var rfl h1) ea_nil) hp) rfl)) fun z => by rw [hD] at z; cases z) (fun _ F1 H1 s1 => ?_) (fun z => by rw [hD] at z; cases z)
    exact st_ret (K := K) (M := []) (d := .none) s1.fh ev_non fun F2 H2 u s2 ru => q _ _ _ (s1.trans s2) (by rw [plD_no hD]; exact ru)
  | true =>
    obtain ⟨z, n, r, hd, hr⟩ := deed_two hD
    obtain ⟨hx, hl⟩ := hp.row hd
    have hz : TOk z := hx (.str z) (by simp) |>.tx
    refine q_when (K := K) (M := []) (b := !isDeedD d || !nmD n) e (et_or (et_not (xTru (ev_is_deed (ea_cons (ev_var rfl h1) ea_nil) hp) rfl)) fun _ => et_not (xTru (ev_is_name (ea_cons (ev_ixRow (k := 1) (ev_var rfl h1) hd rfl) ea_nil) (hx n (by simp)).tx) rfl)) (fun hb F1 H1 s1 => ?_) (fun hb F1 H1 s1 => ?_)
    · have hn : nmD n = false := by rw [hD] at hb; simpa using hb
      refine st_ret (K := K) (M := []) (d := .none) s1.fh ev_non fun F2 H2 u s2 ru => q _ _ _ (s1.trans s2) ?_
      have : plD d = .none := by unfold plD; rw [hd]; dsimp only; rw [hn, Bool.and_false]; rfl
      rw [this]; exact ru
    · have hn : nmD n = true := by rw [hD] at hb; simpa using hb
      have r1 := h1.mono s1.ff
      refine q_when (K := K) (M := []) (b := decide (z = sDrop)) s1.fh (et_test (ev_op (ev_ixRow (k := 0) (ev_var rfl r1) hd rfl) ev_str (xEqS hz.1 (by decide +kernel)))) (fun hb2 F2 H2 s2 => ?_) (fun hb2 F2 H2 s2 => ?_)
      · have hw : z = sDrop := of_decide_eq_true hb2
        refine st_ret (K := K) (M := []) (d := .tuple (.str z :: n :: r)) s2.fh (ev_tupRow (ev_var rfl (r1.mono s2.ff)) hd) fun F3 H3 u s3 ru => q _ _ _ ((s1.trans s2).trans s3) ?_
        have : plD d = .tuple (.str z :: n :: r) := by unfold plD; rw [hd]; dsimp only; rw [hD, hn, if_pos (show (true && true) = true from rfl), if_pos hw]
        rw [this]; exact ru
      · have hw : z ≠ sDrop := of_decide_eq_false hb2
        rcases hr with ⟨h, _⟩ | ⟨_, t, rfl⟩
        · exact absurd h hw
        have r2 := r1.mono s2.ff
        have hpl : plD d = if isNon (restD z t) then .none else .tuple [.str z, n, restD z t] := by unfold plD; rw [hd]; dsimp only; rw [hD, hn, if_pos (show (true && true) = true from rfl), if_neg hw]
        refine q_set (K := K) (M := []) (d := restD z t) s2.fh (ev_rest_in (ea_cons (ev_ixRow (k := 0) (ev_var rfl r2) hd rfl) (ea_cons (ev_ixRow (k := 2) (ev_var rfl r2) hd rfl) ea_nil)) ⟨hz, (hx t (by simp)).up⟩) fun F3 H3 v3 s3 r3 => ?_
        have r4 := r2.mono s3.ff
        refine st_ret (K := K) (M := []) (d := plD d) s3.fh (ev_if (b := isNon (restD z t)) (et_test (ev_op (ev_var rfl r3) ev_non xIsN)) (fun hb => ?_) (fun hb => ?_)) fun F4 H4 u s4 ru => q _ _ _ (((s1.trans s2).trans s3).trans s4) ru
        · rw [hpl, if_pos hb]; exact ev_non
        · rw [hpl, if_neg (by rw [hb]; decide)]
          exact ev_tup (ea_cons (ev_ixRow (k := 0) (ev_var rfl r4) hd rfl) (ea_cons (ev_ixRow (k := 1) (ev_var rfl r4) hd rfl) (ea_cons (ev_var rfl r3) ea_nil))) (by simp)
/-! ### deed_of -/
def dlD (ws : List Str) : PyData := match ws with
  | w :: n :: a :: r => if w = sDrop then plD (.list ((w :: n :: a :: r).map .str)) else if w = sChain then plD (.list [.str w, .str n, .list ((a :: r).map .str)]) else if ((a :: r).map octD).any isNon then .none else plD (.list [.str w, .str n, .list ((a :: r).map octD)])
  | ws => plD (.list (ws.map .str))
theorem octD_flat (ss : List Str) : (ss.map octD).all flatD = true := by
  rw [List.all_map]
  refine List.all_eq_true.mpr fun s _ => ?_
  show flatD (octD s) = true
  unfold octD
  cases octN s <;> rfl
theorem inF_none (ss : List Str) : inF .none (ss.map octD) = (ss.map octD).any isNon := by
  unfold inF
  rw [List.any_map, List.any_map]
  congr 1
  funext s
  show eqV (vOf (octD s)) (vOf .none) = isNon (octD s)
  unfold octD
  cases octN s <;> rfl
theorem inF_none_str (ss : List Str) : inF .none (ss.map PyData.str) = false := by
  unfold inF
  rw [List.any_map, List.any_eq_false]
  intro s _ h
  cases h
theorem Pt.octD {n : Nat} (ss : List Str) : ∀ d, d ∈ ss.map Sf.octD → Pt n d := fun d hd => by
  obtain ⟨s, _, rfl⟩ := List.mem_map.mp hd
  unfold Sf.octD
  cases octN s
  · exact .non
  · exact .int
theorem xStrs {ws : List Str} (h : ∀ s ∈ ws, TOk s) (hl : ws.length ≤ 1000000) : Pt 3 (.list (ws.map .str)) := .list (Pt.strs h) (by rw [List.length_map]; exact hl)
def sp_deed_of (K : PySem.W.Frag) : Sp := spP K (fun i : (Str) => (fun (s : Str) => ([.str s] : List PyData)) i) (fun i => (fun (s : Str) => (dlD (words s) : PyData)) i) (fun i => (fun (s : Str) => (TOk s ∧ s.length ≤ 900000 : Prop)) i)
theorem ev_deed_of {K : PySem.W.Frag} {M : List Addr} {σ : L2.St} {F H : Hp} {ta : TA} {E : XK} {s : Str} (h : EvA K M ta σ F H [.str s]) (hp : TOk s ∧ s.length ≤ 900000) : EvD K M (tCall (sp_deed_of K) [] E ta) σ F H (dlD (words s)) := ev_call (s) h hp
local macro_rules | `(tactic| walk_at "ev") => `(tactic| ((with_reducible show EvD _ _ (tCall (sp_deed_of _) _ _ _) _ _ _ _); exact ev_deed_of (by walk_at "ea") (by walk_at "sc")))
abbrev N_deed_of : List Str := ["line", "words", "rest", "word"]
def t_deed_of (K : PySem.W.Frag) : TS :=
  (tSeq (tAsg (tM1 rSplit (tVar 0) (tC (.str " "))) (gName 1))
  (tSeq (tIfS (tOr (tTest (tOp (rEqD K) (tOp (rIx K) (tVar 1) (tC (.int 0))) (tC (.str "drop")))) (tTest (tOp rLtI (tCB (rLen K) (tCons (tVar 1) tNil)) (tC (.int 3)))))
   (tRet (tCall (sp_plain_deed K) [] E0 (tCons (tVar 1) tNil)))
   tNext)
  (tSeq (tAsg (tIf (tTest (tOp (rEqD K) (tOp (rIx K) (tVar 1) (tC (.int 0))) (tC (.str "chain")))) (tSl (rSlU K) (tVar 1) (tPart (tC (.int 2))) tNoPart) (tLc (iSeq K (tSl (rSlU K) (tVar 1) (tPart (tC (.int 2))) tNoPart)) (gName 3) tYes (tCall (sp_octet_of K) [] E0 (tCons (tVar 3) tNil)) [3])) (gName 2))
  (tRet (tIf (tTest (tOp (rIn K false) (tC (.non)) (tVar 2))) (tC (.non)) (tCall (sp_plain_deed K) [] E0 (tCons (tLst (tCons (tOp (rIx K) (tVar 1) (tC (.int 0))) (tCons (tOp (rIx K) (tVar 1) (tC (.int 1))) (tCons (tVar 2) tNil)))) tNil)))))))
theorem rd_deed_of' {K : PySem.W.Frag} {F H : Hp} (s : Str) {vs : List V} (e : Same F H) (rs : RpAll K F vs [.str s]) (hp : TOk s ∧ s.length ≤ 900000) (D : Ends) (hn : ∀ σ H', D.nx σ H' = D.rt .non H') (q : ∀ F' H' v, Sx [] F H F' H' → Rp K F' v (dlD (words s)) → D.rt v H') : t_deed_of K D (L2.start N_deed_of vs) H := by
  obtain ⟨v, rfl, h1⟩ := rs.inv1
  obtain ⟨hs, hl⟩ := hp
  have hws : ∀ p ∈ words s, TOk p := fun p hp => word_ok hs hp
  have hwl := words_len s
  refine q_set (K := K) (M := []) (d := .list ((words s).map .str)) e (EvN.ev (xSplit (ev_var rfl h1) ev_str hs.2 (by decide +kernel))) fun F1 H1 v1 s1 r1 => ?_
  generalize hW : words s = ws at r1 hws hwl ⊢
  have hne : ws ≠ [] := hW ▸ words_ne s
  have hpt := xStrs hws (by omega)
  match ws, hne, hws, hwl, hpt, r1 with
  | w :: ws', _, hws, hwl, hpt, r1 =>
    have hw : TOk w := hws w (by simp)
    have elen : decide ((((w :: ws').map PyData.str).length : Int) < 3) = decide (ws'.length < 2) := decide_eq_decide.mpr (by rw [List.length_map, List.length_cons]; omega)
    refine q_when (K := K) (M := []) (b := decide (w = sDrop) || decide (ws'.length < 2)) s1.fh (et_or (et_test (ev_op (ev_ixRow (k := 0) (ev_var rfl r1) rfl rfl) ev_str (xEqS hw.1 (by decide +kernel)))) fun _ => EvT.is (et_test (ev_op (ev_cb (ea_cons (ev_var rfl r1) ea_nil) xLenL) ev_int xLt)) elen) (fun hb F2 H2 s2 => ?_) (fun hb F2 H2 s2 => ?_)
    · refine st_ret (K := K) (M := []) (d := plD (.list ((w :: ws').map .str))) s2.fh (ev_plain_deed (ea_cons (ev_var rfl (r1.mono s2.ff)) ea_nil) hpt) fun F3 H3 u s3 ru => q _ _ _ ((s1.trans s2).trans s3) ?_
      have : dlD (w :: ws') = plD (.list ((w :: ws').map .str)) := by
        match ws' with
        | [] => rfl
        | [n] => rfl
        | n :: a :: r =>
          have : w = sDrop := by simp at hb; rcases hb with h | h; exact h; omega
          rw [dlD, if_pos this]
      rw [hW, this]; exact ru
    · match ws', hb, hws, hwl, hpt, r1 with
      | [], hb, _, _, _, _ => simp at hb
      | [n], hb, _, _, _, _ => simp at hb
      | n :: a :: r, hb, hws, hwl, hpt, r1 =>
        have hnd : w ≠ sDrop := by simp at hb; exact hb
        have har : ∀ p ∈ a :: r, TOk p := fun p hp => hws p (List.mem_cons_of_mem _ (List.mem_cons_of_mem _ hp))
        have r2 := r1.mono s2.ff
        have hsl : ∀ {F3 H3 : Hp}, Rp K F3 v1 (.list ((w :: n :: a :: r).map .str)) → EvD K [] (tSl (rSlU K) (tVar 1) (tPart (tC (.int 2))) tNoPart) [some v, some v1, none, none] F3 H3 (.list ((a :: r).map .str)) := fun rv => xDropL (k := 2) (ev_var rfl rv) (eo_some ev_int)
        refine q_set (K := K) (M := []) (d := .list (if w = sChain then (a :: r).map .str else (a :: r).map octD)) s2.fh (ev_if (b := decide (w = sChain)) (et_test (ev_op (ev_ixRow (k := 0) (ev_var rfl r2) rfl rfl) ev_str (xEqS hw.1 (by decide +kernel)))) (fun hb => ?_) (fun hb => ?_)) fun F3 H3 v3 s3 r3 => ?_
        · rw [if_pos (of_decide_eq_true hb)]
          exact hsl r2
        · rw [if_neg (of_decide_eq_false hb)]
          refine EvD.is (EvN.ev (xLcL (en_lcL (a :: r) .str octD (fun _ => true) (fun p => Nm K 3 (.str p)) (hsl r2) (by simp at hwl ⊢; omega) (fun _ _ => tg_nm) ?_ (fun _ _ _ _ _ _ _ => et_yes) ?_))) (congrArg (fun l => PyData.list (l.map octD)) (filter_yes (a :: r)))
          · rintro p _ F1 _ ⟨x, _, rfl⟩; rfl
          · rintro p hp _ F1 H1 _ s1 ⟨x, rx, rfl⟩
            exact ev_octet_of (ea_cons (ev_var rfl rx) ea_nil) (har p hp)
        · have r4 := r2.mono s3.ff
          have hn : TOk n := hws n (by simp)
          have hp3 : Pt 3 (.list [.str w, .str n, .list (if w = sChain then (a :: r).map .str else (a :: r).map octD)]) := by
            refine .list (fun d hd => ?_) (by simp)
            rcases List.mem_cons.mp hd with rfl | hd
            · exact .str hw
            rcases List.mem_cons.mp hd with rfl | hd
            · exact .str hn
            rw [List.mem_singleton.mp hd]
            split
            · exact .list (Pt.strs har) (by simp at hwl ⊢; omega)
            · exact .list (Pt.octD _) (by simp at hwl ⊢; omega)
          have hfl : (if w = sChain then (a :: r).map PyData.str else (a :: r).map octD).all flatD = true := by
            split
            · exact strs_flat
            · exact octD_flat _
          refine st_ret (K := K) (M := []) (d := dlD (w :: n :: a :: r)) s3.fh (ev_if (b := if w = sChain then false else ((a :: r).map octD).any isNon) (et_test (EvD.is (ev_op ev_non (ev_var rfl r3) (xInF (neg := false) rfl hfl)) ?_)) (fun hb => ?_) (fun hb => ?_)) fun F4 H4 u s4 ru => q _ _ _ (((s1.trans s2).trans s3).trans s4) (by rw [hW]; exact ru)
          · refine congrArg PyData.bool ?_
            show inF .none _ = _
            by_cases hc : w = sChain
            · rw [if_pos hc, if_pos hc]; exact inF_none_str _
            · rw [if_neg hc, if_neg hc]; exact inF_none _
          · by_cases hc : w = sChain
            · rw [if_pos hc] at hb; cases hb
            · rw [if_neg hc] at hb
              rw [dlD, if_neg hnd, if_neg hc, if_pos hb]
              exact ev_non
          · have : dlD (w :: n :: a :: r) = plD (.list [.str w, .str n, .list (if w = sChain then (a :: r).map .str else (a :: r).map octD)]) := by
              rw [dlD, if_neg hnd]
              by_cases hc : w = sChain
              · rw [if_pos hc, if_pos hc]
              · rw [if_neg hc] at hb
                rw [if_neg hc, if_neg hc, if_neg (by rw [hb]; decide)]
            rw [this]
            exact ev_plain_deed (ea_cons (ev_lst (ea_cons (ev_ixRow (k := 0) (ev_var rfl r4) rfl rfl) (ea_cons (ev_ixRow (k := 1) (ev_var rfl r4) rfl rfl) (ea_cons (ev_var rfl r3) ea_nil))) (by simp)) ea_nil) hp3
/-! ### what a deed is, as the program tells it -/
def rowsOf : Deed → PyData
  | .drop _ => .none
  | .chain _ ns => .tuple (ns.map .str)
  | .octs _ _ os => .tuple (os.map fun o : Nat => .int (o : Int))
def progD : Deed → PyData
  | .drop n => .tuple [.str sDrop, .str n]
  | .chain n ns => .tuple [.str sChain, .str n, .tuple (ns.map .str)]
  | .octs w n os => .tuple [.str w, .str n, .tuple (os.map fun o : Nat => .int (o : Int))]
def lawD : Deed → PyData
  | .drop n => .tuple [.str sDrop, .str n]
  | .chain n ns => .tuple [.str sChain, .str n, .list (ns.map .str)]
  | .octs w n os => .tuple [.str w, .str n, .list (os.map fun o : Nat => .int (o : Int))]
def optP (f : Deed → PyData) : Option Deed → PyData
  | some d => f d
  | none => .none
end
theorem lk_drop : deedSizes.lookup sDrop = some 2 := by decide +kernel
theorem lk_chain : deedSizes.lookup sChain = some 3 := by decide +kernel
theorem lk_put : deedSizes.lookup sPut = some 3 := by decide +kernel
theorem lk_exch : deedSizes.lookup sExch = some 3 := by decide +kernel
theorem isDeed_of {d : PyData} {w : Str} {r : List PyData} (hd : rowD d = some (.str w :: r)) (h : deedSizes.lookup w = some ((r.length + 1 : Nat) : Int)) : isDeedD d = true := by
  unfold isDeedD
  rw [hd]
  dsimp only
  rw [← mem_keys, h]
  simp
theorem isDeed_no {d : PyData} {w : Str} {r : List PyData} (hd : rowD d = some (.str w :: r)) (h : deedSizes.lookup w ≠ some ((r.length + 1 : Nat) : Int)) : isDeedD d = false := by
  unfold isDeedD
  rw [hd]
  dsimp only
  rw [decide_eq_false h, Bool.and_false]
theorem all_nm {ss : List Str} : (ss.map PyData.str).all nmD = ss.all isNm := by rw [List.all_map]; rfl
theorem all_oct {os : List Nat} (h : ∀ o ∈ os, o < 256) : (os.map fun o : Nat => PyData.int (o : Int)).all (numD 0 255) = true := by
  rw [List.all_map]
  refine List.all_eq_true.mpr fun o ho => ?_
  have := h o ho
  show (decide ((0 : Int) ≤ (o : Int)) && decide ((o : Int) ≤ 255)) = true
  rw [decide_eq_true (by omega), decide_eq_true (by omega)]; rfl
theorem isNon_octD {s : Str} : isNon (octD s) = (octN s).isNone := by
  unfold octD
  cases octN s <;> rfl
theorem octAll_none {r : List Str} : octAll r = none ↔ (r.map octD).any isNon = true := by
  induction r with
  | nil => simp [octAll]
  | cons s r ih =>
    rw [octAll, List.map_cons, List.any_cons, isNon_octD]
    cases octN s with
    | none => simp
    | some n =>
      rw [show (some n : Option Nat).isNone = false from rfl, Bool.false_or, ← ih]
      cases h : octAll r with
      | none => simp
      | some ns => simp
theorem octAll_map {r : List Str} {os : List Nat} (h : octAll r = some os) : r.map octD = os.map fun o : Nat => .int (o : Int) := by
  induction r generalizing os with
  | nil => cases h; rfl
  | cons s r ih =>
    rw [octAll] at h
    cases h1 : octN s with
    | none => rw [h1] at h; cases h
    | some n =>
      cases h2 : octAll r with
      | none => rw [h1, h2] at h; cases h
      | some ns =>
        rw [h1, h2] at h
        cases h
        rw [List.map_cons, List.map_cons, ih h2]
        congr 1
        unfold octD
        rw [h1]
/-- plD of a deed well told, whatever rows -/
theorem plD_two {d : PyData} {n : Str} (hd : rowD d = some [.str sDrop, .str n]) : plD d = if isNm n then .tuple [.str sDrop, .str n] else .none := by
  have h := isDeed_of hd lk_drop
  unfold plD
  rw [hd]
  dsimp only
  rw [h, Bool.true_and, if_pos rfl]
  rfl
theorem plD_three {d t : PyData} {w n : Str} (hd : rowD d = some [.str w, .str n, t]) (hl : deedSizes.lookup w = some 3) (hne : w ≠ sDrop) : plD d = if isNm n then (if isNon (restD w t) then .none else .tuple [.str w, .str n, restD w t]) else .none := by
  have h := isDeed_of hd hl
  unfold plD
  rw [hd]
  dsimp only
  rw [h, Bool.true_and, if_neg hne]
  rfl
theorem plD_bad {d : PyData} {w : Str} {r : List PyData} (hd : rowD d = some (.str w :: r)) (h : deedSizes.lookup w ≠ some ((r.length + 1 : Nat) : Int)) : plD d = .none := plD_no (isDeed_no hd h)
theorem restD_chain {d : PyData} {ns : List Str} (hd : rowD d = some (ns.map .str)) : restD sChain d = if (decide (1 ≤ ns.length) && decide (ns.length ≤ 4)) && ns.all isNm then .tuple (ns.map .str) else .none := by
  unfold restD
  rw [hd]
  dsimp only
  rw [if_pos rfl, List.length_map, all_nm]
theorem restD_octs {d : PyData} {w : Str} {os : List Nat} (hw : w ≠ sChain) (hd : rowD d = some (os.map fun o : Nat => .int (o : Int))) (h : ∀ o ∈ os, o < 256) : restD w d = if decide (1 ≤ os.length) && decide (os.length ≤ 20000) then .tuple (os.map fun o : Nat => .int (o : Int)) else .none := by
  unfold restD
  rw [hd]
  dsimp only
  rw [if_neg hw, List.length_map, all_oct h, Bool.true_and]
/-- the program's reading of words is the plain one -/
theorem dlD_is {ws : List Str} (hl : ws.length ≤ 20000) : dlD ws = optP progD (deedOf ws) := by
  match ws, hl with
  | [], _ => rfl
  | [w], _ =>
    show plD (.list [.str w]) = .none
    refine plD_bad (r := []) rfl fun h => ?_
    rcases sizes_of h with ⟨_, h⟩ | ⟨_, h⟩ <;> simp at h
  | [w, n], _ =>
    show plD (.list [.str w, .str n]) = optP progD (if w = sDrop ∧ isNm n = true then some (.drop n) else none)
    by_cases hw : w = sDrop
    · subst hw
      rw [plD_two (n := n) rfl]
      by_cases hn : isNm n = true
      · rw [if_pos hn, if_pos ⟨rfl, hn⟩]; rfl
      · rw [if_neg hn, if_neg (fun h => hn h.2)]; rfl
    · rw [if_neg (fun h => hw h.1)]
      refine plD_bad (r := [.str n]) rfl fun h => ?_
      rcases sizes_of h with ⟨h1, _⟩ | ⟨_, h⟩
      · exact hw h1
      · simp at h
  | w :: n :: a :: r, hl =>
    have hdo : deedOf (w :: n :: a :: r) = if isNm n = true then (if w = sChain then (if (a :: r).length ≤ 4 ∧ (a :: r).all isNm = true then some (.chain n (a :: r)) else none) else if w = sPut ∨ w = sExch then (octAll (a :: r)).map (.octs w n) else none) else none := by
      rw [deedOf]
      intro z; cases z
    rw [dlD, hdo]
    by_cases hd : w = sDrop
    · rw [if_pos hd]
      have : plD (.list ((w :: n :: a :: r).map .str)) = .none := plD_bad (r := .str n :: .str a :: r.map .str) rfl fun h => by
        rcases sizes_of h with ⟨_, h⟩ | ⟨h1, _⟩
        · simp at h; omega
        · rw [hd] at h1; rcases h1 with h1 | h1 | h1 <;> exact absurd h1 (by decide +kernel)
      rw [this, hd]
      split
      · rw [if_neg (by decide +kernel), if_neg (by decide +kernel)]; rfl
      · rfl
    rw [if_neg hd]
    by_cases hc : w = sChain
    · subst hc
      rw [if_pos rfl, if_pos rfl, plD_three (t := .list ((a :: r).map .str)) rfl lk_chain (by decide +kernel), restD_chain (ns := a :: r) rfl]
      by_cases hn : isNm n = true
      · rw [if_pos hn, if_pos hn]
        by_cases h4 : (a :: r).length ≤ 4 ∧ (a :: r).all isNm = true
        · have e : ((decide (1 ≤ (a :: r).length) && decide ((a :: r).length ≤ 4)) && (a :: r).all isNm) = true := by rw [h4.2, decide_eq_true h4.1, decide_eq_true (by simp)]; rfl
          rw [if_pos h4, e]; rfl
        · have e : ((decide (1 ≤ (a :: r).length) && decide ((a :: r).length ≤ 4)) && (a :: r).all isNm) = false := by
            rw [Bool.eq_false_iff]
            intro h
            simp only [Bool.and_eq_true, decide_eq_true_eq] at h
            exact h4 ⟨h.1.2, h.2⟩
          rw [if_neg h4, e]; rfl
      · rw [if_neg hn, if_neg hn]; rfl
    · rw [if_neg hc, if_neg hc]
      by_cases hpe : w = sPut ∨ w = sExch
      · have hlk : deedSizes.lookup w = some 3 := by rcases hpe with h | h <;> rw [h]; exact lk_put; exact lk_exch
        rw [if_pos hpe]
        cases ho : octAll (a :: r) with
        | none =>
          rw [if_pos (octAll_none.mp ho)]
          split <;> rfl
        | some os =>
          obtain ⟨h1, h2, h3⟩ := octAll_some ho
          have hno : ¬ ((a :: r).map octD).any isNon = true := fun h => by rw [octAll_none.mpr h] at ho; cases ho
          have e : (decide (1 ≤ os.length) && decide (os.length ≤ 20000)) = true := by rw [h3, decide_eq_true (by simp), decide_eq_true (by simp at hl ⊢; omega)]; rfl
          rw [if_neg hno, octAll_map ho, plD_three (t := .list (os.map fun o : Nat => .int (o : Int))) rfl hlk hd, restD_octs hc rfl h2, e]
          by_cases hn : isNm n = true
          · rw [if_pos hn, if_pos hn]; rfl
          · rw [if_neg hn, if_neg hn]; rfl
      · rw [if_neg hpe]
        have : ∀ t : PyData, plD (.list [.str w, .str n, t]) = .none := fun t => plD_bad (r := [.str n, t]) rfl fun h => by
          rcases sizes_of h with ⟨_, h⟩ | ⟨h1, _⟩
          · simp at h
          · rcases h1 with h1 | h1 | h1
            · exact hpe (.inl h1)
            · exact hpe (.inr h1)
            · exact hc h1
        split
        · split <;> rfl
        · rw [this]; split <;> rfl
end Sf

/-! texts of deeds, line by line: the program -/
namespace Sf
open PySem L2 RZ TL
/-! evaluation, construct by construct -/
local macro_rules | `(tactic| walk_at "rp") => `(tactic| first | assumption | exact .int _ | exact .bl _ | exact .str _ | exact .non | exact Rp.mono (Sx.ff (by assumption)) (by walk_at "rp"))
local macro_rules | `(tactic| walk_at "sc") => `(tactic| first | rfl | assumption | omega | decide | (simp; done) | (simp; omega))
local macro_rules | `(tactic| walk_at "ix") => `(tactic| first | rfl | assumption)
local macro_rules | `(tactic| walk_at "rv") => `(tactic| first
  | exact xAddI | exact xSub | exact xLt | exact xLe | exact xGt | exact xGe | exact xIsN | exact xNotN | exact xEqI | exact xNeI | exact xEqB | exact xNeB | exact xEqLB | exact xEqTB | exact xNeTB
  | exact xMod (by walk_at "sc")
  | exact xDiv (by walk_at "sc")
  | exact xPow (by walk_at "sc")
  | exact xMulI (by walk_at "sc")
  | exact rv_ixt (by walk_at "ix")
  | exact rv_ixl (by walk_at "ix")
  | exact xAddL (by walk_at "sc")
  | exact xAddT (by walk_at "sc"))
local macro_rules | `(tactic| walk_at "rc") => `(tactic| first | exact xLenL | exact xLenT | exact xListL | exact xListT | exact xTupL | exact xTupT | exact xMax2 | exact xInt | exact rc_all | exact rc_any)
local macro_rules | `(tactic| walk_at "ea") => `(tactic| first | exact ea_nil | refine ea_cons (by walk_at "ev") (by walk_at "ea"))
local macro_rules | `(tactic| walk_at "eo") => `(tactic| first | exact eo_none | refine eo_some (by walk_at "ev"))
local macro_rules | `(tactic| walk_at "et") => `(tactic| first
  | ((with_reducible show EvT _ _ (tTest _) _ _ _ _); exact et_test (by walk_at "ev"))
  | ((with_reducible show EvT _ _ (tNot _) _ _ _ _); exact et_not (by walk_at "et"))
  | ((with_reducible show EvT _ _ (tAnd _ _) _ _ _ _); exact et_and (by walk_at "et") (fun hh => by walk_at "et"))
  | ((with_reducible show EvT _ _ (tOr _ _) _ _ _ _); exact et_or (by walk_at "et") (fun hh => by walk_at "et"))
  | ((with_reducible show EvT _ _ (tTru _ _) _ _ _ _); exact xTru (by walk_at "ev") (by walk_at "sc"))
  | ((with_reducible show EvT _ _ tYes _ _ _ _); exact et_yes))
local macro_rules | `(tactic| walk_at "ev") => `(tactic| first
  | ((with_reducible show EvD _ _ (tC _) _ _ _ _); first | exact ev_int | exact ev_bl | exact ev_str | exact ev_non)
  | ((with_reducible show EvD _ _ (tVar _) _ _ _ _); exact ev_var (by rfl) (by walk_at "rp"))
  | ((with_reducible show EvD _ _ (tOp _ _ _) _ _ _ _); exact ev_op (by walk_at "ev") (by walk_at "ev") (by walk_at "rv"))
  | ((with_reducible show EvD _ _ (tUn _ _) _ _ _ _); exact ev_un (by walk_at "ev") xNeg)
  | ((with_reducible show EvD _ _ (tCB _ _) _ _ _ _); exact ev_cb (by walk_at "ea") (by walk_at "rc"))
  | ((with_reducible show EvD _ _ (tTup _) _ _ _ _); exact ev_tup (by walk_at "ea") (by walk_at "sc"))
  | ((with_reducible show EvD _ _ (tLst _) _ _ _ _); exact ev_lst (by walk_at "ea") (by walk_at "sc"))
  | ((with_reducible show EvD _ _ (tSl _ _ _ _) _ _ _ _); first | exact xSlL (by walk_at "ev") (by walk_at "eo") (by walk_at "eo") | exact xSlT (by walk_at "ev") (by walk_at "eo") (by walk_at "eo"))
  | ((with_reducible show EvD _ _ (tNotT _ _) _ _ _ _); exact ev_notT (by walk_at "ev") (by walk_at "sc"))
  | ((with_reducible show EvD _ _ (tAndT _ _ _) _ _ _ _); exact ev_andB (by walk_at "ev") (fun hh => by walk_at "ev"))
  | ((with_reducible show EvD _ _ (tOrT _ _ _) _ _ _ _); exact ev_orB (by walk_at "ev") (fun hh => by walk_at "ev")))

local macro_rules | `(tactic| walk_at "ev") => `(tactic| ((with_reducible show EvD _ _ (tCall (sp_is_number _) _ _ _) _ _ _ _); exact ev_is_number (by walk_at "ea")))
local macro_rules | `(tactic| walk_at "ev") => `(tactic| ((with_reducible show EvD _ _ (tCall (sp_is_name _) _ _ _) _ _ _ _); exact ev_is_name (by walk_at "ea") (by walk_at "sc")))
local macro_rules | `(tactic| walk_at "ev") => `(tactic| ((with_reducible show EvD _ _ (tCall (sp_is_octets _) _ _ _) _ _ _ _); exact ev_is_octets (by walk_at "ea") (by walk_at "sc")))
local macro_rules | `(tactic| walk_at "ev") => `(tactic| ((with_reducible show EvD _ _ (tCall (sp_octet_of _) _ _ _) _ _ _ _); exact ev_octet_of (by walk_at "ea") (by walk_at "sc")))
local macro_rules | `(tactic| walk_at "ev") => `(tactic| ((with_reducible show EvD _ _ (tCall (sp_is_deed _) _ _ _) _ _ _ _); exact ev_is_deed (by walk_at "ea") (by walk_at "sc")))
local macro_rules | `(tactic| walk_at "ev") => `(tactic| ((with_reducible show EvD _ _ (tCall (sp_rest_in _) _ _ _) _ _ _ _); exact ev_rest_in (by walk_at "ea") (by walk_at "sc")))
local macro_rules | `(tactic| walk_at "ev") => `(tactic| ((with_reducible show EvD _ _ (tCall (sp_plain_deed _) _ _ _) _ _ _ _); exact ev_plain_deed (by walk_at "ea") (by walk_at "sc")))
local macro_rules | `(tactic| walk_at "ev") => `(tactic| ((with_reducible show EvD _ _ (tCall (sp_deed_of _) _ _ _) _ _ _ _); exact ev_deed_of (by walk_at "ea") (by walk_at "sc")))
def readL : Nat → List Str → List Deed × Option Nat
  | _, [] => ([], none)
  | k, l :: r => match deedOf (words l) with
    | none => ([], some k)
    | some d => (d :: (readL (k + 1) r).1, (readL (k + 1) r).2)
def readT (s : Str) : List Deed × Option Nat := match readL 1 (lines s).dropLast with
  | (ds, some k) => (ds, some k)
  | (ds, none) => (ds, if (lines s).getLast? = some Str.empty then none else some (lines s).length)
theorem readL_bad : ∀ (ls : List Str) (k i : Nat) (ds : List Deed), (ls.take i).map (fun l => deedOf (words l)) = ds.map some → (∃ l, ls[i]? = some l ∧ deedOf (words l) = none) → readL k ls = (ds, some (k + i))
  | [], k, i, ds, _, ⟨l, h, _⟩ => by simp at h
  | l :: r, k, 0, ds, h, ⟨l', h1, h2⟩ => by
    simp at h1
    subst h1
    cases ds with
    | nil => rw [readL, h2]; rfl
    | cons d ds => simp at h
  | l :: r, k, i + 1, ds, h, ⟨l', h1, h2⟩ => by
    cases ds with
    | nil => simp at h
    | cons d ds =>
      simp only [List.take_succ_cons, List.map_cons, List.cons.injEq] at h
      rw [readL, h.1]
      have ih := readL_bad r (k + 1) i ds h.2 ⟨l', by simpa using h1, h2⟩
      rw [ih]
      show (d :: ds, some (k + 1 + i)) = (d :: ds, some (k + (i + 1)))
      rw [Nat.add_assoc, Nat.add_comm 1 i]
theorem readL_good : ∀ (ls : List Str) (k : Nat) (ds : List Deed), ls.map (fun l => deedOf (words l)) = ds.map some → readL k ls = (ds, none)
  | [], k, ds, h => by cases ds with | nil => rfl | cons d ds => simp at h
  | l :: r, k, ds, h => by
    cases ds with
    | nil => simp at h
    | cons d ds =>
      simp only [List.map_cons, List.cons.injEq] at h
      rw [readL, h.1, readL_good r (k + 1) ds h.2]
theorem readT_bad {s : Str} {ds : List Deed} {k : Nat} (h : readL 1 (lines s).dropLast = (ds, some k)) : readT s = (ds, some k) := by
  show (match readL 1 (lines s).dropLast with | (ds, some k) => (ds, some k) | (ds, none) => _) = _
  rw [h]
theorem readT_good {s : Str} {ds : List Deed} (h : readL 1 (lines s).dropLast = (ds, none)) : readT s = (ds, if (lines s).getLast? = some Str.empty then none else some (lines s).length) := by
  show (match readL 1 (lines s).dropLast with | (ds, some k) => (ds, some k) | (ds, none) => (ds, if (lines s).getLast? = some Str.empty then none else some (lines s).length)) = _
  rw [h]
theorem getD_at {α : Type} {l : List α} {i : Nat} {a : α} (h : i < l.length) : l[i]? = some (l.getD i a) := by
  rw [List.getD_eq_getElem?_getD, List.getElem?_eq_getElem h]; rfl
def numO : Option Nat → PyData
  | some n => .int (n : Int)
  | none => .none
def linesD : PyData → PyData
  | .str s => .tuple [.list ((readT s).1.map progD), numO (readT s).2]
  | _ => .tuple [.list [], .int 0]
def TxtOk : PyData → Prop
  | .str s => TOk s ∧ s.length ≤ 15000
  | _ => True
section
variable {K : PySem.W.Frag} {w : World} {F H F' H' F1 H1 F2 H2 : Hp} {M : List Addr} {σ : L2.St} {te ta tb tc : TE} {tt tu : TT} {d x y z : PyData} {r r' : R2} {D : Ends} {tw tz : TS}
theorem st_append {i : Nat} {p : Addr} {vs : List V} (s0 : Same F H) (hσ : σ[i]? = some (some (.ref p))) (hp : H p = some (.lst vs)) (hl : vs.length ≤ 1000000) (h : EvD K [] te σ F H d) (k : ∀ F1 H1 v, Sx [] F H F1 H1 → H1 p = some (.lst vs) → Rp K F1 v d → D.nx σ (upd H1 p (.lst (vs ++ [v])))) : tDrop (tBM K "list" rAppend (tVar i) (tCons te tNil)) D σ H :=
  ⟨.ref p, hσ, .inl ⟨rfl, vs, .inl (.inl hp)⟩, h F H (Sx.refl s0) _ fun F1 H1 v s rv => ⟨p, vs, v, rfl, rfl, s.hh _ _ (by simp) hp, Nat.lt_of_le_of_lt hl (by decide), k F1 H1 v s (s.hh _ _ (by simp) hp) rv⟩⟩
theorem ev_row1 {ds : List PyData} {k : Nat} (h : EvD K M te σ F H (.tuple ds)) (hk : ds[k]? = some x) : EvD K M (tOp (rIx K) te (tC (.int (k : Int)))) σ F H x := ev_ixRow (d := .tuple ds) h rfl hk
theorem last_empty {s : Str} {l : Str} (h : (lines s).getLast? = some l) : decide (l = Str.empty) = decide ((lines s).getLast? = some Str.empty) := decide_eq_decide.mpr (by rw [h]; simp)
def sp_lines_read (K : PySem.W.Frag) : Sp := spP K (fun i : (PyData) => (fun (d : PyData) => ([d] : List PyData)) i) (fun i => (fun (d : PyData) => (linesD d : PyData)) i) (fun i => (fun (d : PyData) => (TxtOk d : Prop)) i)
theorem ev_lines_read {K : PySem.W.Frag} {M : List Addr} {σ : L2.St} {F H : Hp} {ta : TA} {E : XK} {d : PyData} (h : EvA K M ta σ F H [d]) (hp : TxtOk d) : EvD K M (tCall (sp_lines_read K) [] E ta) σ F H (linesD d) := ev_call (d) h hp
local macro_rules | `(tactic| walk_at "ev") => `(tactic| ((with_reducible show EvD _ _ (tCall (sp_lines_read _) _ _ _) _ _ _ _); exact ev_lines_read (by walk_at "ea") (by walk_at "sc")))
abbrev N_lines_read : List Str := ["text", "found", "lines", "number", "line", "deed"]
def t_lines_read (K : PySem.W.Frag) : TS :=
  (tSeq (tAsg (tLst tNil) (gName 1))
  (tSeq (tIfS (tNot (tTru K (tIs K (tVar 0) "str")))
   (tRet (tTup (tCons (tVar 1) (tCons (tC (.int 0)) tNil))))
   tNext)
  (tSeq (tAsg (tM1 rSplit (tVar 0) (tC (.str "\n"))) (gName 2))
  (tSeq (tFor (iEnumK K (tCons (tSl (rSlU K) (tVar 2) tNoPart (tPart (tUn rNegI (tC (.int 1))))) (tCons (tC (.int 1)) tNil))) (gTup K 2 (gCons (gName 3) (gCons (gName 4) gNil)))
   (tSeq (tAsg (tCall (sp_deed_of K) [] E0 (tCons (tVar 4) tNil)) (gName 5))
    (tSeq (tIfS (tTest (tOp rIsN (tVar 5) (tC (.non))))
     (tRet (tTup (tCons (tVar 1) (tCons (tVar 3) tNil))))
     tNext)
    (tDrop (tBM K "list" rAppend (tVar 1) (tCons (tVar 5) tNil))))))
  (tRet (tTup (tCons (tVar 1) (tCons (tIf (tTest (tOp (rEqD K) (tOp (rIx K) (tVar 2) (tUn rNegI (tC (.int 1)))) (tC (.str "")))) (tC (.non)) (tCB (rLen K) (tCons (tVar 2) tNil))) tNil))))))))
theorem rd_lines_read' {K : PySem.W.Frag} {F H : Hp} (d : PyData) {vs : List V} (e : Same F H) (rs : RpAll K F vs [d]) (hp : TxtOk d) (D : Ends) (hn : ∀ σ H', D.nx σ H' = D.rt .non H') (q : ∀ F' H' v, Sx [] F H F' H' → Rp K F' v (linesD d) → D.rt v H') : t_lines_read K D (L2.start N_lines_read vs) H := by
  obtain ⟨v, rfl, h1⟩ := rs.inv1
  refine q_setN (K := K) (M := []) e (en_lst ea_nil (by decide)) fun F1 H1 p vs0 s1 np0 np1 hp1 r0 => ?_
  cases r0
  have q1 := h1.mono s1.ff
  have frz : ∀ {F' H' : Hp} {vs : List V} {ds : List PyData}, Sx [] F H F' H' → F' p = none → H' p = some (.lst vs) → RpAll K F' vs ds → Sx [] F H (upd F' p (.lst vs)) H' ∧ Rp K (upd F' p (.lst vs)) (.ref p) (.list ds) := fun s n hp r => ⟨Sx.fix s np0 hp n, .lst upd_same (r.mono (fix_same n))⟩
  have no : ∀ (tw : TS) (t : String), typeD d = t → kitB t "str" = some false → linesD d = .tuple [.list [], .int 0] → (tSeq (tIfS (tNot (tTru K (tIs K (tVar 0) "str"))) (tRet (tTup (tCons (tVar 1) (tCons (tC (.int 0)) tNil)))) tNext) tw) D [some v, some (.ref p), none, none, none, none] H1 := fun tw t ht hk hd => by
    refine q_when (K := K) (M := []) (b := true) s1.fh (et_not (xTru (xIs t (d := d) (ev_var rfl q1) ht hk) rfl)) (fun _ F2 H2 s2 => ?_) fun z => absurd z (by decide)
    have n2 := s2.sep _ np1 (by rw [hp1]; simp)
    have hp2 := s2.hh _ _ (by simp) hp1
    obtain ⟨s3, rp⟩ := frz (ds := []) (s1.trans s2) n2 hp2 .nil
    refine st_ret (K := K) (M := []) (d := .tuple [.list [], .int 0]) s3.fh (ev_tup (ea_cons (ev_var rfl rp) (ea_cons ev_int ea_nil)) (by simp)) fun F4 H4 u s4 ru => q _ _ _ (s3.trans s4) (by rw [hd]; exact ru)
  cases d with
  | none => exact no _ "NoneType" rfl (by decide +kernel) rfl
  | bool b => exact no _ "bool" rfl (by decide +kernel) rfl
  | int b => exact no _ "int" rfl (by decide +kernel) rfl
  | list b => exact no _ "list" rfl (by decide +kernel) rfl
  | tuple b => exact no _ "tuple" rfl (by decide +kernel) rfl
  | dict b => exact no _ "dict" rfl (by decide +kernel) rfl
  | str s =>
    obtain ⟨hs, hsl⟩ : TOk s ∧ s.length ≤ 15000 := hp
    have hll := lines_len s
    refine q_when (K := K) (M := []) (b := false) s1.fh (et_not (a := true) (xTru (xIs "str" (d := .str s) (ev_var rfl q1) rfl (by decide +kernel)) rfl)) (fun z => absurd z (by decide)) fun _ F2 H2 s2 => ?_
    refine q_set (K := K) (M := []) (d := .list ((lines s).map .str)) s2.fh (EvN.ev (xSplit (ev_var rfl (q1.mono s2.ff)) ev_str hs.2 (by decide +kernel))) fun F3 H3 v2 s3 r2 => ?_
    have s13 := (s1.trans s2).trans s3
    have s23 := s2.trans s3
    have n3 := s23.sep _ np1 (by rw [hp1]; simp)
    have hp3 := s23.hh _ _ (by simp) hp1
    have hdl : ∀ i, i < (lines s).dropLast.length → ((lines s).dropLast.map PyData.str)[i]? = some (PyData.str ((lines s).dropLast.getD i Str.empty)) := fun i hi => by rw [List.getElem?_map, getD_at (a := Str.empty) hi]; rfl
    have hlen : (lines s).dropLast.length ≤ 20000 := by rw [List.length_dropLast]; omega
    refine q_forW (K := K) (M := [p]) (lines s).dropLast.length (fun i => .tuple [.int (1 + (i : Nat)), .str ((lines s).dropLast.getD i Str.empty)]) (fun i => Nm2 K 3 4 (.int (1 + (i : Nat))) (.str ((lines s).dropLast.getD i Str.empty)))
      (fun i σ' F' H' => ∃ (vs : List V) (ds : List Deed) (w3 w4 w5 : Option V), Sx [] F H F' H' ∧ F' p = none ∧ H' p = some (.lst vs) ∧ RpAll K F' vs (ds.map progD) ∧ ((lines s).dropLast.take i).map (fun l => deedOf (words l)) = ds.map some ∧ Rp K F' v2 (.list ((lines s).map .str)) ∧ σ' = [some v, some (.ref p), some v2, w3, w4, w5])
      s3.fh (ew_enumKL (ea_cons (xInitL (ev_var rfl r2) (eo_some (ev_un ev_int xNeg))) (ea_cons ev_int ea_nil)) (by decide) (by rw [List.length_map]) (fun i hi => hdl i hi)) (fun _ _ => tg_nm2) (fun F4 H4 s4 => ?_) (fun F4 H4 s4 i σ' F' H' F'' H'' σ'' hi s' hI s'' hσ => ?_) (fun σ' F' H' s' hI => ?_)
    · exact ⟨[], [], none, none, none, s13.trans s4, s4.sep _ n3 (by rw [hp3]; simp), s4.hh _ _ (by simp) hp3, .nil, by simp, r2.mono s4.ff, rfl⟩
    · obtain ⟨vs, ds, w3, w4, w5, s0, n', hp', rds, hds, rv2, rfl⟩ := hI
      obtain ⟨a, b, ra, rb, rfl⟩ := hσ
      cases ra.int_of
      have s0' := s0.trans s''
      have n'' := s''.sep _ n' (by rw [hp']; simp)
      have hp'' := s''.hh _ _ (by simp) hp'
      have hgi : (lines s).dropLast[i]? = some ((lines s).dropLast.getD i Str.empty) := getD_at hi
      generalize hL : (lines s).dropLast.getD i Str.empty = L at rb hgi
      have hmem : L ∈ lines s := (List.dropLast_sublist _).subset (List.mem_of_getElem? hgi)
      have hLok := line_ok hs hmem
      have hLl := (line_in hmem).2
      refine q_set (K := K) (M := []) (d := optP progD (deedOf (words L))) s''.fh (EvD.is (ev_deed_of (ea_cons (ev_var rfl rb) ea_nil) ⟨hLok, by omega⟩) (dlD_is (by have := words_len L; omega))) fun F5 H5 v5 s5 r5 => ?_
      have n5 := s5.sep _ n'' (by rw [hp'']; simp)
      have hp5 := s5.hh _ _ (by simp) hp''
      have rd5 := (rds.mono s''.ff).mono s5.ff
      have hnon : isNon (optP progD (deedOf (words L))) = (deedOf (words L)).isNone := by
        cases h : deedOf (words L) with
        | none => rfl
        | some d => cases d <;> rfl
      refine q_when (K := K) (M := []) (b := isNon (optP progD (deedOf (words L)))) s5.fh (et_test (ev_op (ev_var rfl r5) ev_non xIsN)) (fun hb F6 H6 s6 => ?_) (fun hb F6 H6 s6 => ?_)
      · rw [hnon] at hb
        have hnone : deedOf (words L) = none := by simpa using hb
        have n6 := s6.sep _ n5 (by rw [hp5]; simp)
        have hp6 := s6.hh _ _ (by simp) hp5
        obtain ⟨s7, rp⟩ := frz ((s0'.trans s5).trans s6) n6 hp6 (rd5.mono s6.ff)
        refine st_ret (K := K) (M := []) (d := .tuple [.list (ds.map progD), .int (1 + (i : Nat))]) s7.fh (ev_tup (ea_cons (ev_var rfl rp) (ea_cons (ev_var rfl (.int _)) ea_nil)) (by simp)) fun F8 H8 u s8 ru => q _ _ _ (s7.trans s8) ?_
        have : linesD (.str s) = .tuple [.list (ds.map progD), .int (1 + (i : Nat))] := by
          show PyData.tuple [.list ((readT s).1.map progD), numO (readT s).2] = _
          rw [readT_bad (readL_bad _ 1 i ds hds ⟨L, hgi, hnone⟩)]
          show PyData.tuple [_, .int ((1 + i : Nat) : Int)] = _
          rw [Int.natCast_add]; rfl
        rw [this]; exact ru
      · rw [hnon] at hb
        cases hdo : deedOf (words L) with
        | none => rw [hdo] at hb; cases hb
        | some dd =>
          rw [hdo] at r5
          have n6 := s6.sep _ n5 (by rw [hp5]; simp)
          have hp6 := s6.hh _ _ (by simp) hp5
          have hvl : vs.length ≤ 1000000 := by
            have e1 := congrArg List.length hds
            rw [List.length_map, List.length_map, List.length_take] at e1
            rw [rds.length, List.length_map]
            omega
          refine st_append s6.fh rfl hp6 hvl (ev_var rfl (r5.mono s6.ff)) fun F7 H7 v7 s7 hp7 r7 => ?_
          have n7 := s7.sep _ n6 (by rw [hp6]; simp)
          have sA := ((s0'.trans s5).trans s6).trans s7
          have sB : Sx [p] F4 H4 F7 H7 := s'.trans (((s''.trans s5).trans s6).trans s7).up
          refine ⟨F7, Sx.put sB _ (.inl (by simp)) n7, vs ++ [v7], ds ++ [dd], _, _, _, Sx.put sA _ (.inr np0) n7, n7, upd_same, ?_, ?_, (((rv2.mono s''.ff).mono s5.ff).mono s6.ff).mono s7.ff, rfl⟩
          · rw [List.map_append]
            exact ((rd5.mono s6.ff).mono s7.ff).append (.one r7)
          · rw [List.take_add_one, hgi, List.map_append, hds, List.map_append]
            show _ ++ [deedOf (words L)] = _
            rw [hdo]; rfl
    · obtain ⟨vs, ds, w3, w4, w5, s0, n', hp', rds, hds, rv2, rfl⟩ := hI
      rw [List.take_length] at hds
      have hne := lines_ne s
      have hlast : (lines s).getLast? = some ((lines s).getLast hne) := List.getLast?_eq_getLast hne
      obtain ⟨s7, rp⟩ := frz s0 n' hp' rds
      have hff := s7.ff
      have rv3 : Rp K (upd F' p (.lst vs)) v2 (.list ((lines s).map .str)) := rv2.mono (fix_same n')
      have hlo : TOk ((lines s).getLast hne) := line_ok hs (List.getLast_mem hne)
      refine st_ret (K := K) (M := []) (d := linesD (.str s)) s7.fh (EvD.is (ev_tup (ea_cons (ev_var rfl rp) (ea_cons (ev_if (z := numO (if (lines s).getLast? = some Str.empty then none else some (lines s).length)) (b := decide ((lines s).getLast hne = Str.empty)) (et_test (ev_op (ev_op (ev_var rfl rv3) (ev_un ev_int xNeg) (rv_ixl (atI_last1 (f := PyData.str) hlast))) ev_str (xEqS hlo.1 (by decide +kernel)))) (fun h => ?_) (fun h => ?_)) ea_nil)) (by simp)) ?_) fun F8 H8 u s8 ru => q _ _ _ (s7.trans s8) ru
      · rw [if_pos (by rw [hlast, of_decide_eq_true h])]
        exact ev_non
      · rw [if_neg (by rw [hlast]; intro z; exact (of_decide_eq_false h) (Option.some.inj z))]
        exact EvD.is (ev_cb (ea_cons (ev_var rfl rv3) ea_nil) xLenL) (by rw [List.length_map]; rfl)
      · show _ = PyData.tuple [.list ((readT s).1.map progD), numO (readT s).2]
        rw [readT_good (readL_good _ 1 ds hds)]
def faultD : PyData → PyData
  | .str s => numO (readT s).2
  | _ => .int 0
def sp_deeds_fault (K : PySem.W.Frag) : Sp := spP K (fun i : (PyData) => (fun (d : PyData) => ([d] : List PyData)) i) (fun i => (fun (d : PyData) => (faultD d : PyData)) i) (fun i => (fun (d : PyData) => (TxtOk d : Prop)) i)
theorem ev_deeds_fault {K : PySem.W.Frag} {M : List Addr} {σ : L2.St} {F H : Hp} {ta : TA} {E : XK} {d : PyData} (h : EvA K M ta σ F H [d]) (hp : TxtOk d) : EvD K M (tCall (sp_deeds_fault K) [] E ta) σ F H (faultD d) := ev_call (d) h hp
local macro_rules | `(tactic| walk_at "ev") => `(tactic| ((with_reducible show EvD _ _ (tCall (sp_deeds_fault _) _ _ _) _ _ _ _); exact ev_deeds_fault (by walk_at "ea") (by walk_at "sc")))
abbrev N_deeds_fault : List Str := ["text"]
def t_deeds_fault (K : PySem.W.Frag) : TS :=
  (tRet (tOp (rIx K) (tCall (sp_lines_read K) [] E0 (tCons (tVar 0) tNil)) (tC (.int 1))))
theorem rd_deeds_fault' {K : PySem.W.Frag} {F H : Hp} (d : PyData) {vs : List V} (e : Same F H) (rs : RpAll K F vs [d]) (hp : TxtOk d) (D : Ends) (hn : ∀ σ H', D.nx σ H' = D.rt .non H') (q : ∀ F' H' v, Sx [] F H F' H' → Rp K F' v (faultD d) → D.rt v H') : t_deeds_fault K D (L2.start N_deeds_fault vs) H := by
  obtain ⟨v, rfl, h1⟩ := rs.inv1
  have hl : ∃ l, linesD d = .tuple [.list l, faultD d] := by cases d <;> exact ⟨_, rfl⟩
  obtain ⟨l, hl⟩ := hl
  exact st_ret (K := K) (M := []) (d := faultD d) e (ev_row1 (k := 1) (EvD.is (ev_lines_read (ea_cons (ev_var rfl h1) ea_nil) hp) hl) rfl) fun F1 H1 u s1 ru => q _ _ _ s1 ru
end
end Sf

/-! texts of deeds, line by line: the law's own reading -/
namespace Sf
open PySem L2 RZ TL
/-! evaluation, construct by construct -/
local macro_rules | `(tactic| walk_at "rp") => `(tactic| first | assumption | exact .int _ | exact .bl _ | exact .str _ | exact .non | exact Rp.mono (Sx.ff (by assumption)) (by walk_at "rp"))
local macro_rules | `(tactic| walk_at "sc") => `(tactic| first | rfl | assumption | omega | decide | (simp; done) | (simp; omega))
local macro_rules | `(tactic| walk_at "ix") => `(tactic| first | rfl | assumption)
local macro_rules | `(tactic| walk_at "rv") => `(tactic| first
  | exact xAddI | exact xSub | exact xLt | exact xLe | exact xGt | exact xGe | exact xIsN | exact xNotN | exact xEqI | exact xNeI | exact xEqB | exact xNeB | exact xEqLB | exact xEqTB | exact xNeTB
  | exact xMod (by walk_at "sc")
  | exact xDiv (by walk_at "sc")
  | exact xPow (by walk_at "sc")
  | exact xMulI (by walk_at "sc")
  | exact rv_ixt (by walk_at "ix")
  | exact rv_ixl (by walk_at "ix")
  | exact xAddL (by walk_at "sc")
  | exact xAddT (by walk_at "sc"))
local macro_rules | `(tactic| walk_at "rc") => `(tactic| first | exact xLenL | exact xLenT | exact xListL | exact xListT | exact xTupL | exact xTupT | exact xMax2 | exact xInt | exact rc_all | exact rc_any)
local macro_rules | `(tactic| walk_at "ea") => `(tactic| first | exact ea_nil | refine ea_cons (by walk_at "ev") (by walk_at "ea"))
local macro_rules | `(tactic| walk_at "eo") => `(tactic| first | exact eo_none | refine eo_some (by walk_at "ev"))
local macro_rules | `(tactic| walk_at "et") => `(tactic| first
  | ((with_reducible show EvT _ _ (tTest _) _ _ _ _); exact et_test (by walk_at "ev"))
  | ((with_reducible show EvT _ _ (tNot _) _ _ _ _); exact et_not (by walk_at "et"))
  | ((with_reducible show EvT _ _ (tAnd _ _) _ _ _ _); exact et_and (by walk_at "et") (fun hh => by walk_at "et"))
  | ((with_reducible show EvT _ _ (tOr _ _) _ _ _ _); exact et_or (by walk_at "et") (fun hh => by walk_at "et"))
  | ((with_reducible show EvT _ _ (tTru _ _) _ _ _ _); exact xTru (by walk_at "ev") (by walk_at "sc"))
  | ((with_reducible show EvT _ _ tYes _ _ _ _); exact et_yes))
local macro_rules | `(tactic| walk_at "ev") => `(tactic| first
  | ((with_reducible show EvD _ _ (tC _) _ _ _ _); first | exact ev_int | exact ev_bl | exact ev_str | exact ev_non)
  | ((with_reducible show EvD _ _ (tVar _) _ _ _ _); exact ev_var (by rfl) (by walk_at "rp"))
  | ((with_reducible show EvD _ _ (tOp _ _ _) _ _ _ _); exact ev_op (by walk_at "ev") (by walk_at "ev") (by walk_at "rv"))
  | ((with_reducible show EvD _ _ (tUn _ _) _ _ _ _); exact ev_un (by walk_at "ev") xNeg)
  | ((with_reducible show EvD _ _ (tCB _ _) _ _ _ _); exact ev_cb (by walk_at "ea") (by walk_at "rc"))
  | ((with_reducible show EvD _ _ (tTup _) _ _ _ _); exact ev_tup (by walk_at "ea") (by walk_at "sc"))
  | ((with_reducible show EvD _ _ (tLst _) _ _ _ _); exact ev_lst (by walk_at "ea") (by walk_at "sc"))
  | ((with_reducible show EvD _ _ (tSl _ _ _ _) _ _ _ _); first | exact xSlL (by walk_at "ev") (by walk_at "eo") (by walk_at "eo") | exact xSlT (by walk_at "ev") (by walk_at "eo") (by walk_at "eo"))
  | ((with_reducible show EvD _ _ (tNotT _ _) _ _ _ _); exact ev_notT (by walk_at "ev") (by walk_at "sc"))
  | ((with_reducible show EvD _ _ (tAndT _ _ _) _ _ _ _); exact ev_andB (by walk_at "ev") (fun hh => by walk_at "ev"))
  | ((with_reducible show EvD _ _ (tOrT _ _ _) _ _ _ _); exact ev_orB (by walk_at "ev") (fun hh => by walk_at "ev")))

local macro_rules | `(tactic| walk_at "ev") => `(tactic| ((with_reducible show EvD _ _ (tCall (sp_is_number _) _ _ _) _ _ _ _); exact ev_is_number (by walk_at "ea")))
local macro_rules | `(tactic| walk_at "ev") => `(tactic| ((with_reducible show EvD _ _ (tCall (sp_is_name _) _ _ _) _ _ _ _); exact ev_is_name (by walk_at "ea") (by walk_at "sc")))
local macro_rules | `(tactic| walk_at "ev") => `(tactic| ((with_reducible show EvD _ _ (tCall (sp_is_octets _) _ _ _) _ _ _ _); exact ev_is_octets (by walk_at "ea") (by walk_at "sc")))
local macro_rules | `(tactic| walk_at "ev") => `(tactic| ((with_reducible show EvD _ _ (tCall (sp_octet_of _) _ _ _) _ _ _ _); exact ev_octet_of (by walk_at "ea") (by walk_at "sc")))
local macro_rules | `(tactic| walk_at "ev") => `(tactic| ((with_reducible show EvD _ _ (tCall (sp_is_deed _) _ _ _) _ _ _ _); exact ev_is_deed (by walk_at "ea") (by walk_at "sc")))
local macro_rules | `(tactic| walk_at "ev") => `(tactic| ((with_reducible show EvD _ _ (tCall (sp_rest_in _) _ _ _) _ _ _ _); exact ev_rest_in (by walk_at "ea") (by walk_at "sc")))
local macro_rules | `(tactic| walk_at "ev") => `(tactic| ((with_reducible show EvD _ _ (tCall (sp_plain_deed _) _ _ _) _ _ _ _); exact ev_plain_deed (by walk_at "ea") (by walk_at "sc")))
local macro_rules | `(tactic| walk_at "ev") => `(tactic| ((with_reducible show EvD _ _ (tCall (sp_deed_of _) _ _ _) _ _ _ _); exact ev_deed_of (by walk_at "ea") (by walk_at "sc")))
local macro_rules | `(tactic| walk_at "ev") => `(tactic| ((with_reducible show EvD _ _ (tCall (sp_lines_read _) _ _ _) _ _ _ _); exact ev_lines_read (by walk_at "ea") (by walk_at "sc")))
local macro_rules | `(tactic| walk_at "ev") => `(tactic| ((with_reducible show EvD _ _ (tCall (sp_deeds_fault _) _ _ _) _ _ _ _); exact ev_deeds_fault (by walk_at "ea") (by walk_at "sc")))
theorem keys_split : Txt.split "signs kind filter from to height start at read when nought above up down write same go end pipe then" " " = keyWords := by decide +kernel
section
variable {K : PySem.W.Frag} {w : World} {F H F' H' F1 H1 F2 H2 : Hp} {M : List Addr} {σ : L2.St} {te ta tb tc : TE} {tt tu : TT} {d x y z : PyData} {r r' : R2} {D : Ends} {tw tz : TS}
def sp_law_kkeys (K : PySem.W.Frag) : Sp := spP K (fun i : (Unit) => (fun (u : Unit) => ([] : List PyData)) i) (fun i => (fun (u : Unit) => (.list (keyWords.map .str) : PyData)) i) (fun i => (fun (u : Unit) => (True : Prop)) i)
theorem ev_law_kkeys {K : PySem.W.Frag} {M : List Addr} {σ : L2.St} {F H : Hp} {ta : TA} {E : XK} {u : Unit} (h : EvA K M ta σ F H []) : EvD K M (tCall (sp_law_kkeys K) [] E ta) σ F H (.list (keyWords.map .str)) := ev_call (u) h trivial
local macro_rules | `(tactic| walk_at "ev") => `(tactic| ((with_reducible show EvD _ _ (tCall (sp_law_kkeys _) _ _ _) _ _ _ _); exact ev_law_kkeys (by walk_at "ea")))
abbrev N_law_kkeys : List Str := ["keys"]
def t_law_kkeys (K : PySem.W.Frag) : TS :=
  (tSeq (tAsg (tC (.str "signs kind filter from to height start at read when nought above up down write same go end pipe then")) (gName 0))
  (tRet (tM1 rSplit (tVar 0) (tC (.str " ")))))
theorem rd_law_kkeys' {K : PySem.W.Frag} {F H : Hp} (u : Unit) {vs : List V} (e : Same F H) (rs : RpAll K F vs []) (hp : True) (D : Ends) (hn : ∀ σ H', D.nx σ H' = D.rt .non H') (q : ∀ F' H' v, Sx [] F H F' H' → Rp K F' v (.list (keyWords.map .str)) → D.rt v H') : t_law_kkeys K D (L2.start N_law_kkeys vs) H := by
  cases rs
  refine q_set (K := K) (M := []) (d := .str "signs kind filter from to height start at read when nought above up down write same go end pipe then") e ev_str fun F1 H1 v1 s1 r1 => ?_
  refine st_ret (K := K) (M := []) (d := .list (keyWords.map .str)) s1.fh (EvD.is (EvN.ev (xSplit (ev_var rfl r1) ev_str (by decide +kernel) (by decide +kernel))) (by rw [keys_split])) fun F2 H2 u s2 ru => q _ _ _ (s1.trans s2) ru
def sp_law_vname (K : PySem.W.Frag) : Sp := spP K (fun i : (Str) => (fun (s : Str) => ([.str s] : List PyData)) i) (fun i => (fun (s : Str) => (.bool (isNm s) : PyData)) i) (fun i => (fun (s : Str) => (TOk s : Prop)) i)
theorem ev_law_vname {K : PySem.W.Frag} {M : List Addr} {σ : L2.St} {F H : Hp} {ta : TA} {E : XK} {s : Str} (h : EvA K M ta σ F H [.str s]) (hp : TOk s) : EvD K M (tCall (sp_law_vname K) [] E ta) σ F H (.bool (isNm s)) := ev_call (s) h hp
local macro_rules | `(tactic| walk_at "ev") => `(tactic| ((with_reducible show EvD _ _ (tCall (sp_law_vname _) _ _ _) _ _ _ _); exact ev_law_vname (by walk_at "ea") (by walk_at "sc")))
abbrev N_law_vname : List Str := ["word", "letters", "good", "sign"]
def t_law_vname (K : PySem.W.Frag) : TS :=
  (tSeq (tAsg (tC (.str "abcdefghijklmnopqrstuvwxyz")) (gName 1))
  (tSeq (tAsg (tAndT K (tChain rLeI rLeI (tC (.int 1)) (tCB (rLen K) (tCons (tVar 0) tNil)) (tC (.int 8))) (tAndT K (tOp rInSign (tOp (rIx K) (tVar 0) (tC (.int 0))) (tVar 1)) (tOp (rEqD K) (tLc (iStr (tVar 0)) (gName 3) (tTest (tOp rNotInSign (tVar 3) (tOp rAddS (tVar 1) (tC (.str "0123456789"))))) (tVar 3) [3]) (tLst tNil)))) (gName 2))
  (tRet (tAndT K (tVar 2) (tOp (rIn K true) (tVar 0) (tCall (sp_law_kkeys K) [] E0 tNil))))))
theorem rd_law_vname' {K : PySem.W.Frag} {F H : Hp} (s : Str) {vs : List V} (e : Same F H) (rs : RpAll K F vs [.str s]) (hp : TOk s) (D : Ends) (hn : ∀ σ H', D.nx σ H' = D.rt .non H') (q : ∀ F' H' v, Sx [] F H F' H' → Rp K F' v (.bool (isNm s)) → D.rt v H') : t_law_vname K D (L2.start N_law_vname vs) H := by
  obtain ⟨v, rfl, h1⟩ := rs.inv1
  obtain ⟨hs, hl⟩ := hp
  refine q_set (K := K) (M := []) (d := .str lets) e ev_str fun F1 H1 v1 s1 r1 => ?_
  have q1 := h1.mono s1.ff
  refine q_set (K := K) (M := []) (d := .bool ((decide ((1 : Int) ≤ (s.length : Int)) && decide ((s.length : Int) ≤ 8)) && (decide ((tl s).getD 0 0 ∈ tl lets) && (tl s).all fun c => !!decide (c ∈ tl (lets ++ figs))))) s1.fh (ev_andB (ev_chain (x := .int 1) (y := .int (s.length : Int)) (w := .int 8) ev_int (ev_cb (ea_cons (ev_var rfl q1) ea_nil) (xLenS hl)) xLe (fun _ => ev_int) fun _ => xLe) fun hlen =>
    ev_andB (ev_op (ev_op (ev_var rfl q1) ev_int (xIxS (first_sign (by simp at hlen; omega)) hl)) (ev_var rfl r1) xInSign) fun _ =>
    EvD.is (ev_op (EvN.ev (en_signs (p := fun c => !decide (c ∈ tl (lets ++ figs))) (ev_var rfl q1) hl (fun _ => rfl) (fun _ => rfl) fun c F3 H3 v rv s3 => et_test (ev_op (ev_var rfl rv) (ev_op (ev_var rfl (r1.mono s3.ff)) ev_str (xAddS (by decide))) xNotInSign))) (ev_lst ea_nil (by decide)) (xEqNil (sh_signs hs hl))) (congrArg PyData.bool sgs_nil)) fun F2 H2 v2 s2 r2 => ?_
  refine st_ret (K := K) (M := []) (d := .bool (((decide ((1 : Int) ≤ (s.length : Int)) && decide ((s.length : Int) ≤ 8)) && (decide ((tl s).getD 0 0 ∈ tl lets) && (tl s).all fun c => !!decide (c ∈ tl (lets ++ figs)))) && !decide (s ∈ keyWords))) s2.fh (ev_andB (ev_var rfl r2) fun _ => EvD.is (ev_op (ev_var rfl (q1.mono s2.ff)) (ev_law_kkeys (u := ()) ea_nil) (xInF (neg := true) (ds := keyWords.map .str) rfl strs_flat)) (congrArg PyData.bool (show (!inF _ _) = _ by rw [inF_str]))) fun F3 H3 u s3 ru => q _ _ _ ((s1.trans s2).trans s3) ?_
  have : isNm s = (((decide ((1 : Int) ≤ (s.length : Int)) && decide ((s.length : Int) ≤ 8)) && (decide ((tl s).getD 0 0 ∈ tl lets) && (tl s).all fun c => !!decide (c ∈ tl (lets ++ figs)))) && !decide (s ∈ keyWords)) := by
    have e1 : decide ((1 : Int) ≤ (s.length : Int)) = decide (1 ≤ s.length) := decide_eq_decide.mpr (by omega)
    have e2 : decide ((s.length : Int) ≤ 8) = decide (s.length ≤ 8) := decide_eq_decide.mpr (by omega)
    unfold isNm
    simp only [Bool.not_not]
    rw [e1, e2]
    cases decide (1 ≤ s.length) <;> cases decide (s.length ≤ 8) <;> cases decide (s ∈ keyWords) <;> cases decide ((tl s).getD 0 0 ∈ tl lets) <;> simp
  rw [this]; exact ru
theorem sgs_ne {s : Str} {p : Nat → Bool} : (!((sgs s p).map fun c => PyData.str (sg c)).isEmpty) = !((tl s).all fun c => !p c) := by rw [sgs_nil]
def sp_law_voctet (K : PySem.W.Frag) : Sp := spP K (fun i : (Str) => (fun (s : Str) => ([.str s] : List PyData)) i) (fun i => (fun (s : Str) => (.bool (octN s).isSome : PyData)) i) (fun i => (fun (s : Str) => (TOk s : Prop)) i)
theorem ev_law_voctet {K : PySem.W.Frag} {M : List Addr} {σ : L2.St} {F H : Hp} {ta : TA} {E : XK} {s : Str} (h : EvA K M ta σ F H [.str s]) (hp : TOk s) : EvD K M (tCall (sp_law_voctet K) [] E ta) σ F H (.bool (octN s).isSome) := ev_call (s) h hp
local macro_rules | `(tactic| walk_at "ev") => `(tactic| ((with_reducible show EvD _ _ (tCall (sp_law_voctet _) _ _ _) _ _ _ _); exact ev_law_voctet (by walk_at "ea") (by walk_at "sc")))
abbrev N_law_voctet : List Str := ["word", "sign"]
def t_law_voctet (K : PySem.W.Frag) : TS :=
  (tSeq (tIfS (tOr (tTest (tOp (rEqD K) (tVar 0) (tC (.str "")))) (tOr (tTest (tOp rGtI (tCB (rLen K) (tCons (tVar 0) tNil)) (tC (.int 3)))) (tTest (tOp (rNeD K) (tLc (iStr (tVar 0)) (gName 1) (tTest (tOp rNotInSign (tVar 1) (tC (.str "0123456789")))) (tVar 1) [1]) (tLst tNil)))))
   (tRet (tC (.bl false)))
   tNext)
  (tRet (tAndT K (tOrT K (tOp (rEqD K) (tVar 0) (tC (.str "0"))) (tOp (rNeD K) (tOp (rIx K) (tVar 0) (tC (.int 0))) (tC (.str "0")))) (tOp rLtI (tCB rIntS (tCons (tVar 0) tNil)) (tC (.int 256))))))
theorem rd_law_voctet' {K : PySem.W.Frag} {F H : Hp} (s : Str) {vs : List V} (e : Same F H) (rs : RpAll K F vs [.str s]) (hp : TOk s) (D : Ends) (hn : ∀ σ H', D.nx σ H' = D.rt .non H') (q : ∀ F' H' v, Sx [] F H F' H' → Rp K F' v (.bool (octN s).isSome) → D.rt v H') : t_law_voctet K D (L2.start N_law_voctet vs) H := by
  obtain ⟨v, rfl, h1⟩ := rs.inv1
  obtain ⟨hs, hl⟩ := hp
  have e0 : decide (s = Str.empty) = !decide (1 ≤ s.length) := by
    by_cases h : s = Str.empty
    · subst h; rfl
    · rw [decide_eq_false h]
      have : s.length ≠ 0 := fun z => h (ext_tl (List.eq_nil_of_length_eq_zero (by rw [← len_tl]; exact z)))
      rw [decide_eq_true (by omega)]; rfl
  have e3 : decide ((s.length : Int) > 3) = !decide (s.length ≤ 3) := by
    by_cases h : s.length ≤ 3
    · rw [decide_eq_true h, decide_eq_false (by omega)]; rfl
    · rw [decide_eq_false h, decide_eq_true (by omega)]; rfl
  refine q_when (K := K) (M := []) (b := decide (s = Str.empty) || (decide ((s.length : Int) > 3) || !((tl s).all fun c => !!decide (c ∈ tl figs)))) e (et_or (et_test (ev_op (ev_var rfl h1) ev_str (xEqS hs (by decide +kernel)))) fun _ => et_or (et_test (ev_op (ev_cb (ea_cons (ev_var rfl h1) ea_nil) (xLenS hl)) ev_int xGt)) fun _ =>
    EvT.is (et_test (ev_op (EvN.ev (en_signs (p := fun c => !decide (c ∈ tl figs)) (ev_var rfl h1) hl (fun _ => rfl) (fun _ => rfl) fun c F3 H3 v rv s3 => et_test (ev_op (ev_var rfl rv) ev_str xNotInSign))) (ev_lst ea_nil (by decide)) (xNeNil (sh_signs hs hl)))) sgs_ne) (fun hb F1 H1 s1 => ?_) fun hb F1 H1 s1 => ?_
  · refine st_ret (K := K) (M := []) (d := .bool false) s1.fh ev_bl fun F2 H2 u s2 ru => q _ _ _ (s1.trans s2) ?_
    have : octN s = none := by
      unfold octN canon
      rw [e0, e3] at hb
      simp only [Bool.not_not] at hb
      revert hb
      cases decide (1 ≤ s.length) <;> cases decide (s.length ≤ 3) <;> cases ((tl s).all fun c => decide (c ∈ tl figs)) <;> simp
    rw [this]; exact ru
  · rw [e0, e3] at hb
    simp only [Bool.not_not] at hb
    have h1le : 1 ≤ s.length := by
      by_cases h : 1 ≤ s.length
      · exact h
      · rw [decide_eq_false h] at hb; simp at hb
    have h3le : s.length ≤ 3 := by
      by_cases h : s.length ≤ 3
      · exact h
      · rw [decide_eq_false h] at hb; simp at hb
    have hall : ((tl s).all fun c => decide (c ∈ tl figs)) = true := by
      cases h : ((tl s).all fun c => decide (c ∈ tl figs)) with
      | true => rfl
      | false => rw [h] at hb; simp at hb
    have hcan : canon s = (decide (s = zer) || !decide ((tl s).getD 0 0 = 48)) := by
      unfold canon
      rw [hall, decide_eq_true h1le, decide_eq_true h3le]
      cases decide (s = zer) <;> cases decide ((tl s).getD 0 0 = 48) <;> rfl
    have q1 := h1.mono s1.ff
    have e48 : ∀ c, decide (sg c = zer) = decide (c = 48) := fun c => decide_eq_decide.mpr ⟨fun h => by
      have := congrArg tl h
      have h2 : [c] = [48] := this
      simpa using h2, fun h => by rw [h]; rfl⟩
    have hsg : PyData.strOk (sg ((tl s).getD 0 0)) = true := by
      refine sg_ok hs ?_
      have hpos : 0 < (tl s).length := by rw [← len_tl]; omega
      rw [List.getD_eq_getElem?_getD, List.getElem?_eq_getElem hpos]
      exact List.getElem_mem hpos
    refine st_ret (K := K) (M := []) (d := .bool ((decide (s = zer) || !decide ((tl s).getD 0 0 = 48)) && decide ((valS s : Int) < 256))) s1.fh (ev_andB (ev_orB (ev_op (ev_var rfl q1) ev_str (xEqS hs (by decide +kernel))) fun _ => (ev_op (ev_op (ev_var rfl q1) ev_int (xIxS (first_sign h1le) hl)) ev_str (xNeS hsg (by decide +kernel))).is (congrArg (fun b => PyData.bool (!b)) (e48 _))) fun hc => ev_op (ev_cb (ea_cons (ev_var rfl q1) ea_nil) (xIntS (canon_int (hcan.trans hc)) (by omega))) ev_int xLt) fun F2 H2 u s2 ru => q _ _ _ (s1.trans s2) ?_
    have : (octN s).isSome = ((decide (s = zer) || !decide ((tl s).getD 0 0 = 48)) && decide ((valS s : Int) < 256)) := by
      have e2 : decide ((valS s : Int) < 256) = decide (valS s < 256) := decide_eq_decide.mpr (by omega)
      rw [← hcan, e2]
      unfold octN
      cases canon s <;> cases decide (valS s < 256) <;> rfl
    rw [this]; exact ru
end
end Sf

/-! texts of deeds, line by line: the law's own reading of a line, of a text -/
namespace Sf
open PySem L2 RZ TL
/-! evaluation, construct by construct -/
local macro_rules | `(tactic| walk_at "rp") => `(tactic| first | assumption | exact .int _ | exact .bl _ | exact .str _ | exact .non | exact Rp.mono (Sx.ff (by assumption)) (by walk_at "rp"))
local macro_rules | `(tactic| walk_at "sc") => `(tactic| first | rfl | assumption | omega | decide | (simp; done) | (simp; omega))
local macro_rules | `(tactic| walk_at "ix") => `(tactic| first | rfl | assumption)
local macro_rules | `(tactic| walk_at "rv") => `(tactic| first
  | exact xAddI | exact xSub | exact xLt | exact xLe | exact xGt | exact xGe | exact xIsN | exact xNotN | exact xEqI | exact xNeI | exact xEqB | exact xNeB | exact xEqLB | exact xEqTB | exact xNeTB
  | exact xMod (by walk_at "sc")
  | exact xDiv (by walk_at "sc")
  | exact xPow (by walk_at "sc")
  | exact xMulI (by walk_at "sc")
  | exact rv_ixt (by walk_at "ix")
  | exact rv_ixl (by walk_at "ix")
  | exact xAddL (by walk_at "sc")
  | exact xAddT (by walk_at "sc"))
local macro_rules | `(tactic| walk_at "rc") => `(tactic| first | exact xLenL | exact xLenT | exact xListL | exact xListT | exact xTupL | exact xTupT | exact xMax2 | exact xInt | exact rc_all | exact rc_any)
local macro_rules | `(tactic| walk_at "ea") => `(tactic| first | exact ea_nil | refine ea_cons (by walk_at "ev") (by walk_at "ea"))
local macro_rules | `(tactic| walk_at "eo") => `(tactic| first | exact eo_none | refine eo_some (by walk_at "ev"))
local macro_rules | `(tactic| walk_at "et") => `(tactic| first
  | ((with_reducible show EvT _ _ (tTest _) _ _ _ _); exact et_test (by walk_at "ev"))
  | ((with_reducible show EvT _ _ (tNot _) _ _ _ _); exact et_not (by walk_at "et"))
  | ((with_reducible show EvT _ _ (tAnd _ _) _ _ _ _); exact et_and (by walk_at "et") (fun hh => by walk_at "et"))
  | ((with_reducible show EvT _ _ (tOr _ _) _ _ _ _); exact et_or (by walk_at "et") (fun hh => by walk_at "et"))
  | ((with_reducible show EvT _ _ (tTru _ _) _ _ _ _); exact xTru (by walk_at "ev") (by walk_at "sc"))
  | ((with_reducible show EvT _ _ tYes _ _ _ _); exact et_yes))
local macro_rules | `(tactic| walk_at "ev") => `(tactic| first
  | ((with_reducible show EvD _ _ (tC _) _ _ _ _); first | exact ev_int | exact ev_bl | exact ev_str | exact ev_non)
  | ((with_reducible show EvD _ _ (tVar _) _ _ _ _); exact ev_var (by rfl) (by walk_at "rp"))
  | ((with_reducible show EvD _ _ (tOp _ _ _) _ _ _ _); exact ev_op (by walk_at "ev") (by walk_at "ev") (by walk_at "rv"))
  | ((with_reducible show EvD _ _ (tUn _ _) _ _ _ _); exact ev_un (by walk_at "ev") xNeg)
  | ((with_reducible show EvD _ _ (tCB _ _) _ _ _ _); exact ev_cb (by walk_at "ea") (by walk_at "rc"))
  | ((with_reducible show EvD _ _ (tTup _) _ _ _ _); exact ev_tup (by walk_at "ea") (by walk_at "sc"))
  | ((with_reducible show EvD _ _ (tLst _) _ _ _ _); exact ev_lst (by walk_at "ea") (by walk_at "sc"))
  | ((with_reducible show EvD _ _ (tSl _ _ _ _) _ _ _ _); first | exact xSlL (by walk_at "ev") (by walk_at "eo") (by walk_at "eo") | exact xSlT (by walk_at "ev") (by walk_at "eo") (by walk_at "eo"))
  | ((with_reducible show EvD _ _ (tNotT _ _) _ _ _ _); exact ev_notT (by walk_at "ev") (by walk_at "sc"))
  | ((with_reducible show EvD _ _ (tAndT _ _ _) _ _ _ _); exact ev_andB (by walk_at "ev") (fun hh => by walk_at "ev"))
  | ((with_reducible show EvD _ _ (tOrT _ _ _) _ _ _ _); exact ev_orB (by walk_at "ev") (fun hh => by walk_at "ev")))

local macro_rules | `(tactic| walk_at "ev") => `(tactic| ((with_reducible show EvD _ _ (tCall (sp_is_number _) _ _ _) _ _ _ _); exact ev_is_number (by walk_at "ea")))
local macro_rules | `(tactic| walk_at "ev") => `(tactic| ((with_reducible show EvD _ _ (tCall (sp_is_name _) _ _ _) _ _ _ _); exact ev_is_name (by walk_at "ea") (by walk_at "sc")))
local macro_rules | `(tactic| walk_at "ev") => `(tactic| ((with_reducible show EvD _ _ (tCall (sp_is_octets _) _ _ _) _ _ _ _); exact ev_is_octets (by walk_at "ea") (by walk_at "sc")))
local macro_rules | `(tactic| walk_at "ev") => `(tactic| ((with_reducible show EvD _ _ (tCall (sp_octet_of _) _ _ _) _ _ _ _); exact ev_octet_of (by walk_at "ea") (by walk_at "sc")))
local macro_rules | `(tactic| walk_at "ev") => `(tactic| ((with_reducible show EvD _ _ (tCall (sp_is_deed _) _ _ _) _ _ _ _); exact ev_is_deed (by walk_at "ea") (by walk_at "sc")))
local macro_rules | `(tactic| walk_at "ev") => `(tactic| ((with_reducible show EvD _ _ (tCall (sp_rest_in _) _ _ _) _ _ _ _); exact ev_rest_in (by walk_at "ea") (by walk_at "sc")))
local macro_rules | `(tactic| walk_at "ev") => `(tactic| ((with_reducible show EvD _ _ (tCall (sp_plain_deed _) _ _ _) _ _ _ _); exact ev_plain_deed (by walk_at "ea") (by walk_at "sc")))
local macro_rules | `(tactic| walk_at "ev") => `(tactic| ((with_reducible show EvD _ _ (tCall (sp_deed_of _) _ _ _) _ _ _ _); exact ev_deed_of (by walk_at "ea") (by walk_at "sc")))
local macro_rules | `(tactic| walk_at "ev") => `(tactic| ((with_reducible show EvD _ _ (tCall (sp_lines_read _) _ _ _) _ _ _ _); exact ev_lines_read (by walk_at "ea") (by walk_at "sc")))
local macro_rules | `(tactic| walk_at "ev") => `(tactic| ((with_reducible show EvD _ _ (tCall (sp_deeds_fault _) _ _ _) _ _ _ _); exact ev_deeds_fault (by walk_at "ea") (by walk_at "sc")))
local macro_rules | `(tactic| walk_at "ev") => `(tactic| ((with_reducible show EvD _ _ (tCall (sp_law_kkeys _) _ _ _) _ _ _ _); exact ev_law_kkeys (by walk_at "ea")))
local macro_rules | `(tactic| walk_at "ev") => `(tactic| ((with_reducible show EvD _ _ (tCall (sp_law_vname _) _ _ _) _ _ _ _); exact ev_law_vname (by walk_at "ea") (by walk_at "sc")))
local macro_rules | `(tactic| walk_at "ev") => `(tactic| ((with_reducible show EvD _ _ (tCall (sp_law_voctet _) _ _ _) _ _ _ _); exact ev_law_voctet (by walk_at "ea") (by walk_at "sc")))
def octB : PyData → Bool
  | .str s => (octN s).isSome
  | _ => false
theorem all_octB {r : List Str} : (r.map PyData.str).all octB = (octAll r).isSome := by
  rw [List.all_map]
  induction r with
  | nil => rfl
  | cons s r ih =>
    rw [List.all_cons, ih, octAll]
    show ((octN s).isSome && (octAll r).isSome) = _
    cases octN s <;> cases octAll r <;> rfl
theorem octAll_val {r : List Str} {os : List Nat} (h : octAll r = some os) : os = r.map valS ∧ ∀ s ∈ r, canon s = true := by
  induction r generalizing os with
  | nil => cases h; exact ⟨rfl, by simp⟩
  | cons s r ih =>
    rw [octAll] at h
    cases h1 : octN s with
    | none => rw [h1] at h; cases h
    | some n =>
      cases h2 : octAll r with
      | none => rw [h1, h2] at h; cases h
      | some ns =>
        rw [h1, h2] at h
        cases h
        obtain ⟨e, hc⟩ := ih h2
        obtain ⟨_, _, hc1, hv⟩ := octN_some h1
        exact ⟨by rw [List.map_cons, hv, e], fun z hz => by rcases List.mem_cons.mp hz with rfl | hz; exact hc1; exact hc z hz⟩
section
variable {K : PySem.W.Frag} {w : World} {F H F' H' F1 H1 F2 H2 : Hp} {M : List Addr} {σ : L2.St} {te ta tb tc : TE} {tt tu : TT} {d x y z : PyData} {r r' : R2} {D : Ends} {tw tz : TS}
def sp_law_vline (K : PySem.W.Frag) : Sp := spP K (fun i : (Str) => (fun (s : Str) => ([.str s] : List PyData)) i) (fun i => (fun (s : Str) => (optP lawD (deedOf (words s)) : PyData)) i) (fun i => (fun (s : Str) => (TOk s ∧ s.length ≤ 900000 : Prop)) i)
theorem ev_law_vline {K : PySem.W.Frag} {M : List Addr} {σ : L2.St} {F H : Hp} {ta : TA} {E : XK} {s : Str} (h : EvA K M ta σ F H [.str s]) (hp : TOk s ∧ s.length ≤ 900000) : EvD K M (tCall (sp_law_vline K) [] E ta) σ F H (optP lawD (deedOf (words s))) := ev_call (s) h hp
local macro_rules | `(tactic| walk_at "ev") => `(tactic| ((with_reducible show EvD _ _ (tCall (sp_law_vline _) _ _ _) _ _ _ _); exact ev_law_vline (by walk_at "ea") (by walk_at "sc")))
abbrev N_law_vline : List Str := ["line", "words", "word"]
def t_law_vline (K : PySem.W.Frag) : TS :=
  (tSeq (tAsg (tM1 rSplit (tVar 0) (tC (.str " "))) (gName 1))
  (tSeq (tIfS (tOr (tTest (tOp rLtI (tCB (rLen K) (tCons (tVar 1) tNil)) (tC (.int 2)))) (tNot (tTru K (tCall (sp_law_vname K) [] E0 (tCons (tOp (rIx K) (tVar 1) (tC (.int 1))) tNil)))))
   (tRet (tC (.non)))
   tNext)
  (tSeq (tIfS (tAnd (tTest (tOp (rEqD K) (tOp (rIx K) (tVar 1) (tC (.int 0))) (tC (.str "drop")))) (tTest (tOp (rEqD K) (tCB (rLen K) (tCons (tVar 1) tNil)) (tC (.int 2)))))
   (tRet (tTup (tCons (tC (.str "drop")) (tCons (tOp (rIx K) (tVar 1) (tC (.int 1))) tNil))))
   tNext)
  (tSeq (tIfS (tAnd (tTest (tOp (rEqD K) (tOp (rIx K) (tVar 1) (tC (.int 0))) (tC (.str "chain")))) (tAnd (tTest (tChain rLeI rLeI (tC (.int 3)) (tCB (rLen K) (tCons (tVar 1) tNil)) (tC (.int 6)))) (tTest (tOp (rEqD K) (tLc (iSeq K (tSl (rSlU K) (tVar 1) (tPart (tC (.int 2))) tNoPart)) (gName 2) (tNot (tTru K (tCall (sp_law_vname K) [] E0 (tCons (tVar 2) tNil)))) (tVar 2) [2]) (tLst tNil)))))
   (tRet (tTup (tCons (tC (.str "chain")) (tCons (tOp (rIx K) (tVar 1) (tC (.int 1))) (tCons (tSl (rSlU K) (tVar 1) (tPart (tC (.int 2))) tNoPart) tNil)))))
   tNext)
  (tSeq (tIfS (tAnd (tTest (tOp (rIn K false) (tOp (rIx K) (tVar 1) (tC (.int 0))) (tTup (tCons (tC (.str "put")) (tCons (tC (.str "exchange")) tNil))))) (tAnd (tTest (tOp rLeI (tC (.int 3)) (tCB (rLen K) (tCons (tVar 1) tNil)))) (tTest (tOp (rEqD K) (tLc (iSeq K (tSl (rSlU K) (tVar 1) (tPart (tC (.int 2))) tNoPart)) (gName 2) (tNot (tTru K (tCall (sp_law_voctet K) [] E0 (tCons (tVar 2) tNil)))) (tVar 2) [2]) (tLst tNil)))))
   (tRet (tTup (tCons (tOp (rIx K) (tVar 1) (tC (.int 0))) (tCons (tOp (rIx K) (tVar 1) (tC (.int 1))) (tCons (tLc (iSeq K (tSl (rSlU K) (tVar 1) (tPart (tC (.int 2))) tNoPart)) (gName 2) tYes (tCB rIntS (tCons (tVar 2) tNil)) [2]) tNil)))))
   tNext)
  (tRet (tC (.non))))))))
theorem rd_law_vline' {K : PySem.W.Frag} {F H : Hp} (s : Str) {vs : List V} (e : Same F H) (rs : RpAll K F vs [.str s]) (hp : TOk s ∧ s.length ≤ 900000) (D : Ends) (hn : ∀ σ H', D.nx σ H' = D.rt .non H') (q : ∀ F' H' v, Sx [] F H F' H' → Rp K F' v (optP lawD (deedOf (words s))) → D.rt v H') : t_law_vline K D (L2.start N_law_vline vs) H := by
  obtain ⟨v, rfl, h1⟩ := rs.inv1
  obtain ⟨hs, hl⟩ := hp
  have hws : ∀ p ∈ words s, TOk p := fun p hp => word_ok hs hp
  have hwl := words_len s
  refine q_set (K := K) (M := []) (d := .list ((words s).map .str)) e (EvN.ev (xSplit (ev_var rfl h1) ev_str hs.2 (by decide +kernel))) fun F1 H1 v1 s1 r1 => ?_
  generalize hW : words s = ws at r1 hws hwl ⊢
  have hne : ws ≠ [] := hW ▸ words_ne s
  match ws, hne, hws, hwl, r1 with
  | [w], _, hws, hwl, r1 =>
    have hlen : ∀ {F3 H3 : Hp}, Rp K F3 v1 (.list ([w].map .str)) → EvD K [] (tCB (rLen K) (tCons (tVar 1) tNil)) [some v, some v1, none] F3 H3 (.int (([w] : List Str).length : Int)) := fun rv => (ev_cb (ea_cons (ev_var rfl rv) ea_nil) xLenL).is (by rw [List.length_map])
    refine q_when (K := K) (M := []) (b := decide ((([w] : List Str).length : Int) < 2) || true) s1.fh (et_or (et_test (ev_op (hlen r1) ev_int xLt)) fun z => absurd z (by simp)) (fun _ F2 H2 s2 => ?_) fun z => absurd z (by simp)
    exact st_ret (K := K) (M := []) (d := .none) s2.fh ev_non fun F3 H3 u s3 ru => q _ _ _ ((s1.trans s2).trans s3) (by rw [hW]; exact ru)
  | w :: n :: r, _, hws, hwl, r1 =>
    have hlen : ∀ {F3 H3 : Hp}, Rp K F3 v1 (.list ((w :: n :: r).map .str)) → EvD K [] (tCB (rLen K) (tCons (tVar 1) tNil)) [some v, some v1, none] F3 H3 (.int ((w :: n :: r).length : Int)) := fun rv => (ev_cb (ea_cons (ev_var rfl rv) ea_nil) xLenL).is (by rw [List.length_map])
    have hw : TOk w := hws w (by simp)
    have hn : TOk n := hws n (by simp)
    have hr : ∀ p ∈ r, TOk p := fun p hp => hws p (List.mem_cons_of_mem _ (List.mem_cons_of_mem _ hp))
    have i0 : ∀ {F3 H3 : Hp}, Rp K F3 v1 (.list ((w :: n :: r).map .str)) → EvD K [] (tOp (rIx K) (tVar 1) (tC (.int 0))) [some v, some v1, none] F3 H3 (.str w) := fun rv => ev_ixRow (k := 0) (ev_var rfl rv) rfl rfl
    have i1 : ∀ {F3 H3 : Hp}, Rp K F3 v1 (.list ((w :: n :: r).map .str)) → EvD K [] (tOp (rIx K) (tVar 1) (tC (.int 1))) [some v, some v1, none] F3 H3 (.str n) := fun rv => ev_ixRow (k := 1) (ev_var rfl rv) rfl rfl
    have hsl : ∀ {F3 H3 : Hp}, Rp K F3 v1 (.list ((w :: n :: r).map .str)) → EvD K [] (tSl (rSlU K) (tVar 1) (tPart (tC (.int 2))) tNoPart) [some v, some v1, none] F3 H3 (.list (r.map .str)) := fun rv => xDropL (k := 2) (ev_var rfl rv) (eo_some ev_int)
    have hrl : (r.map PyData.str).length ≤ 1000000 := by rw [List.length_map]; simp at hwl; omega
    refine q_when (K := K) (M := []) (b := decide (((w :: n :: r).length : Int) < 2) || !isNm n) s1.fh (et_or (et_test (ev_op (hlen r1) ev_int xLt)) fun _ => et_not (xTru (ev_law_vname (ea_cons (i1 r1) ea_nil) hn) rfl)) (fun hb F2 H2 s2 => ?_) fun hb F2 H2 s2 => ?_
    · have hnn : isNm n ≠ true := fun h => by rw [h] at hb; simp at hb; omega
      refine st_ret (K := K) (M := []) (d := .none) s2.fh ev_non fun F3 H3 u s3 ru => q _ _ _ ((s1.trans s2).trans s3) ?_
      have : deedOf (w :: n :: r) = none := by
        cases r with
        | nil => show (if w = sDrop ∧ isNm n = true then _ else _) = _; rw [if_neg fun h => hnn h.2]
        | cons a r =>
          rw [deedOf, if_neg hnn]
          intro z; cases z
      rw [hW, this]; exact ru
    have hnn : isNm n = true := by
      cases h : isNm n with
      | true => rfl
      | false => rw [h] at hb; simp at hb
    have r2 := r1.mono s2.ff
    have e3 : decide ((3 : Int) ≤ ((w :: n :: r).length : Int)) = decide (1 ≤ r.length) := decide_eq_decide.mpr (by rw [List.length_cons, List.length_cons]; omega)
    have e6 : decide (((w :: n :: r).length : Int) ≤ 6) = decide (r.length ≤ 4) := decide_eq_decide.mpr (by rw [List.length_cons, List.length_cons]; omega)
    have e2 : decide (((w :: n :: r).length : Int) = 2) = decide (r.length = 0) := decide_eq_decide.mpr (by rw [List.length_cons, List.length_cons]; omega)
    refine q_when (K := K) (M := []) (b := decide (w = sDrop) && decide (r.length = 0)) s2.fh (et_and (et_test (ev_op (i0 r2) ev_str (xEqS hw.1 (by decide +kernel)))) fun _ => EvT.is (et_test (ev_op (hlen r2) ev_int xEqI)) e2) (fun hb F3 H3 s3 => ?_) fun hb1 F3 H3 s3 => ?_
    · simp only [Bool.and_eq_true, decide_eq_true_eq] at hb
      have hr0 : r = [] := List.eq_nil_of_length_eq_zero hb.2
      refine st_ret (K := K) (M := []) (d := .tuple [.str sDrop, .str n]) s3.fh (ev_tup (ea_cons ev_str (ea_cons (i1 (r2.mono s3.ff)) ea_nil)) (by simp)) fun F4 H4 u s4 ru => q _ _ _ (((s1.trans s2).trans s3).trans s4) ?_
      have : deedOf (w :: n :: r) = some (.drop n) := by rw [hr0, deedOf, if_pos ⟨hb.1, hnn⟩]
      rw [hW, this]; exact ru
    have r3 := r2.mono s3.ff
    have s13 := (s1.trans s2).trans s3
    refine q_when (K := K) (M := []) (b := decide (w = sChain) && ((decide ((3 : Int) ≤ ((w :: n :: r).length : Int)) && decide (((w :: n :: r).length : Int) ≤ 6)) && r.all isNm)) s3.fh (et_and (et_test (ev_op (i0 r3) ev_str (xEqS hw.1 (by decide +kernel)))) fun _ => et_and (et_test (ev_chain (x := .int 3) (y := .int ((w :: n :: r).length : Int)) (w := .int 6) ev_int (hlen r3) xLe (fun _ => ev_int) fun _ => xLe)) fun _ =>
      EvT.is (et_test (ev_op (EvN.ev (en_items (fun x => !nmD x) (hsl r3) rfl hrl (fun _ => rfl) (fun _ => rfl) fun x hx F1 H1 v rv s1 => by
        obtain ⟨p, hp, rfl⟩ := List.mem_map.mp hx
        exact et_not (xTru (ev_law_vname (ea_cons (ev_var rfl rv) ea_nil) (hr p hp)) rfl))) (ev_lst ea_nil (by decide)) (xEqNil ((Pt.filt (n := 0) (Pt.strs hr) hrl).shaped (by decide))))) (by rw [filter_none, all_nm])) (fun hb F4 H4 s4 => ?_) fun hb2 F4 H4 s4 => ?_
    · rw [e3, e6] at hb
      simp only [Bool.and_eq_true, decide_eq_true_eq] at hb
      refine st_ret (K := K) (M := []) (d := .tuple [.str sChain, .str n, .list (r.map .str)]) s4.fh (ev_tup (ea_cons ev_str (ea_cons (i1 (r3.mono s4.ff)) (ea_cons (hsl (r3.mono s4.ff)) ea_nil))) (by simp)) fun F5 H5 u s5 ru => q _ _ _ ((s13.trans s4).trans s5) ?_
      have : deedOf (w :: n :: r) = some (.chain n r) := by
        cases r with
        | nil => simp at hb
        | cons a r =>
          rw [deedOf, if_pos hnn, if_pos hb.1, if_pos ⟨hb.2.1.2, hb.2.2⟩]
          intro z; cases z
      rw [hW, this]; exact ru
    have r4 := r3.mono s4.ff
    have hin : inF (.str w) ([sPut, sExch].map .str) = decide (w = sPut ∨ w = sExch) := by
      rw [inF_str]
      exact decide_eq_decide.mpr (by simp)
    refine q_when (K := K) (M := []) (b := decide (w = sPut ∨ w = sExch) && (decide ((3 : Int) ≤ ((w :: n :: r).length : Int)) && (octAll r).isSome)) s4.fh (et_and (EvT.is (et_test (ev_op (i0 r4) (ev_tup (ea_cons ev_str (ea_cons ev_str ea_nil)) (by simp)) (xInFT (neg := false) (ds := [sPut, sExch].map .str) rfl strs_flat))) hin) fun _ => et_and (et_test (ev_op ev_int (hlen r4) xLe)) fun _ =>
      EvT.is (et_test (ev_op (EvN.ev (en_items (fun x => !octB x) (hsl r4) rfl hrl (fun _ => rfl) (fun _ => rfl) fun x hx F1 H1 v rv s1 => by
        obtain ⟨p, hp, rfl⟩ := List.mem_map.mp hx
        exact et_not (xTru (ev_law_voctet (ea_cons (ev_var rfl rv) ea_nil) (hr p hp)) rfl))) (ev_lst ea_nil (by decide)) (xEqNil ((Pt.filt (n := 0) (Pt.strs hr) hrl).shaped (by decide))))) (by rw [filter_none, all_octB])) (fun hb F5 H5 s5 => ?_) fun hb3 F5 H5 s5 => ?_
    · rw [e3] at hb
      simp only [Bool.and_eq_true, decide_eq_true_eq] at hb
      obtain ⟨os, ho⟩ := Option.isSome_iff_exists.mp hb.2.2
      obtain ⟨hos, hcan⟩ := octAll_val ho
      have r5 := r4.mono s5.ff
      refine st_ret (K := K) (M := []) (d := .tuple [.str w, .str n, .list (os.map fun o : Nat => .int (o : Int))]) s5.fh (ev_tup (ea_cons (i0 r5) (ea_cons (i1 r5) (ea_cons (EvD.is (EvN.ev (xLcL (en_lcL r .str (fun p => .int (valS p : Int)) (fun _ => true) (fun p => Nm K 2 (.str p)) (hsl r5) (by rw [List.length_map] at hrl; exact hrl) (fun _ _ => tg_nm) ?_ (fun _ _ _ _ _ _ _ => et_yes) ?_))) ?_) ea_nil))) (by simp)) fun F6 H6 u s6 ru => q _ _ _ (((s13.trans s4).trans s5).trans s6) ?_
      · rintro p _ F1 _ ⟨x, _, rfl⟩; rfl
      · rintro p hp _ F1 H1 _ s1 ⟨x, rx, rfl⟩
        exact ev_cb (ea_cons (ev_var rfl rx) ea_nil) (xIntS (canon_int (hcan p hp)) (by have := (canon_figs (hcan p hp)).1.2; omega))
      · rw [filter_yes, hos, List.map_map]; rfl
      · have : deedOf (w :: n :: r) = some (.octs w n os) := by
          have hne : w ≠ sChain := by rcases hb.1 with z | z <;> rw [z] <;> decide +kernel
          cases r with
          | nil => simp at hb
          | cons a r =>
            rw [deedOf, if_pos hnn, if_neg hne, if_pos hb.1, ho]
            · rfl
            · intro z; cases z
        rw [hW, this]; exact ru
    · refine st_ret (K := K) (M := []) (d := .none) s5.fh ev_non fun F6 H6 u s6 ru => q _ _ _ (((s13.trans s4).trans s5).trans s6) ?_
      rw [e3, e6] at hb2
      rw [e3] at hb3
      have : deedOf (w :: n :: r) = none := by
        cases r with
        | nil =>
          show (if w = sDrop ∧ isNm n = true then _ else _) = _
          rw [if_neg fun h => by rw [h.1] at hb1; simp at hb1]
        | cons a r =>
          rw [deedOf, if_pos hnn]
          · by_cases hc : w = sChain
            · rw [if_pos hc]
              rw [if_neg fun h => by rw [hc, h.2, decide_eq_true h.1] at hb2; simp at hb2]
            · rw [if_neg hc]
              by_cases hpe : w = sPut ∨ w = sExch
              · rw [if_pos hpe]
                cases ho : octAll (a :: r) with
                | none => rfl
                | some os => rw [ho, decide_eq_true hpe] at hb3; simp at hb3
              · rw [if_neg hpe]
          · intro z; cases z
      rw [hW, this]; exact ru
end
end Sf

/-! texts of deeds: the law's first bad line, the law's telling -/
namespace Sf
open PySem L2 RZ TL
/-! evaluation, construct by construct -/
local macro_rules | `(tactic| walk_at "rp") => `(tactic| first | assumption | exact .int _ | exact .bl _ | exact .str _ | exact .non | exact Rp.mono (Sx.ff (by assumption)) (by walk_at "rp"))
local macro_rules | `(tactic| walk_at "sc") => `(tactic| first | rfl | assumption | omega | decide | (simp; done) | (simp; omega))
local macro_rules | `(tactic| walk_at "ix") => `(tactic| first | rfl | assumption)
local macro_rules | `(tactic| walk_at "rv") => `(tactic| first
  | exact xAddI | exact xSub | exact xLt | exact xLe | exact xGt | exact xGe | exact xIsN | exact xNotN | exact xEqI | exact xNeI | exact xEqB | exact xNeB | exact xEqLB | exact xEqTB | exact xNeTB
  | exact xMod (by walk_at "sc")
  | exact xDiv (by walk_at "sc")
  | exact xPow (by walk_at "sc")
  | exact xMulI (by walk_at "sc")
  | exact rv_ixt (by walk_at "ix")
  | exact rv_ixl (by walk_at "ix")
  | exact xAddL (by walk_at "sc")
  | exact xAddT (by walk_at "sc"))
local macro_rules | `(tactic| walk_at "rc") => `(tactic| first | exact xLenL | exact xLenT | exact xListL | exact xListT | exact xTupL | exact xTupT | exact xMax2 | exact xInt | exact rc_all | exact rc_any)
local macro_rules | `(tactic| walk_at "ea") => `(tactic| first | exact ea_nil | refine ea_cons (by walk_at "ev") (by walk_at "ea"))
local macro_rules | `(tactic| walk_at "eo") => `(tactic| first | exact eo_none | refine eo_some (by walk_at "ev"))
local macro_rules | `(tactic| walk_at "et") => `(tactic| first
  | ((with_reducible show EvT _ _ (tTest _) _ _ _ _); exact et_test (by walk_at "ev"))
  | ((with_reducible show EvT _ _ (tNot _) _ _ _ _); exact et_not (by walk_at "et"))
  | ((with_reducible show EvT _ _ (tAnd _ _) _ _ _ _); exact et_and (by walk_at "et") (fun hh => by walk_at "et"))
  | ((with_reducible show EvT _ _ (tOr _ _) _ _ _ _); exact et_or (by walk_at "et") (fun hh => by walk_at "et"))
  | ((with_reducible show EvT _ _ (tTru _ _) _ _ _ _); exact xTru (by walk_at "ev") (by walk_at "sc"))
  | ((with_reducible show EvT _ _ tYes _ _ _ _); exact et_yes))
local macro_rules | `(tactic| walk_at "ev") => `(tactic| first
  | ((with_reducible show EvD _ _ (tC _) _ _ _ _); first | exact ev_int | exact ev_bl | exact ev_str | exact ev_non)
  | ((with_reducible show EvD _ _ (tVar _) _ _ _ _); exact ev_var (by rfl) (by walk_at "rp"))
  | ((with_reducible show EvD _ _ (tOp _ _ _) _ _ _ _); exact ev_op (by walk_at "ev") (by walk_at "ev") (by walk_at "rv"))
  | ((with_reducible show EvD _ _ (tUn _ _) _ _ _ _); exact ev_un (by walk_at "ev") xNeg)
  | ((with_reducible show EvD _ _ (tCB _ _) _ _ _ _); exact ev_cb (by walk_at "ea") (by walk_at "rc"))
  | ((with_reducible show EvD _ _ (tTup _) _ _ _ _); exact ev_tup (by walk_at "ea") (by walk_at "sc"))
  | ((with_reducible show EvD _ _ (tLst _) _ _ _ _); exact ev_lst (by walk_at "ea") (by walk_at "sc"))
  | ((with_reducible show EvD _ _ (tSl _ _ _ _) _ _ _ _); first | exact xSlL (by walk_at "ev") (by walk_at "eo") (by walk_at "eo") | exact xSlT (by walk_at "ev") (by walk_at "eo") (by walk_at "eo"))
  | ((with_reducible show EvD _ _ (tNotT _ _) _ _ _ _); exact ev_notT (by walk_at "ev") (by walk_at "sc"))
  | ((with_reducible show EvD _ _ (tAndT _ _ _) _ _ _ _); exact ev_andB (by walk_at "ev") (fun hh => by walk_at "ev"))
  | ((with_reducible show EvD _ _ (tOrT _ _ _) _ _ _ _); exact ev_orB (by walk_at "ev") (fun hh => by walk_at "ev")))

local macro_rules | `(tactic| walk_at "ev") => `(tactic| ((with_reducible show EvD _ _ (tCall (sp_is_number _) _ _ _) _ _ _ _); exact ev_is_number (by walk_at "ea")))
local macro_rules | `(tactic| walk_at "ev") => `(tactic| ((with_reducible show EvD _ _ (tCall (sp_is_name _) _ _ _) _ _ _ _); exact ev_is_name (by walk_at "ea") (by walk_at "sc")))
local macro_rules | `(tactic| walk_at "ev") => `(tactic| ((with_reducible show EvD _ _ (tCall (sp_is_octets _) _ _ _) _ _ _ _); exact ev_is_octets (by walk_at "ea") (by walk_at "sc")))
local macro_rules | `(tactic| walk_at "ev") => `(tactic| ((with_reducible show EvD _ _ (tCall (sp_octet_of _) _ _ _) _ _ _ _); exact ev_octet_of (by walk_at "ea") (by walk_at "sc")))
local macro_rules | `(tactic| walk_at "ev") => `(tactic| ((with_reducible show EvD _ _ (tCall (sp_is_deed _) _ _ _) _ _ _ _); exact ev_is_deed (by walk_at "ea") (by walk_at "sc")))
local macro_rules | `(tactic| walk_at "ev") => `(tactic| ((with_reducible show EvD _ _ (tCall (sp_rest_in _) _ _ _) _ _ _ _); exact ev_rest_in (by walk_at "ea") (by walk_at "sc")))
local macro_rules | `(tactic| walk_at "ev") => `(tactic| ((with_reducible show EvD _ _ (tCall (sp_plain_deed _) _ _ _) _ _ _ _); exact ev_plain_deed (by walk_at "ea") (by walk_at "sc")))
local macro_rules | `(tactic| walk_at "ev") => `(tactic| ((with_reducible show EvD _ _ (tCall (sp_deed_of _) _ _ _) _ _ _ _); exact ev_deed_of (by walk_at "ea") (by walk_at "sc")))
local macro_rules | `(tactic| walk_at "ev") => `(tactic| ((with_reducible show EvD _ _ (tCall (sp_lines_read _) _ _ _) _ _ _ _); exact ev_lines_read (by walk_at "ea") (by walk_at "sc")))
local macro_rules | `(tactic| walk_at "ev") => `(tactic| ((with_reducible show EvD _ _ (tCall (sp_deeds_fault _) _ _ _) _ _ _ _); exact ev_deeds_fault (by walk_at "ea") (by walk_at "sc")))
local macro_rules | `(tactic| walk_at "ev") => `(tactic| ((with_reducible show EvD _ _ (tCall (sp_law_kkeys _) _ _ _) _ _ _ _); exact ev_law_kkeys (by walk_at "ea")))
local macro_rules | `(tactic| walk_at "ev") => `(tactic| ((with_reducible show EvD _ _ (tCall (sp_law_vname _) _ _ _) _ _ _ _); exact ev_law_vname (by walk_at "ea") (by walk_at "sc")))
local macro_rules | `(tactic| walk_at "ev") => `(tactic| ((with_reducible show EvD _ _ (tCall (sp_law_voctet _) _ _ _) _ _ _ _); exact ev_law_voctet (by walk_at "ea") (by walk_at "sc")))
local macro_rules | `(tactic| walk_at "ev") => `(tactic| ((with_reducible show EvD _ _ (tCall (sp_law_vline _) _ _ _) _ _ _ _); exact ev_law_vline (by walk_at "ea") (by walk_at "sc")))
section
variable {K : PySem.W.Frag} {w : World} {F H F' H' F1 H1 F2 H2 : Hp} {M : List Addr} {σ : L2.St} {te ta tb tc : TE} {tt tu : TT} {d x y z : PyData} {r r' : R2} {D : Ends} {tw tz : TS}
theorem isNon_law (o : Option Deed) : isNon (optP lawD o) = o.isNone := by
  cases o with
  | none => rfl
  | some d => cases d <;> rfl
def sp_law_vfirst_bad (K : PySem.W.Frag) : Sp := spP K (fun i : (PyData) => (fun (d : PyData) => ([d] : List PyData)) i) (fun i => (fun (d : PyData) => (faultD d : PyData)) i) (fun i => (fun (d : PyData) => (TxtOk d : Prop)) i)
theorem ev_law_vfirst_bad {K : PySem.W.Frag} {M : List Addr} {σ : L2.St} {F H : Hp} {ta : TA} {E : XK} {d : PyData} (h : EvA K M ta σ F H [d]) (hp : TxtOk d) : EvD K M (tCall (sp_law_vfirst_bad K) [] E ta) σ F H (faultD d) := ev_call (d) h hp
local macro_rules | `(tactic| walk_at "ev") => `(tactic| ((with_reducible show EvD _ _ (tCall (sp_law_vfirst_bad _) _ _ _) _ _ _ _); exact ev_law_vfirst_bad (by walk_at "ea") (by walk_at "sc")))
abbrev N_law_vfirst_bad : List Str := ["text", "lines", "at", "line"]
def t_law_vfirst_bad (K : PySem.W.Frag) : TS :=
  (tSeq (tIfS (tNot (tTru K (tIs K (tVar 0) "str")))
   (tRet (tC (.int 0)))
   tNext)
  (tSeq (tAsg (tM1 rSplit (tVar 0) (tC (.str "\n"))) (gName 1))
  (tSeq (tFor (iEnumU K (tCons (tSl (rSlU K) (tVar 1) tNoPart (tPart (tUn rNegI (tC (.int 1))))) tNil)) (gTup K 2 (gCons (gName 2) (gCons (gName 3) gNil)))
   (tIfS (tTest (tOp rIsN (tCall (sp_law_vline K) [] E0 (tCons (tVar 3) tNil)) (tC (.non))))
     (tRet (tOp (rAddU K) (tVar 2) (tC (.int 1))))
     tNext))
  (tRet (tIf (tTest (tOp (rEqD K) (tOp (rIx K) (tVar 1) (tUn rNegI (tC (.int 1)))) (tC (.str "")))) (tC (.non)) (tCB (rLen K) (tCons (tVar 1) tNil)))))))
theorem rd_law_vfirst_bad' {K : PySem.W.Frag} {F H : Hp} (d : PyData) {vs : List V} (e : Same F H) (rs : RpAll K F vs [d]) (hp : TxtOk d) (D : Ends) (hn : ∀ σ H', D.nx σ H' = D.rt .non H') (q : ∀ F' H' v, Sx [] F H F' H' → Rp K F' v (faultD d) → D.rt v H') : t_law_vfirst_bad K D (L2.start N_law_vfirst_bad vs) H := by
  obtain ⟨v, rfl, h1⟩ := rs.inv1
  have no : ∀ (tw : TS) (t : String), typeD d = t → kitB t "str" = some false → faultD d = .int 0 → (tSeq (tIfS (tNot (tTru K (tIs K (tVar 0) "str"))) (tRet (tC (.int 0))) tNext) tw) D [some v, none, none, none] H := fun tw t ht hk hd => by
    refine q_when (K := K) (M := []) (b := true) e (et_not (xTru (xIs t (d := d) (ev_var rfl h1) ht hk) rfl)) (fun _ F2 H2 s2 => ?_) fun z => absurd z (by decide)
    exact st_ret (K := K) (M := []) (d := .int 0) s2.fh ev_int fun F4 H4 u s4 ru => q _ _ _ (s2.trans s4) (by rw [hd]; exact ru)
  cases d with
  | none => exact no _ "NoneType" rfl (by decide +kernel) rfl
  | bool b => exact no _ "bool" rfl (by decide +kernel) rfl
  | int b => exact no _ "int" rfl (by decide +kernel) rfl
  | list b => exact no _ "list" rfl (by decide +kernel) rfl
  | tuple b => exact no _ "tuple" rfl (by decide +kernel) rfl
  | dict b => exact no _ "dict" rfl (by decide +kernel) rfl
  | str s =>
    obtain ⟨hs, hsl⟩ : TOk s ∧ s.length ≤ 15000 := hp
    have hll := lines_len s
    refine q_when (K := K) (M := []) (b := false) e (et_not (a := true) (xTru (xIs "str" (d := .str s) (ev_var rfl h1) rfl (by decide +kernel)) rfl)) (fun z => absurd z (by decide)) fun _ F2 H2 s2 => ?_
    refine q_set (K := K) (M := []) (d := .list ((lines s).map .str)) s2.fh (EvN.ev (xSplit (ev_var rfl (h1.mono s2.ff)) ev_str hs.2 (by decide +kernel))) fun F3 H3 v2 s3 r2 => ?_
    have s13 := s2.trans s3
    have hdl : ∀ i, i < (lines s).dropLast.length → ((lines s).dropLast.map PyData.str)[i]? = some (PyData.str ((lines s).dropLast.getD i Str.empty)) := fun i hi => by rw [List.getElem?_map, getD_at (a := Str.empty) hi]; rfl
    refine q_forW (K := K) (M := []) (lines s).dropLast.length (fun i => .tuple [.int (0 + (i : Nat)), .str ((lines s).dropLast.getD i Str.empty)]) (fun i => Nm2 K 2 3 (.int (0 + (i : Nat))) (.str ((lines s).dropLast.getD i Str.empty)))
      (fun i σ' F' H' => ∃ (ds : List Deed) (w3 w4 : Option V), ((lines s).dropLast.take i).map (fun l => deedOf (words l)) = ds.map some ∧ Rp K F' v2 (.list ((lines s).map .str)) ∧ σ' = [some v, some v2, w3, w4])
      s3.fh (ew_enumL (ea_cons (xInitL (ev_var rfl r2) (eo_some (ev_un ev_int xNeg))) ea_nil) (by rw [List.length_map]) (fun i hi => hdl i hi)) (fun _ _ => tg_nm2) (fun F4 H4 s4 => ?_) (fun F4 H4 s4 i σ' F' H' F'' H'' σ'' hi s' hI s'' hσ => ?_) (fun σ' F' H' s' hI => ?_)
    · exact ⟨[], none, none, by simp, r2.mono s4.ff, rfl⟩
    · obtain ⟨ds, w3, w4, hds, rv2, rfl⟩ := hI
      obtain ⟨a, b, ra, rb, rfl⟩ := hσ
      cases ra.int_of
      have hgi : (lines s).dropLast[i]? = some ((lines s).dropLast.getD i Str.empty) := getD_at hi
      generalize hL : (lines s).dropLast.getD i Str.empty = L at rb hgi
      have hmem : L ∈ lines s := (List.dropLast_sublist _).subset (List.mem_of_getElem? hgi)
      have hLok := line_ok hs hmem
      have hLl := (line_in hmem).2
      refine st_if (K := K) (M := []) (b := (deedOf (words L)).isNone) s''.fh (et_test (EvD.is (ev_op (ev_law_vline (ea_cons (ev_var rfl rb) ea_nil) ⟨hLok, by omega⟩) ev_non xIsN) (congrArg PyData.bool (isNon_law _)))) (fun hb F6 H6 s6 => ?_) (fun hb F6 H6 s6 => ?_)
      · have hnone : deedOf (words L) = none := by simpa using hb
        refine st_ret (K := K) (M := []) (d := .int ((0 + (i : Nat) : Int) + 1)) s6.fh (ev_op (ev_var rfl (.int _)) ev_int xAddI) fun F8 H8 u s8 ru => q _ _ _ (((((s13.trans s4).trans s').trans s'').trans s6).trans s8) ?_
        have : faultD (.str s) = .int ((0 + (i : Nat) : Int) + 1) := by
          show numO (readT s).2 = _
          rw [readT_bad (readL_bad _ 1 i ds hds ⟨L, hgi, hnone⟩)]
          show PyData.int ((1 + i : Nat) : Int) = _
          congr 1
          omega
        rw [this]; exact ru
      · cases hdo : deedOf (words L) with
        | none => rw [hdo] at hb; cases hb
        | some dd =>
          refine ⟨F6, (s'.trans s'').trans s6, ds ++ [dd], _, _, ?_, (rv2.mono s''.ff).mono s6.ff, rfl⟩
          rw [List.take_add_one, hgi, List.map_append, hds, List.map_append]
          show _ ++ [deedOf (words L)] = _
          rw [hdo]; rfl
    · obtain ⟨ds, w3, w4, hds, rv2, rfl⟩ := hI
      rw [List.take_length] at hds
      have hne := lines_ne s
      have hlast : (lines s).getLast? = some ((lines s).getLast hne) := List.getLast?_eq_getLast hne
      have hlo : TOk ((lines s).getLast hne) := line_ok hs (List.getLast_mem hne)
      refine st_ret (K := K) (M := []) (d := faultD (.str s)) s'.fh (EvD.is (ev_if (z := numO (if (lines s).getLast? = some Str.empty then none else some (lines s).length)) (b := decide ((lines s).getLast hne = Str.empty)) (et_test (ev_op (ev_op (ev_var rfl rv2) (ev_un ev_int xNeg) (rv_ixl (atI_last1 (f := PyData.str) hlast))) ev_str (xEqS hlo.1 (by decide +kernel)))) (fun h => ?_) (fun h => ?_)) ?_) fun F8 H8 u s8 ru => q _ _ _ ((s13.trans s').trans s8) ru
      · rw [if_pos (by rw [hlast, of_decide_eq_true h])]
        exact ev_non
      · rw [if_neg (by rw [hlast]; intro z; exact (of_decide_eq_false h) (Option.some.inj z))]
        exact EvD.is (ev_cb (ea_cons (ev_var rfl rv2) ea_nil) xLenL) (by rw [List.length_map]; rfl)
      · show _ = numO (readT s).2
        rw [readT_good (readL_good _ 1 ds hds)]
/-! ### _law_vtold -/
/-- the parts of a deed's line behind its first two words, as data -/
def partsD : Deed → List PyData
  | .drop _ => []
  | .chain _ ns => ns.map .str
  | .octs _ _ os => os.map fun o : Nat => .int (o : Int)
def headD2 : Deed → List Str
  | .drop n => [sDrop, n]
  | .chain n _ => [sChain, n]
  | .octs w n _ => [w, n]
def strD : PyData → Str
  | .str s => s
  | .int i => Str.ofString (toString i)
  | _ => Str.empty
theorem deed_parts (d : Deed) : deedWords d = headD2 d ++ (partsD d).map strD := by
  cases d with
  | drop n => rfl
  | chain n ns => show _ = [sChain, n] ++ (ns.map .str).map strD; rw [List.map_map]; show _ :: _ :: ns = _ :: _ :: ns.map (strD ∘ .str); rw [show (strD ∘ PyData.str) = id from rfl, List.map_id]
  | octs w n os => show _ = [w, n] ++ (os.map fun o : Nat => .int (o : Int)).map strD; rw [List.map_map]; rfl
theorem law_rows (d : Deed) : ∃ l, lawD d = .tuple ((headD2 d).map .str ++ l) ∧ (l = [] ∧ partsD d = [] ∨ l = [.list (partsD d)]) := by
  cases d with
  | drop n => exact ⟨[], rfl, .inl ⟨rfl, rfl⟩⟩
  | chain n ns => exact ⟨[_], rfl, .inr rfl⟩
  | octs w n os => exact ⟨[_], rfl, .inr rfl⟩
theorem xStrD {x : PyData} (h : (∃ s, x = .str s) ∨ ∃ n : Nat, x = .int (n : Int) ∧ n < 256) : RC K rStrU [x] (.str (strD x)) := by
  rcases h with ⟨s, rfl⟩ | ⟨n, rfl, hn⟩
  · exact xStrS
  · exact xStrI (by omega)
theorem parts_kind {d : Deed} (h : GoodDeed d) : ∀ x ∈ partsD d, (∃ s, x = .str s) ∨ ∃ n : Nat, x = .int (n : Int) ∧ n < 256 := by
  cases d with
  | drop n => intro x hx; cases hx
  | chain n ns => intro x hx; obtain ⟨s, _, rfl⟩ := List.mem_map.mp hx; exact .inl ⟨s, rfl⟩
  | octs w n os => intro x hx; obtain ⟨o, ho, rfl⟩ := List.mem_map.mp hx; exact .inr ⟨o, rfl, h.2.2.2.2 o ho⟩
end
end Sf

/-! texts of deeds: the law's telling -/
namespace Sf
open PySem L2 RZ TL
/-! evaluation, construct by construct -/
local macro_rules | `(tactic| walk_at "rp") => `(tactic| first | assumption | exact .int _ | exact .bl _ | exact .str _ | exact .non | exact Rp.mono (Sx.ff (by assumption)) (by walk_at "rp"))
local macro_rules | `(tactic| walk_at "sc") => `(tactic| first | rfl | assumption | omega | decide | (simp; done) | (simp; omega))
local macro_rules | `(tactic| walk_at "ix") => `(tactic| first | rfl | assumption)
local macro_rules | `(tactic| walk_at "rv") => `(tactic| first
  | exact xAddI | exact xSub | exact xLt | exact xLe | exact xGt | exact xGe | exact xIsN | exact xNotN | exact xEqI | exact xNeI | exact xEqB | exact xNeB | exact xEqLB | exact xEqTB | exact xNeTB
  | exact xMod (by walk_at "sc")
  | exact xDiv (by walk_at "sc")
  | exact xPow (by walk_at "sc")
  | exact xMulI (by walk_at "sc")
  | exact rv_ixt (by walk_at "ix")
  | exact rv_ixl (by walk_at "ix")
  | exact xAddL (by walk_at "sc")
  | exact xAddT (by walk_at "sc"))
local macro_rules | `(tactic| walk_at "rc") => `(tactic| first | exact xLenL | exact xLenT | exact xListL | exact xListT | exact xTupL | exact xTupT | exact xMax2 | exact xInt | exact rc_all | exact rc_any)
local macro_rules | `(tactic| walk_at "ea") => `(tactic| first | exact ea_nil | refine ea_cons (by walk_at "ev") (by walk_at "ea"))
local macro_rules | `(tactic| walk_at "eo") => `(tactic| first | exact eo_none | refine eo_some (by walk_at "ev"))
local macro_rules | `(tactic| walk_at "et") => `(tactic| first
  | ((with_reducible show EvT _ _ (tTest _) _ _ _ _); exact et_test (by walk_at "ev"))
  | ((with_reducible show EvT _ _ (tNot _) _ _ _ _); exact et_not (by walk_at "et"))
  | ((with_reducible show EvT _ _ (tAnd _ _) _ _ _ _); exact et_and (by walk_at "et") (fun hh => by walk_at "et"))
  | ((with_reducible show EvT _ _ (tOr _ _) _ _ _ _); exact et_or (by walk_at "et") (fun hh => by walk_at "et"))
  | ((with_reducible show EvT _ _ (tTru _ _) _ _ _ _); exact xTru (by walk_at "ev") (by walk_at "sc"))
  | ((with_reducible show EvT _ _ tYes _ _ _ _); exact et_yes))
local macro_rules | `(tactic| walk_at "ev") => `(tactic| first
  | ((with_reducible show EvD _ _ (tC _) _ _ _ _); first | exact ev_int | exact ev_bl | exact ev_str | exact ev_non)
  | ((with_reducible show EvD _ _ (tVar _) _ _ _ _); exact ev_var (by rfl) (by walk_at "rp"))
  | ((with_reducible show EvD _ _ (tOp _ _ _) _ _ _ _); exact ev_op (by walk_at "ev") (by walk_at "ev") (by walk_at "rv"))
  | ((with_reducible show EvD _ _ (tUn _ _) _ _ _ _); exact ev_un (by walk_at "ev") xNeg)
  | ((with_reducible show EvD _ _ (tCB _ _) _ _ _ _); exact ev_cb (by walk_at "ea") (by walk_at "rc"))
  | ((with_reducible show EvD _ _ (tTup _) _ _ _ _); exact ev_tup (by walk_at "ea") (by walk_at "sc"))
  | ((with_reducible show EvD _ _ (tLst _) _ _ _ _); exact ev_lst (by walk_at "ea") (by walk_at "sc"))
  | ((with_reducible show EvD _ _ (tSl _ _ _ _) _ _ _ _); first | exact xSlL (by walk_at "ev") (by walk_at "eo") (by walk_at "eo") | exact xSlT (by walk_at "ev") (by walk_at "eo") (by walk_at "eo"))
  | ((with_reducible show EvD _ _ (tNotT _ _) _ _ _ _); exact ev_notT (by walk_at "ev") (by walk_at "sc"))
  | ((with_reducible show EvD _ _ (tAndT _ _ _) _ _ _ _); exact ev_andB (by walk_at "ev") (fun hh => by walk_at "ev"))
  | ((with_reducible show EvD _ _ (tOrT _ _ _) _ _ _ _); exact ev_orB (by walk_at "ev") (fun hh => by walk_at "ev")))

theorem joinL_nil : ∀ xs : List (List Nat), joinL [] xs = xs.flatten
  | [] => rfl
  | [p] => by simp [joinL]
  | p :: q :: r => by
    show p ++ ([] ++ joinL [] (q :: r)) = _
    rw [joinL_nil (q :: r)]
    simp
theorem joinL_end (c : Nat) : ∀ xs : List (List Nat), joinL [c] (xs ++ [[]]) = (xs.map fun x => x ++ [c]).flatten
  | [] => rfl
  | [p] => by simp [joinL]
  | p :: q :: r => by
    show p ++ ([c] ++ joinL [c] (q :: r ++ [[]])) = _
    rw [joinL_end c (q :: r)]
    simp
theorem text_told (ds : List Deed) : Str.join Str.empty (ds.map fun d => deedLine d ++ nln) = deedsText ds := by
  apply ext_tl
  unfold deedsText
  rw [tl_join, tl_join, tl_nln, List.map_append]
  show joinL [] _ = joinL [10] (_ ++ [[]])
  rw [joinL_nil, joinL_end, List.map_map, List.map_map, List.map_map]
  congr 1
  apply List.map_congr_left
  intro d _
  show tl (deedLine d ++ nln) = tl (deedLine d) ++ [10]
  rw [tl_append]; rfl
/-- small deeds -/
def LittleDeed (d : Deed) : Prop := GoodDeed d ∧ (partsD d).length ≤ 50
theorem word_len {d : Deed} (h : GoodDeed d) : ∀ p ∈ deedWords d, p.length ≤ 8 := by
  have hn : ∀ s, isNm s = true → s.length ≤ 8 := fun s h => by
    unfold isNm at h
    simp only [Bool.and_eq_true, decide_eq_true_eq] at h
    exact h.1.2
  have ho : ∀ n, n < 256 → (numS n).length ≤ 8 := fun n h => by
    rw [len_tl]
    unfold numS
    rw [tl_num]
    exact Nat.le_trans (numL_len (k := 3) (by decide) (by omega)) (by decide)
  cases d with
  | drop n =>
    intro p hp
    rcases List.mem_cons.mp hp with rfl | hp
    · decide +kernel
    · rw [List.mem_singleton.mp hp]; exact hn _ h
  | chain n ns =>
    intro p hp
    rcases List.mem_cons.mp hp with rfl | hp
    · decide +kernel
    rcases List.mem_cons.mp hp with rfl | hp
    · exact hn _ h.1
    · exact hn _ (List.all_eq_true.mp h.2.2.2 p hp)
  | octs w n os =>
    intro p hp
    rcases List.mem_cons.mp hp with rfl | hp
    · rcases h.1 with z | z <;> rw [z] <;> decide +kernel
    rcases List.mem_cons.mp hp with rfl | hp
    · exact hn _ h.2.1
    · obtain ⟨o, ho', rfl⟩ := List.mem_map.mp hp; exact ho o (h.2.2.2.2 o ho')
theorem sum_le {ss : List Str} {n : Nat} (h : ∀ s ∈ ss, s.length ≤ n) : (ss.map (·.length)).sum ≤ ss.length * n := by
  induction ss with
  | nil => simp
  | cons a r ih =>
    have h1 := h a (by simp)
    have h2 := ih fun s hs => h s (List.mem_cons_of_mem _ hs)
    rw [List.map_cons, List.sum_cons, List.length_cons, Nat.add_mul]
    omega
theorem joinL_len (S : List Nat) : ∀ ps : List (List Nat), (joinL S ps).length ≤ (ps.map List.length).sum + ps.length * S.length
  | [] => by simp [joinL]
  | [p] => by simp [joinL]
  | p :: q :: r => by
    show (p ++ (S ++ joinL S (q :: r))).length ≤ _
    have := joinL_len S (q :: r)
    rw [List.map_cons, List.sum_cons, List.length_append, List.length_append, List.length_cons, Nat.add_mul]
    omega
theorem join_len (y : Str) (ss : List Str) : (Str.join y ss).length ≤ (ss.map (·.length)).sum + ss.length * y.length := by
  rw [len_tl, tl_join]
  have := joinL_len (tl y) (ss.map tl)
  rw [List.map_map, List.length_map, ← len_tl] at this
  rw [show (fun s : Str => s.length) = (List.length ∘ tl) from funext fun s => len_tl s]
  exact this
theorem words_many {d : Deed} (h : LittleDeed d) : (deedWords d).length ≤ 52 := by
  rw [deed_parts, List.length_append, List.length_map]
  have := h.2
  cases d <;> simp [headD2] <;> omega
theorem line_len {d : Deed} (h : LittleDeed d) : (deedLine d).length ≤ 468 := by
  have h1 := join_len spc (deedWords d)
  have h2 := sum_le (word_len h.1)
  have h3 := words_many h
  have h4 : spc.length = 1 := rfl
  rw [h4] at h1
  unfold deedLine
  have : (deedWords d).length * 8 ≤ 52 * 8 := Nat.mul_le_mul_right 8 h3
  omega
section
variable {K : PySem.W.Frag} {w : World} {F H F' H' F1 H1 F2 H2 : Hp} {M : List Addr} {σ : L2.St} {te ta tb tc : TE} {tt tu : TT} {d x y z : PyData} {r r' : R2} {D : Ends} {tw tz : TS}
theorem en_map {j : Nat} {ds : List PyData} {g : PyData → PyData} (h : EvD K M te σ F H (.list ds)) (hl : ds.length ≤ 1000000) (hw : ∀ v, wipe ((wipe σ [j]).set j (some v)) [j] = wipe σ [j])
    (he : ∀ x ∈ ds, ∀ F1 H1 v, Rp K F1 v x → Sx M F H F1 H1 → EvD K M ta ((wipe σ [j]).set j (some v)) F1 H1 (g x)) :
    EvN K M (tLc (iSeq K te) (gName j) tYes ta [j]) σ F H (ds.map g) := by
  have hn := xLcL (en_lcL (K := K) (M := M) (σ := σ) (te := ta) (tt := tYes) (vs := [j]) ds id g (fun _ => true) (fun a => Nm K j a) (by rw [List.map_id]; exact h) hl (fun _ _ => tg_nm)
      (fun a _ F1 σ' ⟨v, _, hσ⟩ => by subst hσ; exact hw v) (fun _ _ _ _ _ _ _ => et_yes) (fun a ha _ F1 H1 σ' s' ⟨v, rv, hσ⟩ => by subst hσ; exact he a ha F1 H1 v rv s'))
  rw [filter_yes] at hn
  exact hn
def sp_law_vtold (K : PySem.W.Frag) : Sp := spP K (fun i : (List Deed) => (fun (ds : List Deed) => ([.list (ds.map lawD)] : List PyData)) i) (fun i => (fun (ds : List Deed) => (.str (deedsText ds) : PyData)) i) (fun i => (fun (ds : List Deed) => ((∀ d ∈ ds, LittleDeed d) ∧ ds.length ≤ 10 : Prop)) i)
theorem ev_law_vtold {K : PySem.W.Frag} {M : List Addr} {σ : L2.St} {F H : Hp} {ta : TA} {E : XK} {ds : List Deed} (h : EvA K M ta σ F H [.list (ds.map lawD)]) (hp : (∀ d ∈ ds, LittleDeed d) ∧ ds.length ≤ 10) : EvD K M (tCall (sp_law_vtold K) [] E ta) σ F H (.str (deedsText ds)) := ev_call (ds) h hp
local macro_rules | `(tactic| walk_at "ev") => `(tactic| ((with_reducible show EvD _ _ (tCall (sp_law_vtold _) _ _ _) _ _ _ _); exact ev_law_vtold (by walk_at "ea") (by walk_at "sc")))
abbrev N_law_vtold : List Str := ["deeds", "lines", "deed", "line", "one"]
def t_law_vtold (K : PySem.W.Frag) : TS :=
  (tSeq (tAsg (tLc (iSeq K (tVar 0)) (gName 2) tYes (tM1 (rJoin K) (tC (.str " ")) (tOp (rAddU K) (tCB (rListOf K) (tCons (tSl (rSlU K) (tVar 2) tNoPart (tPart (tC (.int 2)))) tNil)) (tLc (iSeq K (tOp (rIx K) (tOp (rAddU K) (tCB (rListOf K) (tCons (tVar 2) tNil)) (tLst (tCons (tLst tNil) tNil))) (tC (.int 2)))) (gName 4) tYes (tCB rStrU (tCons (tVar 4) tNil)) [4]))) [2]) (gName 1))
  (tRet (tM1 (rJoin K) (tC (.str "")) (tLc (iSeq K (tVar 1)) (gName 3) tYes (tOp rAddS (tVar 3) (tC (.str "\n"))) [3]))))
theorem rd_law_vtold' {K : PySem.W.Frag} {F H : Hp} (ds : List Deed) {vs : List V} (e : Same F H) (rs : RpAll K F vs [.list (ds.map lawD)]) (hp : (∀ d ∈ ds, LittleDeed d) ∧ ds.length ≤ 10) (D : Ends) (hn : ∀ σ H', D.nx σ H' = D.rt .non H') (q : ∀ F' H' v, Sx [] F H F' H' → Rp K F' v (.str (deedsText ds)) → D.rt v H') : t_law_vtold K D (L2.start N_law_vtold vs) H := by
  obtain ⟨v, rfl, h1⟩ := rs.inv1
  obtain ⟨hg, hl⟩ := hp
  refine q_set (K := K) (M := []) (d := .list ((ds.map deedLine).map .str)) e (EvD.is (EvN.ev (xLcL (en_lcL ds lawD (fun d => .str (deedLine d)) (fun _ => true) (fun d => Nm K 2 (lawD d)) (ev_var rfl h1) (by omega) (fun _ _ => tg_nm) ?_ (fun _ _ _ _ _ _ _ => et_yes) ?_))) (by rw [filter_yes, List.map_map]; rfl)) fun F1 H1 v1 s1 r1 => ?_
  · rintro d _ F1 _ ⟨x, _, rfl⟩; rfl
  · rintro d hd _ F1 H1 _ s1 ⟨x, rx, rfl⟩
    have hgd := hg d hd
    obtain ⟨l, hl1, hl2⟩ := law_rows d
    rw [hl1] at rx
    have hh2 : (headD2 d).length = 2 := by cases d <;> rfl
    have hp50 := hgd.2
    have hA : EvD K [] (tCB (rListOf K) (tCons (tSl (rSlU K) (tVar 2) tNoPart (tPart (tC (.int 2)))) tNil)) [some v, none, some x, none, none] F1 H1 (.list ((headD2 d).map .str)) := ev_cb (ea_cons (EvD.is (xSlT (ev_var rfl rx) eo_none (eo_some ev_int)) (by
      rw [show ((2 : Int)) = ((2 : Nat) : Int) from rfl, cut_take, List.take_left' (by rw [List.length_map, hh2])])) ea_nil) xListT
    have hll : ((headD2 d).map PyData.str ++ l).length ≤ 3 := by rcases hl2 with ⟨h, _⟩ | h <;> rw [h] <;> simp [hh2]
    have hB : EvD K [] (tOp (rIx K) (tOp (rAddU K) (tCB (rListOf K) (tCons (tVar 2) tNil)) (tLst (tCons (tLst tNil) tNil))) (tC (.int 2))) [some v, none, some x, none, none] F1 H1 (.list (partsD d)) := ev_op (ev_op (ev_cb (ea_cons (ev_var rfl rx) ea_nil) xListT) (ev_lst (ea_cons (ev_lst ea_nil (by decide)) ea_nil) (by simp)) (xAddL (by rw [List.length_singleton]; omega))) ev_int (rv_ixl (atI_nat (j := 2) (by
      rcases hl2 with ⟨h, h2⟩ | h
      · rw [h, h2, List.append_nil, List.getElem?_append_right (by rw [List.length_map, hh2]; exact Nat.le_refl 2), List.length_map, hh2]; rfl
      · rw [h, List.append_assoc, List.getElem?_append_right (by rw [List.length_map, hh2]; exact Nat.le_refl 2), List.length_map, hh2]; rfl)))
    have hC : EvD K [] (tLc (iSeq K (tOp (rIx K) (tOp (rAddU K) (tCB (rListOf K) (tCons (tVar 2) tNil)) (tLst (tCons (tLst tNil) tNil))) (tC (.int 2)))) (gName 4) tYes (tCB rStrU (tCons (tVar 4) tNil)) [4]) [some v, none, some x, none, none] F1 H1 (.list ((partsD d).map fun x => .str (strD x))) := EvN.ev (en_map (j := 4) hB (by omega) (fun _ => rfl) fun x hx F3 H3 v3 r3 s3 => ev_cb (ea_cons (ev_var rfl r3) ea_nil) (xStrD (parts_kind hgd.1 x hx)))
    have hw52 := words_many hgd
    have e1 : (headD2 d).map PyData.str ++ (partsD d).map (fun x => .str (strD x)) = (deedWords d).map .str := by rw [deed_parts, List.map_append, List.map_map]; rfl
    have h8 := sum_le (word_len hgd.1)
    refine xJoinL (ss := deedWords d) ev_str (EvD.is (ev_op hA hC (xAddL (by rw [List.length_map, List.length_map, hh2]; omega))) (congrArg PyData.list e1)) ?_
    have : (deedWords d).length * 8 ≤ 52 * 8 := Nat.mul_le_mul_right 8 hw52
    have h1 : spc.length = 1 := rfl
    rw [h1]
    omega
  · have hnl : ∀ d ∈ ds, (deedLine d).length ≤ 468 := fun d hd => line_len (hg d hd)
    refine st_ret (K := K) (M := []) (d := .str (deedsText ds)) s1.fh (EvD.is (xJoinL (a := Str.empty) (ss := ds.map fun d => deedLine d ++ nln) ev_str (EvD.is (EvN.ev (xLcL (en_lcL (ds.map deedLine) .str (fun l => .str (l ++ nln)) (fun _ => true) (fun l => Nm K 3 (.str l)) (ev_var rfl r1) (by rw [List.length_map]; omega) (fun _ _ => tg_nm) ?_ (fun _ _ _ _ _ _ _ => et_yes) ?_))) (by rw [filter_yes, List.map_map, List.map_map]; rfl)) ?_) (by rw [text_told])) fun F2 H2 u s2 ru => q _ _ _ (s1.trans s2) ru
    · rintro d _ F1 _ ⟨x, _, rfl⟩; rfl
    · rintro l hl _ F1 H1 _ s1 ⟨x, rx, rfl⟩
      obtain ⟨d, hd, rfl⟩ := List.mem_map.mp hl
      exact ev_op (ev_var rfl rx) ev_str (xAddS (by have := hnl d hd; have h1 : (Str.ofString "\n").length = 1 := rfl; rw [h1]; omega))
    · have h2 := sum_le (ss := ds.map fun d => deedLine d ++ nln) (n := 469) fun s hs => by
        obtain ⟨d, hd, rfl⟩ := List.mem_map.mp hs
        have := hnl d hd
        rw [len_tl, tl_append, List.length_append, ← len_tl, ← len_tl]
        have h1 : nln.length = 1 := rfl
        omega
      rw [List.length_map] at h2 ⊢
      have h3 : ds.length * 469 ≤ 10 * 469 := Nat.mul_le_mul_right 469 hl
      have h4 : Str.empty.length = 0 := rfl
      rw [h4]
      omega
end
end Sf

/-! texts of deeds: the law's drawing -/
namespace Sf
open PySem L2 RZ TL
/-! evaluation, construct by construct -/
local macro_rules | `(tactic| walk_at "rp") => `(tactic| first | assumption | exact .int _ | exact .bl _ | exact .str _ | exact .non | exact Rp.mono (Sx.ff (by assumption)) (by walk_at "rp"))
local macro_rules | `(tactic| walk_at "sc") => `(tactic| first | rfl | assumption | omega | decide | (simp; done) | (simp; omega))
local macro_rules | `(tactic| walk_at "ix") => `(tactic| first | rfl | assumption)
local macro_rules | `(tactic| walk_at "rv") => `(tactic| first
  | exact xAddI | exact xSub | exact xLt | exact xLe | exact xGt | exact xGe | exact xIsN | exact xNotN | exact xEqI | exact xNeI | exact xEqB | exact xNeB | exact xEqLB | exact xEqTB | exact xNeTB
  | exact xMod (by walk_at "sc")
  | exact xDiv (by walk_at "sc")
  | exact xPow (by walk_at "sc")
  | exact xMulI (by walk_at "sc")
  | exact rv_ixt (by walk_at "ix")
  | exact rv_ixl (by walk_at "ix")
  | exact xAddL (by walk_at "sc")
  | exact xAddT (by walk_at "sc"))
local macro_rules | `(tactic| walk_at "rc") => `(tactic| first | exact xLenL | exact xLenT | exact xListL | exact xListT | exact xTupL | exact xTupT | exact xMax2 | exact xInt | exact rc_all | exact rc_any)
local macro_rules | `(tactic| walk_at "ea") => `(tactic| first | exact ea_nil | refine ea_cons (by walk_at "ev") (by walk_at "ea"))
local macro_rules | `(tactic| walk_at "eo") => `(tactic| first | exact eo_none | refine eo_some (by walk_at "ev"))
local macro_rules | `(tactic| walk_at "et") => `(tactic| first
  | ((with_reducible show EvT _ _ (tTest _) _ _ _ _); exact et_test (by walk_at "ev"))
  | ((with_reducible show EvT _ _ (tNot _) _ _ _ _); exact et_not (by walk_at "et"))
  | ((with_reducible show EvT _ _ (tAnd _ _) _ _ _ _); exact et_and (by walk_at "et") (fun hh => by walk_at "et"))
  | ((with_reducible show EvT _ _ (tOr _ _) _ _ _ _); exact et_or (by walk_at "et") (fun hh => by walk_at "et"))
  | ((with_reducible show EvT _ _ (tTru _ _) _ _ _ _); exact xTru (by walk_at "ev") (by walk_at "sc"))
  | ((with_reducible show EvT _ _ tYes _ _ _ _); exact et_yes))
local macro_rules | `(tactic| walk_at "ev") => `(tactic| first
  | ((with_reducible show EvD _ _ (tC _) _ _ _ _); first | exact ev_int | exact ev_bl | exact ev_str | exact ev_non)
  | ((with_reducible show EvD _ _ (tVar _) _ _ _ _); exact ev_var (by rfl) (by walk_at "rp"))
  | ((with_reducible show EvD _ _ (tOp _ _ _) _ _ _ _); exact ev_op (by walk_at "ev") (by walk_at "ev") (by walk_at "rv"))
  | ((with_reducible show EvD _ _ (tUn _ _) _ _ _ _); exact ev_un (by walk_at "ev") xNeg)
  | ((with_reducible show EvD _ _ (tCB _ _) _ _ _ _); exact ev_cb (by walk_at "ea") (by walk_at "rc"))
  | ((with_reducible show EvD _ _ (tTup _) _ _ _ _); exact ev_tup (by walk_at "ea") (by walk_at "sc"))
  | ((with_reducible show EvD _ _ (tLst _) _ _ _ _); exact ev_lst (by walk_at "ea") (by walk_at "sc"))
  | ((with_reducible show EvD _ _ (tSl _ _ _ _) _ _ _ _); first | exact xSlL (by walk_at "ev") (by walk_at "eo") (by walk_at "eo") | exact xSlT (by walk_at "ev") (by walk_at "eo") (by walk_at "eo"))
  | ((with_reducible show EvD _ _ (tNotT _ _) _ _ _ _); exact ev_notT (by walk_at "ev") (by walk_at "sc"))
  | ((with_reducible show EvD _ _ (tAndT _ _ _) _ _ _ _); exact ev_andB (by walk_at "ev") (fun hh => by walk_at "ev"))
  | ((with_reducible show EvD _ _ (tOrT _ _ _) _ _ _ _); exact ev_orB (by walk_at "ev") (fun hh => by walk_at "ev")))

section
variable {K : PySem.W.Frag} {w : World} {F H F' H' F1 H1 F2 H2 : Hp} {M : List Addr} {σ : L2.St} {te ta tb tc : TE} {tt tu : TT} {d x y z : PyData} {r r' : R2} {D : Ends} {tw tz : TS} {p q : Addr} {c c' : Nat} {Px Py : PyData → Prop}
/-! ### _law_pick -/
def sp_law_pick (K : PySem.W.Frag) : Sp := fun vs H Q _ => ∃ (p q a : Addr) (n : Nat) (xs : List V) (F : Hp), vs = [.ref p, .ref a] ∧ Same F H ∧ Stm F H p q n ∧ F a = some (.lst xs) ∧ 1 ≤ xs.length ∧ xs.length < 1073741824 ∧ n + 1 ≤ 1000000000 ∧
  ∀ F' H' (i : Nat) x, Sx [p, q] F H F' H' → Stm F' H' p q (n + 1) → xs[i]? = some x → Q x H'
theorem len_law_pick {vs : List V} {Q : VK} {E : XK} (h : sp_law_pick K vs H Q E) : vs.length = ["stream", "some"].length := by
  obtain ⟨p, q, a, n, xs, F, rfl, _⟩ := h
  rfl
abbrev N_law_pick : List Str := ["stream", "some"]
def t_law_pick (K : PySem.W.Frag) : TS :=
  (tRet (tOp (rIx K) (tVar 1) (tCall (sp_law_below K) [] E0 (tCons (tVar 0) (tCons (tCB (rLen K) (tCons (tVar 1) tNil)) tNil)))))
theorem rd_law_pick {vs : List V} {Q : VK} {E : XK} (h : sp_law_pick K vs H Q E) : t_law_pick K { nx := fun _ H' => Q .non H', rt := Q } (L2.start N_law_pick vs) H := by
  obtain ⟨p, q, a, n, xs, F, rfl, e, st, ha, h1, h2, hn, k⟩ := h
  refine ⟨.ref a, rfl, .ref p, rfl, .ref a, rfl, .ref a, xs.length, rfl, .inl ⟨xs, .inl (.inl (e _ _ ha)), rfl⟩, p, q, n, xs.length, F, rfl, e, st, h1, h2, by omega, fun F' H' r s st' hr => ?_⟩
  exact .inl ⟨a, xs, (r : Int), xs[r], rfl, rfl, .inl (.inl (s.fh _ _ (s.ff _ _ ha))), atI_nat (List.getElem?_eq_getElem hr), k F' H' r _ s st' (List.getElem?_eq_getElem hr)⟩
theorem es_pick {i : Nat} {E : XK} {ds : List PyData} (h : σ[i]? = some (some (.ref p))) (hm : EvD K [p, q] te σ F H (.list ds)) (h1 : 1 ≤ ds.length) (h2 : ds.length ≤ 1000000) : EvS K p q (tCall (sp_law_pick K) [] E (tCons (tVar i) (tCons te tNil))) σ F H 1 (fun d => d ∈ ds) := fun F1 H1 n s st hn Q k =>
  ⟨.ref p, h, hm F1 H1 s _ fun F2 H2 v s2 rv => by
    obtain ⟨a, xs, rfl, ha, rs⟩ := rv.lst_of
    refine ⟨p, q, a, n, xs, F2, rfl, s2.fh, st.pure s2, ha, by rw [rs.length]; exact h1, by rw [rs.length]; omega, hn, fun F' H' i x s3 st3 hx => ?_⟩
    obtain ⟨d, hd, rd⟩ := rs.of_get hx
    exact k F' H' x d (s2.up.trans s3) st3 (List.mem_of_getElem? hd) (rd.mono s3.ff)⟩
/-- a comprehension over a range whose length is drawn -/
theorem es_lcR {ta : TA} {j B c0 : Nat} {Pm : Nat → Prop} {Pg : PyData → Prop} (h : EvSA K p q ta σ F H c0 (fun ds => ∃ m : Nat, m ≤ B ∧ Pm m ∧ ds = [.int (m : Int)])) (hB : B ≤ 1000) (hw : ∀ v, wipe ((wipe σ [j]).set j (some v)) [j] = wipe σ [j])
    (he : ∀ F1 H1 v, Sx [p, q] F H F1 H1 → EvS K p q te ((wipe σ [j]).set j (some v)) F1 H1 c Pg) :
    EvS K p q (tLc (iRng1 ta) (gName j) tYes te [j]) σ F H (c0 + c * B) (fun d => ∃ ds m, d = .list ds ∧ m ≤ B ∧ Pm m ∧ ds.length = m ∧ ∀ x ∈ ds, Pg x) := fun F1 H1 n s st hn Q k =>
  h F1 H1 n s st (by omega) _ fun F2 H2 us ds s2 st2 ⟨m, hmB, hm, hds⟩ rs => by
    subst hds
    obtain ⟨v, rfl, h1⟩ := rs.inv1
    cases h1.int_of
    have hcm : c * m ≤ c * B := Nat.mul_le_mul_left c hmB
    exact es_lc (K := K) (p := p) (q := q) (σ := σ) (F := F) (H := H) (c := c) (te := te) (wi := iRng1 (tCons (tC (.int (m : Int))) tNil)) (gt := gName j) (vs := [j]) m (fun i => .int (i : Int)) (fun i => Nm K j (.int (i : Int))) (fun _ => Pg) (ew_rng1 (ea_cons ev_int ea_nil) (by simp) (by omega) (by omega)) (by omega) (fun _ _ => tg_nm)
      (fun i _ F1 σ' ⟨v, _, hσ⟩ => by subst hσ; exact hw v) (fun i _ F1 H1 σ' s1 ⟨v, _, hσ⟩ => by subst hσ; exact he F1 H1 v s1) F2 H2 (n + c0) (s.trans s2) st2 (by omega) Q fun F3 H3 v d s3 st3 ⟨ds, hd, hl, hg⟩ rv => k F3 H3 v d (s2.trans s3) (st3.le (by omega)) ⟨ds, m, hd, hmB, hm, hl, fun x hx => by
        obtain ⟨i, hi⟩ := List.getElem?_of_mem hx
        exact hg i x hi⟩ rv
/-! ### _law_vdeed -/
def sp_law_vdeed (K : PySem.W.Frag) : Sp := fun vs H Q _ => ∃ (p q : Addr) (n : Nat) (F : Hp), vs = [.ref p] ∧ Same F H ∧ Stm F H p q n ∧ n + 9 ≤ 1000000000 ∧
  ∀ F' H' v d, Sx [p, q] F H F' H' → Stm F' H' p q (n + 9) → LittleDeed d → Rp K F' v (lawD d) → Q v H'
theorem len_law_vdeed {vs : List V} {Q : VK} {E : XK} (h : sp_law_vdeed K vs H Q E) : vs.length = ["stream"].length := by
  obtain ⟨p, q, n, F, rfl, _⟩ := h
  rfl
def kinds4 : List Str := [sPut, sDrop, sExch, sChain]
def names5 : List Str := ["f", "g", "two", "x9", "abcdefg8"]
def names3 : List Str := ["f", "g", "h2"]
theorem names5_ok : names5.all isNm = true := by decide +kernel
theorem names3_ok : names3.all isNm = true := by decide +kernel
abbrev N_law_vdeed : List Str := ["stream", "word", "name", "octet", "link"]
def t_law_vdeed (K : PySem.W.Frag) : TS :=
  (tSeq (tPar 1 2 (tCons (tCall (sp_law_pick K) [] E0 (tCons (tVar 0) (tCons (tLst (tCons (tC (.str "put")) (tCons (tC (.str "drop")) (tCons (tC (.str "exchange")) (tCons (tC (.str "chain")) tNil))))) tNil))) (tCons (tCall (sp_law_pick K) [] E0 (tCons (tVar 0) (tCons (tLst (tCons (tC (.str "f")) (tCons (tC (.str "g")) (tCons (tC (.str "two")) (tCons (tC (.str "x9")) (tCons (tC (.str "abcdefg8")) tNil)))))) tNil))) tNil)))
  (tSeq (tIfS (tTest (tOp (rEqD K) (tVar 1) (tC (.str "drop"))))
   (tRet (tTup (tCons (tVar 1) (tCons (tVar 2) tNil))))
   tNext)
  (tSeq (tIfS (tTest (tOp (rEqD K) (tVar 1) (tC (.str "chain"))))
   (tRet (tTup (tCons (tVar 1) (tCons (tVar 2) (tCons (tLc (iRng1 (tCons (tOp (rAddU K) (tC (.int 1)) (tCall (sp_law_below K) [] E0 (tCons (tVar 0) (tCons (tC (.int 4)) tNil)))) tNil)) (gName 4) tYes (tCall (sp_law_pick K) [] E0 (tCons (tVar 0) (tCons (tLst (tCons (tC (.str "f")) (tCons (tC (.str "g")) (tCons (tC (.str "h2")) tNil)))) tNil))) [4]) tNil)))))
   tNext)
  (tRet (tTup (tCons (tVar 1) (tCons (tVar 2) (tCons (tLc (iRng1 (tCons (tOp (rAddU K) (tC (.int 1)) (tCall (sp_law_below K) [] E0 (tCons (tVar 0) (tCons (tC (.int 6)) tNil)))) tNil)) (gName 3) tYes (tCall (sp_law_below K) [] E0 (tCons (tVar 0) (tCons (tC (.int 256)) tNil))) [3]) tNil))))))))
theorem rd_law_vdeed {vs : List V} {Q : VK} {E : XK} (h : sp_law_vdeed K vs H Q E) : t_law_vdeed K { nx := fun _ H' => Q .non H', rt := Q } (L2.start N_law_vdeed vs) H := by
  obtain ⟨p, q, n, F, rfl, e, st, hn, k⟩ := h
  refine qs_par (K := K) (c := 1 + (1 + 0)) (Pr := fun x y => ∃ w m : Str, w ∈ kinds4 ∧ m ∈ names5 ∧ x = .str w ∧ y = .str m) e st (fun F1 H1 m s st hn Q k => esa_cons (Pq := fun ds => ∃ x y, ds = [x, y] ∧ ∃ w m : Str, w ∈ kinds4 ∧ m ∈ names5 ∧ x = .str w ∧ y = .str m) (es_pick (ds := kinds4.map .str) rfl (ev_lst (ea_cons ev_str (ea_cons ev_str (ea_cons ev_str (ea_cons ev_str ea_nil)))) (by decide)) (by decide) (by decide)) (esa_cons (Pr := fun ds => ds = []) (Pq := fun ds => ∃ y, ds = [y] ∧ y ∈ names5.map PyData.str) (es_pick (ds := names5.map .str) rfl (ev_lst (ea_cons ev_str (ea_cons ev_str (ea_cons ev_str (ea_cons ev_str (ea_cons ev_str ea_nil))))) (by decide)) (by decide) (by decide)) esa_nil fun x ds hx hd => ⟨x, by rw [hd], hx⟩) (fun x ds hx ⟨y, hd, hy⟩ => by
      obtain ⟨w, hw, rfl⟩ := List.mem_map.mp hx
      obtain ⟨m, hm, rfl⟩ := List.mem_map.mp hy
      exact ⟨_, _, by rw [hd], w, m, hw, hm, rfl, rfl⟩) F1 H1 m s st hn Q k) (by omega) fun F1 H1 v1 v2 x y s1 st1 ⟨wd, nm, hw, hm, hx, hy⟩ r1 r2 => ?_
  subst hx hy
  have hnm : isNm nm = true := List.all_eq_true.mp names5_ok nm hm
  have hwok : PyData.strOk wd = true := by
    have : ∀ w ∈ kinds4, PyData.strOk w = true := by decide +kernel
    exact this wd hw
  refine q_when (K := K) (M := []) (b := decide (wd = sDrop)) s1.fh (et_test (ev_op (ev_var rfl r1) ev_str (xEqS hwok (by decide +kernel)))) (fun hb F2 H2 s2 => ?_) fun hb F2 H2 s2 => ?_
  · have hwd : wd = sDrop := of_decide_eq_true hb
    subst hwd
    exact st_ret (K := K) (M := []) (d := lawD (.drop nm)) s2.fh (ev_tup (ea_cons (ev_var rfl (r1.mono s2.ff)) (ea_cons (ev_var rfl (r2.mono s2.ff)) ea_nil)) (by simp)) fun F3 H3 v s3 rv => k F3 H3 v (.drop nm) ((s1.trans s2.up).trans s3.up) (((st1.pure s2).pure s3).le (by omega)) ⟨hnm, by simp [partsD]⟩ rv
  have hnd : wd ≠ sDrop := of_decide_eq_false hb
  have q1 := r1.mono s2.ff
  have q2 := r2.mono s2.ff
  have st2 := st1.pure s2
  refine q_when (K := K) (M := []) (b := decide (wd = sChain)) s2.fh (et_test (ev_op (ev_var rfl q1) ev_str (xEqS hwok (by decide +kernel)))) (fun hb F3 H3 s3 => ?_) fun hb F3 H3 s3 => ?_
  · have hwd : wd = sChain := of_decide_eq_true hb
    subst hwd
    have p1 := q1.mono s3.ff
    have p2 := q2.mono s3.ff
    refine ss_ret (K := K) (c := 0 + (0 + ((0 + 1 + 0) + 1 * 4 + 0))) (Px := fun d => ∃ ns : List Str, 1 ≤ ns.length ∧ ns.length ≤ 4 ∧ ns.all isNm = true ∧ d = lawD (.chain nm ns)) s3.fh (st2.pure s3) ((es_tup (Pr := fun ds => ∃ ns : List Str, 1 ≤ ns.length ∧ ns.length ≤ 4 ∧ ns.all isNm = true ∧ ds = [.str sChain, .str nm, .list (ns.map .str)]) (esa_cons (es_d (ev_var rfl p1)) (esa_cons (Pq := fun ds => ∃ ns : List Str, 1 ≤ ns.length ∧ ns.length ≤ 4 ∧ ns.all isNm = true ∧ ds = [.str nm, .list (ns.map .str)]) (es_d (ev_var rfl p2)) (esa_cons (Pr := fun ds => ds = []) (Pq := fun ds => ∃ ns : List Str, 1 ≤ ns.length ∧ ns.length ≤ 4 ∧ ns.all isNm = true ∧ ds = [.list (ns.map .str)]) (es_lcR (B := 4) (Pm := fun m => 1 ≤ m) (Pg := fun d => d ∈ names3.map PyData.str) (esa_cons (Pr := fun ds => ds = []) (es_op (Pz := fun z => ∃ m : Nat, m ≤ 4 ∧ 1 ≤ m ∧ z = .int (m : Int)) (es_d ev_int) (es_below (m := 4) rfl ev_int (by decide) (by decide)) ?_) esa_nil ?_) (by decide) (fun _ => rfl) fun F4 H4 v4 s4 => es_pick (ds := names3.map .str) rfl (ev_lst (ea_cons ev_str (ea_cons ev_str (ea_cons ev_str ea_nil))) (by decide)) (by decide) (by decide)) esa_nil ?_) ?_) ?_) ?_).weak (Nat.le_refl _) ?_) (by omega) fun F4 H4 v d s4 st4 ⟨ns, n1, n2, n3, hd⟩ rv => ?_
    · rintro _ _ rfl ⟨r, hr, rfl⟩
      exact ⟨_, xAddI, 1 + r, by omega, by omega, by rw [Int.natCast_add]; rfl⟩
    · rintro _ _ ⟨m, h1, h2, rfl⟩ rfl
      exact ⟨m, h1, h2, rfl⟩
    · rintro _ _ ⟨ds, m, rfl, h1, h2, h3, h4⟩ rfl
      have : ∃ ns : List Str, ns.all isNm = true ∧ ds = ns.map .str := by
        clear h3
        induction ds with
        | nil => exact ⟨[], rfl, rfl⟩
        | cons a r ih =>
          obtain ⟨ns, hns, rfl⟩ := ih fun x hx => h4 x (List.mem_cons_of_mem _ hx)
          obtain ⟨s, hs, rfl⟩ := List.mem_map.mp (h4 a (by simp))
          exact ⟨s :: ns, by rw [List.all_cons, List.all_eq_true.mp names3_ok s hs, hns]; rfl, rfl⟩
      obtain ⟨ns, hns, rfl⟩ := this
      rw [List.length_map] at h3
      exact ⟨ns, by omega, by omega, hns, rfl⟩
    · rintro _ _ rfl ⟨ns, h1, h2, h3, rfl⟩
      exact ⟨ns, h1, h2, h3, rfl⟩
    · rintro _ _ rfl ⟨ns, h1, h2, h3, rfl⟩
      exact ⟨ns, h1, h2, h3, rfl⟩
    · rintro _ ⟨ns, _, _, _, rfl⟩
      simp
    · rintro _ ⟨_, ⟨ns, h1, h2, h3, rfl⟩, rfl⟩
      exact ⟨ns, h1, h2, h3, rfl⟩
    · subst hd
      exact k F4 H4 v (.chain nm ns) (((s1.trans s2.up).trans s3.up).trans s4) (st4.le (by omega)) ⟨⟨hnm, n1, n2, n3⟩, by show (ns.map PyData.str).length ≤ 50; rw [List.length_map]; omega⟩ rv
  have hnc : wd ≠ sChain := of_decide_eq_false hb
  have hpe : wd = sPut ∨ wd = sExch := by
    rcases List.mem_cons.mp hw with h | hw
    · exact .inl h
    rcases List.mem_cons.mp hw with h | hw
    · exact absurd h hnd
    rcases List.mem_cons.mp hw with h | hw
    · exact .inr h
    · exact absurd (List.mem_singleton.mp hw) hnc
  have p1 := q1.mono s3.ff
  have p2 := q2.mono s3.ff
  refine ss_ret (K := K) (c := 0 + (0 + ((0 + 1 + 0) + 1 * 6 + 0))) (Px := fun d => ∃ os : List Nat, 1 ≤ os.length ∧ os.length ≤ 6 ∧ (∀ o ∈ os, o < 256) ∧ d = lawD (.octs wd nm os)) s3.fh (st2.pure s3) ((es_tup (Pr := fun ds => ∃ os : List Nat, 1 ≤ os.length ∧ os.length ≤ 6 ∧ (∀ o ∈ os, o < 256) ∧ ds = [.str wd, .str nm, .list (os.map fun o : Nat => .int (o : Int))]) (esa_cons (es_d (ev_var rfl p1)) (esa_cons (Pq := fun ds => ∃ os : List Nat, 1 ≤ os.length ∧ os.length ≤ 6 ∧ (∀ o ∈ os, o < 256) ∧ ds = [.str nm, .list (os.map fun o : Nat => .int (o : Int))]) (es_d (ev_var rfl p2)) (esa_cons (Pr := fun ds => ds = []) (Pq := fun ds => ∃ os : List Nat, 1 ≤ os.length ∧ os.length ≤ 6 ∧ (∀ o ∈ os, o < 256) ∧ ds = [.list (os.map fun o : Nat => .int (o : Int))]) (es_lcR (B := 6) (Pm := fun m => 1 ≤ m) (Pg := fun d => ∃ r : Nat, r < 256 ∧ d = .int (r : Int)) (esa_cons (Pr := fun ds => ds = []) (es_op (Pz := fun z => ∃ m : Nat, m ≤ 6 ∧ 1 ≤ m ∧ z = .int (m : Int)) (es_d ev_int) (es_below (m := 6) rfl ev_int (by decide) (by decide)) ?_) esa_nil ?_) (by decide) (fun _ => rfl) fun F4 H4 v4 s4 => es_below (m := 256) rfl ev_int (by decide) (by decide)) esa_nil ?_) ?_) ?_) ?_).weak (Nat.le_refl _) ?_) (by omega) fun F4 H4 v d s4 st4 ⟨os, n1, n2, n3, hd⟩ rv => ?_
  · rintro _ _ rfl ⟨r, hr, rfl⟩
    exact ⟨_, xAddI, 1 + r, by omega, by omega, by rw [Int.natCast_add]; rfl⟩
  · rintro _ _ ⟨m, h1, h2, rfl⟩ rfl
    exact ⟨m, h1, h2, rfl⟩
  · rintro _ _ ⟨ds, m, rfl, h1, h2, h3, h4⟩ rfl
    have : ∃ os : List Nat, (∀ o ∈ os, o < 256) ∧ ds = os.map fun o : Nat => .int (o : Int) := by
      clear h3
      induction ds with
      | nil => exact ⟨[], by simp, rfl⟩
      | cons a r ih =>
        obtain ⟨os, hos, rfl⟩ := ih fun x hx => h4 x (List.mem_cons_of_mem _ hx)
        obtain ⟨o, ho, rfl⟩ := h4 a (by simp)
        exact ⟨o :: os, fun z hz => by rcases List.mem_cons.mp hz with rfl | hz; exact ho; exact hos z hz, rfl⟩
    obtain ⟨os, hos, rfl⟩ := this
    rw [List.length_map] at h3
    exact ⟨os, by omega, by omega, hos, rfl⟩
  · rintro _ _ rfl ⟨ns, h1, h2, h3, rfl⟩
    exact ⟨ns, h1, h2, h3, rfl⟩
  · rintro _ _ rfl ⟨ns, h1, h2, h3, rfl⟩
    exact ⟨ns, h1, h2, h3, rfl⟩
  · rintro _ ⟨ns, _, _, _, rfl⟩
    simp
  · rintro _ ⟨_, ⟨ns, h1, h2, h3, rfl⟩, rfl⟩
    exact ⟨ns, h1, h2, h3, rfl⟩
  · subst hd
    exact k F4 H4 v (.octs wd nm os) (((s1.trans s2.up).trans s3.up).trans s4) (st4.le (by omega)) ⟨⟨hpe, hnm, n1, by omega, n3⟩, by show (os.map fun o : Nat => PyData.int (o : Int)).length ≤ 50; rw [List.length_map]; omega⟩ rv
end
end Sf

set_option maxHeartbeats 4000000
/-! own errors with one field: made, raised -/
namespace Sf
open PySem L2 RZ TL
/-- the module's class x stands at C -/
def ClsA (K : PySem.W.Frag) (x : Str) (C : Addr) : Prop := PySem.W.nsIn K mainGlobals x = some (some (.ref C))
theorem ClsA.one {K : PySem.W.Frag} {x : Str} {C C' : Addr} (h : ClsA K x C) (h' : ClsA K x C') : C = C' := by
  unfold ClsA at h h'
  rw [h] at h'
  simpa using h'
/-- what the written part says of an error's class with the field f, made by the def at fI -/
structure ExT (K : PySem.W.Frag) (x f : Str) (C fI : Addr) : Prop where
  cls : ClsA K x C
  oex : OexC K C
  iC : PySem.W.findIn K (.ref C) "__init__" = some (some (.ref fI))
  tI : PySem.W.typeIn K (.ref fI) = some (.type "function")
  nf : PySem.W.findIn K (.ref C) f = some none
  xf : XfC K C
def sp_exi (K : PySem.W.Frag) (C : Addr) (f : Str) : Sp := fun vs H Q _ => ∃ a v, vs = [.ref a, v] ∧ H a = some (exo a C none) ∧ ∀ d, H d = none → d ≠ a → Q .non (upd (upd H d (exd d [(f, v)])) a (exo a C (some d)))
def t_exi (K : PySem.W.Frag) (f : Str) : TS := tOst K f (tVar 0) (tVar 1)
theorem rd_exi {K : PySem.W.Frag} {C fI : Addr} {x f : Str} {N : List Str} {vs : List V} {H : Hp} {Q : VK} {E : XK} (T : ExT K x f C fI) (h : sp_exi K C f vs H Q E) (hN : N.length = 2) : t_exi K f { nx := fun _ H' => Q .non H', rt := Q } (L2.start N vs) H := by
  obtain ⟨a, v, rfl, ha, k⟩ := h
  have e : L2.start N [.ref a, v] = [some (.ref a), some v] := by
    match N, hN with
    | [x, y], _ => rfl
  rw [e]
  exact ⟨v, rfl, .ref a, rfl, a, C, rfl, T.oex, T.nf, .inl ⟨ha, fun dx hd hne => k dx hd hne⟩⟩
/-- x(e), to be raised -/
def tMkX (K : PySem.W.Frag) (x f : Str) (ta : TA) : L2.St → Hp → XK → Prop := fun σ H Q => ∀ C, ClsA K x C → tMkO C (sp_exi K C f) [] ta σ H Q
def tRaiseX (K : PySem.W.Frag) (x f : Str) (ta : TA) (W : WX) : TS := fun _ σ H => tMkX K x f ta σ H fun cls d H' => W cls d σ H'
theorem pmk_ex {X : Cx} {x f : Str} {C fI : Addr} {k : Nat} {fd : FuncData} {ps : List Str} {e : Expr} {ta : TA} {p pos : PySem.Pos} (T : ExT X.K x f C fI) (F1 : FnOk X.prog X.w X.K X.mg X.base CX0 k fI fd ps (sp_exi X.K C f)) (hr : Room (k + 1) X.A) (hb : Binds X.K fd ps []) (hg : Gl X x) (hm : X.mg x = some (.ref C)) (ha : PA X [e] ta)
    (hdb : (x == ("__debug__" : Str)) = false := by decide) (he : starEach [e] X.env = [(false, eval e X.env)] := by rfl) :
    PMk X (.Call (.Name x p) [e] [] pos) (tMkX X.K x f ta) := fun pins s σ H Q I h => pmk_oex (p := p) (pos := pos) T.oex T.iC T.tI F1 hr hb .nil pass0 hg hm ha hdb he rfl pins s σ H Q I (h C T.cls)
theorem ps_raiseX {X : Cx} {W : WX} {x f : Str} {C fI : Addr} {k : Nat} {fd : FuncData} {ps : List Str} {e : Expr} {ta : TA} {p pos pos2 : PySem.Pos} (hc : X.calm = true) (tk : Takes X W) (T : ExT X.K x f C fI) (F1 : FnOk X.prog X.w X.K X.mg X.base CX0 k fI fd ps (sp_exi X.K C f)) (hr : Room (k + 1) X.A) (hb : Binds X.K fd ps []) (hg : Gl X x) (hm : X.mg x = some (.ref C)) (ha : PA X [e] ta)
    (hdb : (x == ("__debug__" : Str)) = false := by decide) (he : starEach [e] X.env = [(false, eval e X.env)] := by rfl) :
    PS X (.Raise (some (.Call (.Name x p) [e] [] pos)) none pos2) (tRaiseX X.K x f ta W) := ps_raise hc tk (pmk_ex T F1 hr hb hg hm ha hdb he)
section
variable {K : PySem.W.Frag} {F H F1 H1 : Hp} {σ : L2.St} {te : TE} {d : PyData} {x f : Str} {D : Ends}
theorem mk_ex {Q : XK} (s0 : Same F H) (h : EvD K [] te σ F H d) (k : ∀ F1 H1 C a v, Sx [] F H F1 H1 → ClsA K x C → H1 a = some (.xd [(f, v)]) → Rp K F1 v d → Q (.ref C) (some a) H1) : tMkX K x f (tCons te tNil) σ H Q := fun C hC =>
  h F H (Sx.refl s0) _ fun F1 H1 v s rv => ⟨by simp, fun a ha => ⟨a, v, rfl, upd_same, fun dx hd hne => by
    have hd1 : H1 dx = none := by rw [upd_ne hne] at hd; exact hd
    refine ⟨rfl, dx, [(f, v)], upd_same, by rw [upd_ne hne, upd_same], hd1, ?_⟩
    have e2 : upd (del (upd (upd (upd H1 a (exo a C none)) dx (exd dx [(f, v)])) a (exo a C (some dx))) a) dx (.xd [(f, v)]) = upd H1 dx (.xd [(f, v)]) := by
      funext b
      by_cases hbd : b = dx
      · subst hbd; rw [upd_same, upd_same]
      · rw [upd_ne hbd, upd_ne hbd]
        by_cases hba : b = a
        · subst hba; rw [del_same, ha]
        · rw [del_ne hba, upd_ne hba, upd_ne hbd, upd_ne hba]
    rw [e2]
    exact k F1 _ C dx v (s.trans (Sx.newM s.fh _ hd1)) hC upd_same rv⟩⟩
theorem st_raiseX {W : WX} (s0 : Same F H) (h : EvD K [] te σ F H d) (k : ∀ F1 H1 C a v, Sx [] F H F1 H1 → ClsA K x C → H1 a = some (.xd [(f, v)]) → Rp K F1 v d → W (.ref C) (some a) σ H1) : tRaiseX K x f (tCons te tNil) W D σ H := mk_ex (f := f) s0 h k
end
end Sf

set_option maxHeartbeats 8000000
/-! try with several clauses, each «except X as n» or «except X» -/
namespace Sf
open PySem PySem.Spec PyProof.Rows L2
abbrev Suit := Addr → Value → Option Addr → TS
/-- the clauses: a class, the slot of its name (or none), its suite -/
def wEach (K : PySem.W.Frag) (Wo : WX) (D : Ends) : List (Value × Option Nat × Suit) → WX
  | [] => Wo
  | (c, some i, ts) :: more => wAs K c i ts (wEach K Wo D more) D
  | (c, none, ts) :: more => wOnly K c ts (wEach K Wo D more) D
inductive Clauses (X : Cx) : List ExceptHandler → List (Value × Option Nat × Suit) → Prop
  | done : Clauses X [] []
  | named {x n : Str} {i : Nat} {c : Value} {ts : Suit} {st : Stmt} {sts : List Stmt} {np hp : Pos} {hs : List ExceptHandler} {l : List (Value × Option Nat × Suit)} (cls : Names X x c) (at_ : X.N[i]? = some n) (loc : X.env.kindOf n = some .local)
      (body : ∀ (a : Addr) (o : Obj) (cl : Value) (d : Option Addr) (pn : List (Addr × Obj)), Zc cl d o → (∃ fs, o.data = .fields fs) → PSs (X.suite a ((a, o) :: pn)) (st :: sts) (ts a cl d)) (more : Clauses X hs l) :
      Clauses X (.ExceptHandler (some (.Name x np)) (some n) (st :: sts) hp :: hs) ((c, some i, ts) :: l)
  | plain {x : Str} {c : Value} {ts : Suit} {st : Stmt} {sts : List Stmt} {np hp : Pos} {hs : List ExceptHandler} {l : List (Value × Option Nat × Suit)} (cls : Names X x c)
      (body : ∀ (a : Addr) (o : Obj) (cl : Value) (d : Option Addr) (pn : List (Addr × Obj)), Zc cl d o → (∃ fs, o.data = .fields fs) → PSs (X.suite a ((a, o) :: pn)) (st :: sts) (ts a cl d)) (more : Clauses X hs l) :
      Clauses X (.ExceptHandler (some (.Name x np)) none (st :: sts) hp :: hs) ((c, none, ts) :: l)
section
variable {X : Cx} {tries : List Stmt} {h1 : ExceptHandler} {hs : List ExceptHandler} {l : List (Value × Option Nat × Suit)} {pos : Pos} {tb : WX → TS} {Wo : WX}
/-- the try's own end -/
theorem try_end {pins : List (Addr × Obj)} {D : Ends} {fl : Flow} {s1 : Shared} {pn : List (Addr × Obj)} {xe : Value → Shared → Prop} (ok : X.Ok) (z : SP (X.tr pn xe) [] D fl s1) (hp : ∀ {σ : L2.St} {H : Hp}, Inv (X.tr pn xe) [] σ H s1 → Inv X pins σ H s1) :
    match (motive := Flow → Prop) fl with | .next => wpAny (model X.prog X.w) X.A (execs [] X.env) (SP X pins D) X.xe s1 | f => SP X pins D f s1 := by
  cases fl with
  | next => obtain ⟨σ, H, I, q⟩ := z; exact wpAny_execs_nil ⟨σ, H, hp I, q⟩
  | brk => obtain ⟨σ, H, I, q⟩ := z; exact ⟨σ, H, hp I, q⟩
  | cont => obtain ⟨σ, H, I, q⟩ := z; exact ⟨σ, H, hp I, q⟩
  | ret u => obtain ⟨v, σ, H, I, r, q⟩ := z; exact ⟨v, σ, H, hp I, r, q⟩
theorem ps_try_each (stk : X.stack = X.env :: X.outer) (frm : X.env.frame = some X.env.locals) (nd : X.N.Nodup) (tk : Takes X Wo)
    (main : ∀ (W : WX) (pn : List (Addr × Obj)) (xe : Value → Shared → Prop), Takes (X.tr pn xe) W → PassesOwn (model X.prog X.w) X.A X.env xe → PSs (X.tr pn xe) tries (tb W))
    (cl : Clauses X (h1 :: hs) l) : PS X (.Try tries (h1 :: hs) [] [] pos) (fun D σ H => tb (wEach X.K Wo D l) D σ H) := by
  constructor
  intro pins s σ H D I h
  have ok := I.ok
  have frames : X.A.frames = some (X.env :: X.outer) := ok.frames.trans (by rw [stk])
  have run := (main (wEach X.K Wo D l) (X.pn ++ pins) (fun e s₁ => wpAny (model X.prog X.w) X.A (noteFrame e X.env) (fun _ s₂ => wpAny (model X.prog X.w) X.A (setFlight e none) (fun _ s₃ =>
    wpAny (model X.prog X.w) X.A (handleBy e X.env (h1 :: hs)) (SP X pins D) X.xe s₃) X.xe s₂) X.xe s₁) (fun u t xx => ?caught) PassesOwn.looking).run [] s σ H D (I.toTry _) h
  · exact wpAny_Try_except (wpAny_mono run (fun fl s1 z => try_end ok z fun J => J.ofTry ok) fun _ _ z => z)
  obtain ⟨a, B, t0, pins1, σ1, G, cv, d, rfl, J0, nb, up, sky, na, os, ag, wish⟩ := xx
  have J : Inv X pins σ1 G t0 := J0.ofTry ok
  have sky1 : Sky B (X.env :: X.outer) a (Zc cv d) X.env.locals t.heap := stk ▸ sky
  refine Sky.land Zc.steady frames frm sky1 fun hp landed up1 => ?_
  have K1 : Inv X pins σ1 G { t with heap := hp } := J.landed nb landed.1 (up.trans up1) os ag
  obtain ⟨o1, f1, at1, z1, d1⟩ := landed.there
  have apart : a ∉ frs (X.env :: X.outer) := fun hm => by
    obtain ⟨_, o', e', hnf⟩ := landed.2.2.1.mem hm
    rw [at1] at e'
    cases e'
    exact hnf _ d1
  have apartL : a ≠ X.env.locals := fun z => apart (List.mem_filterMap.mpr ⟨X.env, by simp, by rw [frm, z]⟩)
  have apartF : a ∉ X.fs := fun hm => by
    obtain ⟨en, hen, hq⟩ := List.mem_filterMap.mp hm
    exact apart (List.mem_filterMap.mpr ⟨en, List.mem_cons_of_mem _ hen, hq⟩)
  have S1 := K1.suite at1 d1 na apartL apartF
  have looks : PySem.W.Looks (model X.prog X.w) hp (typeOf (.ref a)) cv := fun A Q E s k q => wpAny_typeOf_ref (k _ _ at1) (by rw [z1.1]; exact q)
  have named : ∀ {x : Str} {c : Value} {np : Pos} {Q E : Value → Shared → Prop}, Names X x c → Q c { t with heap := hp } → wpAny (model X.prog X.w) (X.A.mark (some (.ref a))) (eval (.Name x np) X.env) Q E { t with heap := hp } := fun {x c np Q E} hc q => by
    obtain ⟨g1, g2, g3 | ⟨g3, g4, g5⟩⟩ := hc
    · exact ld_glob (X := X.suite a ((a, o1) :: (X.pn ++ pins))) S1 g1 g3 q g2
    · exact ld_blt (X := X.suite a ((a, o1) :: (X.pn ++ pins))) S1 g1 g3 g4 q g5 g2
  have each : ∀ {hs' : List ExceptHandler} {l' : List (Value × Option Nat × Suit)}, Clauses X hs' l' → wEach X.K Wo D l' cv d σ1 G → wpAny (model X.prog X.w) X.A (handleBy (.ref a) X.env hs') (SP X pins D) X.xe { t with heap := hp } := by
    intro hs' l' hc
    induction hc with
    | done =>
      intro hw
      refine wpAny_handleBy_nil ?_
      obtain ⟨_, _, _, o, vs, T, _, _, ho, _, hd, hT, _⟩ := id landed
      unfold PySem.passOn
      refine wpAny_bind (wpAny_field ho hd hT ?_)
      rw [if_neg (by simp : ¬ ((Value.ref T == Value.none) = true))]
      have out : wpAny (model X.prog X.w) X.A (setFlight (.ref a) X.env.frame) (fun _ s4 => wpAny (model X.prog X.w) X.A (throw (.ref a) : Sem Flow) (SP X pins D) X.xe s4) X.xe { t with heap := hp } := by
        rw [frm]
        exact HandSPX.setFlight_upZ landed fun h4 sk4 up4 => wpAny_throw (tk _ _ ⟨a, B, t0, pins, σ1, G, cv, d, rfl, J, nb, (up.trans up1).trans up4, .inr (.inr (by rw [stk]; exact sk4)), na, os, ag, hw⟩)
      first
        | exact wpAny_bind (wpAny_pure (wpAny_bind out))
        | exact wpAny_bind out
    | @named x n i c ts st sts np hpos hs2 l2 hcl hi hloc hbody hmore ih =>
      rintro ⟨b, hb, yes, no⟩
      refine wpAny_handleBy_cons (codeAny_handlers_test (named hcl ((PySem.W.exm_one K1.kIn looks hb).here ?_))) (by intro q; cases q)
      cases b with
      | false => exact ih (no rfl)
      | true =>
        refine codeAny_handlers_suite_as (HandSPX.lands_againZ landed fun h4 landed4 up4 => ?_)
        have K4 : Inv X pins σ1 G { t with heap := h4 } := J.landed nb landed4.1 ((up.trans up1).trans up4) os ag
        obtain ⟨o4, f4, at4, z4, d4⟩ := landed4.there
        refine store_ok (X := X.suite a ((a, o4) :: (X.pn ++ pins))) (v := .ref a) (K4.suite at4 d4 na apartL apartF) nd hi (.inl hloc) rfl (fun s5 S5 => ?_) (.inr hloc)
        refine wpAny_mono ((hbody a o4 cv d (X.pn ++ pins) z4 ⟨_, d4⟩).run [] s5 _ G _ S5 (yes rfl a na)) (fun fl s6 z => ?_) fun _ _ z => z.elim
        have close : ∀ {σ6 : L2.St} {H6 : Hp} {Q : Shared → Prop}, Inv (X.suite a ((a, o4) :: (X.pn ++ pins))) [] σ6 H6 s6 → (∀ s7, Inv X pins (σ6.set i none) H6 s7 → Q s7) →
            wpAny (model X.prog X.w) X.A (do bindName X.env n .none; unbindBehindTheSuite X.env n hpos) (fun _ s7 => Q s7) X.xe s6 := fun J6 k => gone_ok (J6.unsuite ok) nd hi hloc k
        cases fl with
        | next => obtain ⟨σ6, H6, J6, q⟩ := z; exact close J6 fun s7 J7 => ⟨_, _, J7, q⟩
        | brk => obtain ⟨σ6, H6, J6, q⟩ := z; exact close J6 fun s7 J7 => ⟨_, _, J7, q⟩
        | cont => obtain ⟨σ6, H6, J6, q⟩ := z; exact close J6 fun s7 J7 => ⟨_, _, J7, q⟩
        | ret u => obtain ⟨v, σ6, H6, J6, r, q⟩ := z; exact close J6 fun s7 J7 => ⟨_, _, _, J7, r, q⟩
    | @plain x c ts st sts np hpos hs2 l2 hcl hbody hmore ih =>
      rintro ⟨b, hb, yes, no⟩
      refine wpAny_handleBy_cons (codeAny_handlers_test (named hcl ((PySem.W.exm_one K1.kIn looks hb).here ?_))) (by intro q; cases q)
      cases b with
      | false => exact ih (no rfl)
      | true =>
        refine codeAny_handlers_suite (HandSPX.lands_againZ landed fun h4 landed4 up4 => ?_)
        have K4 : Inv X pins σ1 G { t with heap := h4 } := J.landed nb landed4.1 ((up.trans up1).trans up4) os ag
        obtain ⟨o4, f4, at4, z4, d4⟩ := landed4.there
        refine wpAny_mono ((hbody a o4 cv d (X.pn ++ pins) z4 ⟨_, d4⟩).run [] _ _ G _ (K4.suite at4 d4 na apartL apartF) (yes rfl a na)) (fun fl s6 z => ?_) fun _ _ z => z.elim
        cases fl with
        | next => obtain ⟨σ6, H6, J6, q⟩ := z; exact ⟨_, _, J6.unsuite ok, q⟩
        | brk => obtain ⟨σ6, H6, J6, q⟩ := z; exact ⟨_, _, J6.unsuite ok, q⟩
        | cont => obtain ⟨σ6, H6, J6, q⟩ := z; exact ⟨_, _, J6.unsuite ok, q⟩
        | ret u => obtain ⟨v, σ6, H6, J6, r, q⟩ := z; exact ⟨_, _, _, J6.unsuite ok, r, q⟩
  exact each cl wish
end
end Sf

/-! deeds told as texts, read from texts: what may raise -/
namespace Sf
open PySem L2 RZ TL
/-! evaluation, construct by construct -/
local macro_rules | `(tactic| walk_at "rp") => `(tactic| first | assumption | exact .int _ | exact .bl _ | exact .str _ | exact .non | exact Rp.mono (Sx.ff (by assumption)) (by walk_at "rp"))
local macro_rules | `(tactic| walk_at "sc") => `(tactic| first | rfl | assumption | omega | decide | (simp; done) | (simp; omega))
local macro_rules | `(tactic| walk_at "ix") => `(tactic| first | rfl | assumption)
local macro_rules | `(tactic| walk_at "rv") => `(tactic| first
  | exact xAddI | exact xSub | exact xLt | exact xLe | exact xGt | exact xGe | exact xIsN | exact xNotN | exact xEqI | exact xNeI | exact xEqB | exact xNeB | exact xEqLB | exact xEqTB | exact xNeTB
  | exact xMod (by walk_at "sc")
  | exact xDiv (by walk_at "sc")
  | exact xPow (by walk_at "sc")
  | exact xMulI (by walk_at "sc")
  | exact rv_ixt (by walk_at "ix")
  | exact rv_ixl (by walk_at "ix")
  | exact xAddL (by walk_at "sc")
  | exact xAddT (by walk_at "sc"))
local macro_rules | `(tactic| walk_at "rc") => `(tactic| first | exact xLenL | exact xLenT | exact xListL | exact xListT | exact xTupL | exact xTupT | exact xMax2 | exact xInt | exact rc_all | exact rc_any)
local macro_rules | `(tactic| walk_at "ea") => `(tactic| first | exact ea_nil | refine ea_cons (by walk_at "ev") (by walk_at "ea"))
local macro_rules | `(tactic| walk_at "eo") => `(tactic| first | exact eo_none | refine eo_some (by walk_at "ev"))
local macro_rules | `(tactic| walk_at "et") => `(tactic| first
  | ((with_reducible show EvT _ _ (tTest _) _ _ _ _); exact et_test (by walk_at "ev"))
  | ((with_reducible show EvT _ _ (tNot _) _ _ _ _); exact et_not (by walk_at "et"))
  | ((with_reducible show EvT _ _ (tAnd _ _) _ _ _ _); exact et_and (by walk_at "et") (fun hh => by walk_at "et"))
  | ((with_reducible show EvT _ _ (tOr _ _) _ _ _ _); exact et_or (by walk_at "et") (fun hh => by walk_at "et"))
  | ((with_reducible show EvT _ _ (tTru _ _) _ _ _ _); exact xTru (by walk_at "ev") (by walk_at "sc"))
  | ((with_reducible show EvT _ _ tYes _ _ _ _); exact et_yes))
local macro_rules | `(tactic| walk_at "ev") => `(tactic| first
  | ((with_reducible show EvD _ _ (tC _) _ _ _ _); first | exact ev_int | exact ev_bl | exact ev_str | exact ev_non)
  | ((with_reducible show EvD _ _ (tVar _) _ _ _ _); exact ev_var (by rfl) (by walk_at "rp"))
  | ((with_reducible show EvD _ _ (tOp _ _ _) _ _ _ _); exact ev_op (by walk_at "ev") (by walk_at "ev") (by walk_at "rv"))
  | ((with_reducible show EvD _ _ (tUn _ _) _ _ _ _); exact ev_un (by walk_at "ev") xNeg)
  | ((with_reducible show EvD _ _ (tCB _ _) _ _ _ _); exact ev_cb (by walk_at "ea") (by walk_at "rc"))
  | ((with_reducible show EvD _ _ (tTup _) _ _ _ _); exact ev_tup (by walk_at "ea") (by walk_at "sc"))
  | ((with_reducible show EvD _ _ (tLst _) _ _ _ _); exact ev_lst (by walk_at "ea") (by walk_at "sc"))
  | ((with_reducible show EvD _ _ (tSl _ _ _ _) _ _ _ _); first | exact xSlL (by walk_at "ev") (by walk_at "eo") (by walk_at "eo") | exact xSlT (by walk_at "ev") (by walk_at "eo") (by walk_at "eo"))
  | ((with_reducible show EvD _ _ (tNotT _ _) _ _ _ _); exact ev_notT (by walk_at "ev") (by walk_at "sc"))
  | ((with_reducible show EvD _ _ (tAndT _ _ _) _ _ _ _); exact ev_andB (by walk_at "ev") (fun hh => by walk_at "ev"))
  | ((with_reducible show EvD _ _ (tOrT _ _ _) _ _ _ _); exact ev_orB (by walk_at "ev") (fun hh => by walk_at "ev")))

local macro_rules | `(tactic| walk_at "ev") => `(tactic| ((with_reducible show EvD _ _ (tCall (sp_is_number _) _ _ _) _ _ _ _); exact ev_is_number (by walk_at "ea")))
local macro_rules | `(tactic| walk_at "ev") => `(tactic| ((with_reducible show EvD _ _ (tCall (sp_is_name _) _ _ _) _ _ _ _); exact ev_is_name (by walk_at "ea") (by walk_at "sc")))
local macro_rules | `(tactic| walk_at "ev") => `(tactic| ((with_reducible show EvD _ _ (tCall (sp_is_octets _) _ _ _) _ _ _ _); exact ev_is_octets (by walk_at "ea") (by walk_at "sc")))
local macro_rules | `(tactic| walk_at "ev") => `(tactic| ((with_reducible show EvD _ _ (tCall (sp_octet_of _) _ _ _) _ _ _ _); exact ev_octet_of (by walk_at "ea") (by walk_at "sc")))
local macro_rules | `(tactic| walk_at "ev") => `(tactic| ((with_reducible show EvD _ _ (tCall (sp_is_deed _) _ _ _) _ _ _ _); exact ev_is_deed (by walk_at "ea") (by walk_at "sc")))
local macro_rules | `(tactic| walk_at "ev") => `(tactic| ((with_reducible show EvD _ _ (tCall (sp_rest_in _) _ _ _) _ _ _ _); exact ev_rest_in (by walk_at "ea") (by walk_at "sc")))
local macro_rules | `(tactic| walk_at "ev") => `(tactic| ((with_reducible show EvD _ _ (tCall (sp_plain_deed _) _ _ _) _ _ _ _); exact ev_plain_deed (by walk_at "ea") (by walk_at "sc")))
local macro_rules | `(tactic| walk_at "ev") => `(tactic| ((with_reducible show EvD _ _ (tCall (sp_deed_of _) _ _ _) _ _ _ _); exact ev_deed_of (by walk_at "ea") (by walk_at "sc")))
local macro_rules | `(tactic| walk_at "ev") => `(tactic| ((with_reducible show EvD _ _ (tCall (sp_lines_read _) _ _ _) _ _ _ _); exact ev_lines_read (by walk_at "ea") (by walk_at "sc")))
local macro_rules | `(tactic| walk_at "ev") => `(tactic| ((with_reducible show EvD _ _ (tCall (sp_deeds_fault _) _ _ _) _ _ _ _); exact ev_deeds_fault (by walk_at "ea") (by walk_at "sc")))
section
variable {K : PySem.W.Frag} {w : World} {F H F' H' F1 H1 F2 H2 : Hp} {M : List Addr} {σ : L2.St} {te ta tb tc : TE} {tt tu : TT} {d x y z : PyData} {D : Ends}
/-- how long the text of deeds is, at most -/
def sumL (ds : List Deed) : Nat := (ds.map fun d => (deedLine d ++ nln).length).sum
def FitDeed (d : Deed) : Prop := GoodDeed d ∧ (partsD d).length ≤ 20000
/-- a row; the first k things are deeds, the next one, if there is one, is none -/
structure RowK (K : PySem.W.Frag) (F : Hp) (v : V) (d : PyData) (es : List PyData) (ds : List Deed) : Prop where
  rp : Rp K F v d
  row : rowD d = some es
  pt : Pt 4 d
  le : ds.length ≤ es.length
  ten : ds.length ≤ 100000
  fit : ∀ x ∈ ds, FitDeed x
  told : ∀ (j : Nat) x y, es[j]? = some x → ds[j]? = some y → plD x = progD y
def sp_deeds_text (K : PySem.W.Frag) : Sp := fun vs H Q E => ∃ (v : V) (F : Hp), vs = [v] ∧ Same F H ∧
  ((∃ d es ds, RowK K F v d es ds ∧ ds.length = es.length ∧ sumL ds ≤ 900000 ∧ ∀ F' H' u, Sx [] F H F' H' → Rp K F' u (.str (deedsText ds)) → Q u H') ∨
   (∃ d es ds x, RowK K F v d es ds ∧ es[ds.length]? = some x ∧ plD x = .none ∧ ∀ F' H' C a, Sx [] F H F' H' → ClsA K "BadDeed" C → H' a = some (.xd [("index", .int (ds.length : Nat))]) → E (.ref C) (some a) H') ∨
   (∃ t : String, (∀ H', Same H H' → TyX K H' v (.type t)) ∧ ["list", "tuple"].all (kitOk t) = true ∧ ["list", "tuple"].any (kitA t) = false ∧ ∀ F' H' C a, Sx [] F H F' H' → ClsA K "BadDeed" C → H' a = some (.xd [("index", .int 0)]) → E (.ref C) (some a) H'))
theorem len_deeds_text {vs : List V} {Q : VK} {E : XK} (h : sp_deeds_text K vs H Q E) : vs.length = ["deeds"].length := by
  obtain ⟨v, F, rfl, _⟩ := h
  rfl
abbrev N_deeds_text : List Str := ["deeds", "lines", "index", "thing", "deed", "words", "one"]
def t_deeds_text (K : PySem.W.Frag) (E : XK) : TS :=
  (tSeq (tIfS (tNot (tTru K (tCall (sp_is_row K) [] E0 (tCons (tVar 0) tNil))))
   (tRaiseX K "BadDeed" "index" (tCons (tC (.int 0)) tNil) (fun cls d _ H => E cls d H))
   tNext)
  (tSeq (tAsg (tLst tNil) (gName 1))
  (tSeq (tFor (iEnumU K (tCons (tVar 0) tNil)) (gTup K 2 (gCons (gName 2) (gCons (gName 3) gNil)))
   (tSeq (tAsg (tCall (sp_plain_deed K) [] E0 (tCons (tVar 3) tNil)) (gName 4))
    (tSeq (tIfS (tTest (tOp rIsN (tVar 4) (tC (.non))))
     (tRaiseX K "BadDeed" "index" (tCons (tVar 2) tNil) (fun cls d _ H => E cls d H))
     tNext)
    (tSeq (tAsg (tOp (rAddU K) (tCB (rListOf K) (tCons (tSl (rSlU K) (tVar 4) tNoPart (tPart (tC (.int 2)))) tNil)) (tLc (iSeq K (tIf (tTest (tOp rGtI (tCB (rLen K) (tCons (tVar 4) tNil)) (tC (.int 2)))) (tOp (rIx K) (tVar 4) (tC (.int 2))) (tTup tNil))) (gName 6) tYes (tCB rStrU (tCons (tVar 6) tNil)) [6])) (gName 5))
    (tDrop (tBM K "list" rAppend (tVar 1) (tCons (tOp rAddS (tM1 (rJoin K) (tC (.str " ")) (tVar 5)) (tC (.str "\n"))) tNil)))))))
  (tRet (tM1 (rJoin K) (tC (.str "")) (tVar 1))))))
abbrev N_read_deeds : List Str := ["text", "found", "number", "deed", "one"]
def t_read_deeds (K : PySem.W.Frag) (E : XK) : TS :=
  (tSeq (tAsg (tCall (sp_lines_read K) [] E0 (tCons (tVar 0) tNil)) (gTup K 2 (gCons (gName 1) (gCons (gName 2) gNil))))
  (tSeq (tIfS (tTest (tOp rNotN (tVar 2) (tC (.non))))
   (tRaiseX K "BadLine" "line" (tCons (tVar 2) tNil) (fun cls d _ H => E cls d H))
   tNext)
  (tRet (tLc (iSeq K (tVar 1)) (gName 3) tYes (tCB (rTupleOf K) (tCons (tLc (iSeq K (tVar 3)) (gName 4) tYes (tIf (tTru K (tCall (sp_is_row K) [] E0 (tCons (tVar 4) tNil))) (tCB (rListOf K) (tCons (tVar 4) tNil)) (tVar 4)) [4]) tNil)) [3]))))
theorem rd_deeds_text_norow {v : V} {t : String} {E : XK} {D : Ends} (e : Same F H) (ht : ∀ H', Same H H' → TyX K H' v (.type t)) (hk : ["list", "tuple"].all (kitOk t) = true) (hn : ["list", "tuple"].any (kitA t) = false) (k : ∀ F' H' C a, Sx [] F H F' H' → ClsA K "BadDeed" C → H' a = some (.xd [("index", .int 0)]) → E (.ref C) (some a) H') :
    t_deeds_text K E D [some v, none, none, none, none, none, none] H := by
  refine ⟨v, rfl, v, t, F, by rw [List.append_nil], e, ht, hk, fun F1 H1 s1 => ⟨false, by rw [hn]; rfl, ?_⟩⟩
  refine iteT (st_raiseX (d := .int 0) (f := "index") s1.fh ev_int fun F2 H2 C a u s2 hC ha ru => ?_)
  cases ru.int_of
  exact k F2 H2 C a (s1.trans s2) hC ha
/-- the line's words of a plain deed: what `words` holds -/
theorem progD_rows (x : Deed) : ∃ l, progD x = .tuple ((headD2 x).map .str ++ l) ∧ (l = [] ∧ partsD x = [] ∨ l = [.tuple (partsD x)]) := by
  cases x with
  | drop n => exact ⟨[], rfl, .inl ⟨rfl, rfl⟩⟩
  | chain n ns => exact ⟨[_], rfl, .inr rfl⟩
  | octs w n os => exact ⟨[_], rfl, .inr rfl⟩
theorem progD_non (x : Deed) : isNon (progD x) = false := by cases x <;> rfl
theorem en_mapT {j : Nat} {ds : List PyData} {g : PyData → PyData} (h : EvD K M te σ F H (.tuple ds)) (hl : ds.length ≤ 1000000) (hw : ∀ v, wipe ((wipe σ [j]).set j (some v)) [j] = wipe σ [j])
    (he : ∀ x ∈ ds, ∀ F1 H1 v, Rp K F1 v x → Sx M F H F1 H1 → EvD K M ta ((wipe σ [j]).set j (some v)) F1 H1 (g x)) :
    EvN K M (tLc (iSeq K te) (gName j) tYes ta [j]) σ F H (ds.map g) := by
  have hn := xLcT (en_lcT (K := K) (M := M) (σ := σ) (te := ta) (tt := tYes) (vs := [j]) ds id g (fun _ => true) (fun a => Nm K j a) (by rw [List.map_id]; exact h) hl (fun _ _ => tg_nm)
      (fun a _ F1 σ' ⟨v, _, hσ⟩ => by subst hσ; exact hw v) (fun _ _ _ _ _ _ _ => et_yes) (fun a ha _ F1 H1 σ' s' ⟨v, rv, hσ⟩ => by subst hσ; exact he a ha F1 H1 v rv s'))
  rw [filter_yes] at hn
  exact hn
/-- one deed's words and line, behind `deed = plain_deed(thing)` -/
theorem ev_words {x : Deed} {v v1 v2 v3 v4 : V} {w5 w6 : Option V} (hg : GoodDeed x) (hl : (partsD x).length ≤ 20000) (r4 : Rp K F v4 (progD x)) :
    EvD K [] (tOp (rAddU K) (tCB (rListOf K) (tCons (tSl (rSlU K) (tVar 4) tNoPart (tPart (tC (.int 2)))) tNil)) (tLc (iSeq K (tIf (tTest (tOp rGtI (tCB (rLen K) (tCons (tVar 4) tNil)) (tC (.int 2)))) (tOp (rIx K) (tVar 4) (tC (.int 2))) (tTup tNil))) (gName 6) tYes (tCB rStrU (tCons (tVar 6) tNil)) [6]))
      [some v, some v1, some v2, some v3, some v4, w5, none] F H (.list ((deedWords x).map .str)) := by
  obtain ⟨l, hl1, hl2⟩ := progD_rows x
  rw [hl1] at r4
  have hh2 : (headD2 x).length = 2 := by cases x <;> rfl
  have hA : EvD K [] (tCB (rListOf K) (tCons (tSl (rSlU K) (tVar 4) tNoPart (tPart (tC (.int 2)))) tNil)) [some v, some v1, some v2, some v3, some v4, w5, none] F H (.list ((headD2 x).map .str)) := ev_cb (ea_cons (EvD.is (xSlT (ev_var rfl r4) eo_none (eo_some ev_int)) (by
    rw [show ((2 : Int)) = ((2 : Nat) : Int) from rfl, cut_take, List.take_left' (by rw [List.length_map, hh2])])) ea_nil) xListT
  have hB : EvD K [] (tIf (tTest (tOp rGtI (tCB (rLen K) (tCons (tVar 4) tNil)) (tC (.int 2)))) (tOp (rIx K) (tVar 4) (tC (.int 2))) (tTup tNil)) [some v, some v1, some v2, some v3, some v4, w5, none] F H (.tuple (partsD x)) := by
    rcases hl2 with ⟨h, h2⟩ | h
    · refine ev_if (b := decide ((((headD2 x).map PyData.str ++ l).length : Int) > 2)) (et_test (ev_op (ev_cb (ea_cons (ev_var rfl r4) ea_nil) xLenT) ev_int xGt)) (fun z => ?_) fun _ => ?_
      · rw [h, List.append_nil, List.length_map, hh2] at z; simp at z
      · rw [h2]; exact ev_tup ea_nil (by simp)
    · refine ev_if (b := decide ((((headD2 x).map PyData.str ++ l).length : Int) > 2)) (et_test (ev_op (ev_cb (ea_cons (ev_var rfl r4) ea_nil) xLenT) ev_int xGt)) (fun _ => ?_) fun z => ?_
      · refine ev_ixRow (k := 2) (d := .tuple ((headD2 x).map .str ++ l)) (ev_var rfl r4) rfl ?_
        rw [h, List.getElem?_append_right (by rw [List.length_map, hh2]; exact Nat.le_refl 2), List.length_map, hh2]; rfl
      · rw [h, List.length_append, List.length_map, hh2] at z; simp at z
  have e1 : (headD2 x).map PyData.str ++ (partsD x).map (fun x => .str (strD x)) = (deedWords x).map .str := by rw [deed_parts, List.map_append, List.map_map]; rfl
  exact EvD.is (ev_op hA (EvN.ev (en_mapT (j := 6) (g := fun x => .str (strD x)) hB (by omega) (fun _ => rfl) fun y hy F3 H3 v3 r3 s3 => ev_cb (ea_cons (ev_var rfl r3) ea_nil) (xStrD (parts_kind hg y hy)))) (xAddL (by rw [List.length_map, List.length_map, hh2]; omega))) (congrArg PyData.list e1)
end
end Sf

/-! deeds told as texts, read from texts: deeds_text -/
namespace Sf
open PySem L2 RZ TL
/-! evaluation, construct by construct -/
local macro_rules | `(tactic| walk_at "rp") => `(tactic| first | assumption | exact .int _ | exact .bl _ | exact .str _ | exact .non | exact Rp.mono (Sx.ff (by assumption)) (by walk_at "rp"))
local macro_rules | `(tactic| walk_at "sc") => `(tactic| first | rfl | assumption | omega | decide | (simp; done) | (simp; omega))
local macro_rules | `(tactic| walk_at "ix") => `(tactic| first | rfl | assumption)
local macro_rules | `(tactic| walk_at "rv") => `(tactic| first
  | exact xAddI | exact xSub | exact xLt | exact xLe | exact xGt | exact xGe | exact xIsN | exact xNotN | exact xEqI | exact xNeI | exact xEqB | exact xNeB | exact xEqLB | exact xEqTB | exact xNeTB
  | exact xMod (by walk_at "sc")
  | exact xDiv (by walk_at "sc")
  | exact xPow (by walk_at "sc")
  | exact xMulI (by walk_at "sc")
  | exact rv_ixt (by walk_at "ix")
  | exact rv_ixl (by walk_at "ix")
  | exact xAddL (by walk_at "sc")
  | exact xAddT (by walk_at "sc"))
local macro_rules | `(tactic| walk_at "rc") => `(tactic| first | exact xLenL | exact xLenT | exact xListL | exact xListT | exact xTupL | exact xTupT | exact xMax2 | exact xInt | exact rc_all | exact rc_any)
local macro_rules | `(tactic| walk_at "ea") => `(tactic| first | exact ea_nil | refine ea_cons (by walk_at "ev") (by walk_at "ea"))
local macro_rules | `(tactic| walk_at "eo") => `(tactic| first | exact eo_none | refine eo_some (by walk_at "ev"))
local macro_rules | `(tactic| walk_at "et") => `(tactic| first
  | ((with_reducible show EvT _ _ (tTest _) _ _ _ _); exact et_test (by walk_at "ev"))
  | ((with_reducible show EvT _ _ (tNot _) _ _ _ _); exact et_not (by walk_at "et"))
  | ((with_reducible show EvT _ _ (tAnd _ _) _ _ _ _); exact et_and (by walk_at "et") (fun hh => by walk_at "et"))
  | ((with_reducible show EvT _ _ (tOr _ _) _ _ _ _); exact et_or (by walk_at "et") (fun hh => by walk_at "et"))
  | ((with_reducible show EvT _ _ (tTru _ _) _ _ _ _); exact xTru (by walk_at "ev") (by walk_at "sc"))
  | ((with_reducible show EvT _ _ tYes _ _ _ _); exact et_yes))
local macro_rules | `(tactic| walk_at "ev") => `(tactic| first
  | ((with_reducible show EvD _ _ (tC _) _ _ _ _); first | exact ev_int | exact ev_bl | exact ev_str | exact ev_non)
  | ((with_reducible show EvD _ _ (tVar _) _ _ _ _); exact ev_var (by rfl) (by walk_at "rp"))
  | ((with_reducible show EvD _ _ (tOp _ _ _) _ _ _ _); exact ev_op (by walk_at "ev") (by walk_at "ev") (by walk_at "rv"))
  | ((with_reducible show EvD _ _ (tUn _ _) _ _ _ _); exact ev_un (by walk_at "ev") xNeg)
  | ((with_reducible show EvD _ _ (tCB _ _) _ _ _ _); exact ev_cb (by walk_at "ea") (by walk_at "rc"))
  | ((with_reducible show EvD _ _ (tTup _) _ _ _ _); exact ev_tup (by walk_at "ea") (by walk_at "sc"))
  | ((with_reducible show EvD _ _ (tLst _) _ _ _ _); exact ev_lst (by walk_at "ea") (by walk_at "sc"))
  | ((with_reducible show EvD _ _ (tSl _ _ _ _) _ _ _ _); first | exact xSlL (by walk_at "ev") (by walk_at "eo") (by walk_at "eo") | exact xSlT (by walk_at "ev") (by walk_at "eo") (by walk_at "eo"))
  | ((with_reducible show EvD _ _ (tNotT _ _) _ _ _ _); exact ev_notT (by walk_at "ev") (by walk_at "sc"))
  | ((with_reducible show EvD _ _ (tAndT _ _ _) _ _ _ _); exact ev_andB (by walk_at "ev") (fun hh => by walk_at "ev"))
  | ((with_reducible show EvD _ _ (tOrT _ _ _) _ _ _ _); exact ev_orB (by walk_at "ev") (fun hh => by walk_at "ev")))

local macro_rules | `(tactic| walk_at "ev") => `(tactic| ((with_reducible show EvD _ _ (tCall (sp_is_number _) _ _ _) _ _ _ _); exact ev_is_number (by walk_at "ea")))
local macro_rules | `(tactic| walk_at "ev") => `(tactic| ((with_reducible show EvD _ _ (tCall (sp_is_name _) _ _ _) _ _ _ _); exact ev_is_name (by walk_at "ea") (by walk_at "sc")))
local macro_rules | `(tactic| walk_at "ev") => `(tactic| ((with_reducible show EvD _ _ (tCall (sp_is_octets _) _ _ _) _ _ _ _); exact ev_is_octets (by walk_at "ea") (by walk_at "sc")))
local macro_rules | `(tactic| walk_at "ev") => `(tactic| ((with_reducible show EvD _ _ (tCall (sp_octet_of _) _ _ _) _ _ _ _); exact ev_octet_of (by walk_at "ea") (by walk_at "sc")))
local macro_rules | `(tactic| walk_at "ev") => `(tactic| ((with_reducible show EvD _ _ (tCall (sp_is_deed _) _ _ _) _ _ _ _); exact ev_is_deed (by walk_at "ea") (by walk_at "sc")))
local macro_rules | `(tactic| walk_at "ev") => `(tactic| ((with_reducible show EvD _ _ (tCall (sp_rest_in _) _ _ _) _ _ _ _); exact ev_rest_in (by walk_at "ea") (by walk_at "sc")))
local macro_rules | `(tactic| walk_at "ev") => `(tactic| ((with_reducible show EvD _ _ (tCall (sp_plain_deed _) _ _ _) _ _ _ _); exact ev_plain_deed (by walk_at "ea") (by walk_at "sc")))
local macro_rules | `(tactic| walk_at "ev") => `(tactic| ((with_reducible show EvD _ _ (tCall (sp_deed_of _) _ _ _) _ _ _ _); exact ev_deed_of (by walk_at "ea") (by walk_at "sc")))
local macro_rules | `(tactic| walk_at "ev") => `(tactic| ((with_reducible show EvD _ _ (tCall (sp_lines_read _) _ _ _) _ _ _ _); exact ev_lines_read (by walk_at "ea") (by walk_at "sc")))
local macro_rules | `(tactic| walk_at "ev") => `(tactic| ((with_reducible show EvD _ _ (tCall (sp_deeds_fault _) _ _ _) _ _ _ _); exact ev_deeds_fault (by walk_at "ea") (by walk_at "sc")))
section
variable {K : PySem.W.Frag} {w : World} {F H F' H' F1 H1 F2 H2 : Hp} {M : List Addr} {σ : L2.St} {te ta tb tc : TE} {tt tu : TT} {d x y z : PyData} {D : Ends}
theorem wordsL {d : Deed} (h : FitDeed d) : (deedWords d).length ≤ 20002 ∧ ((deedWords d).map (·.length)).sum + (deedWords d).length * spc.length ≤ 190000 := by
  have h3 : (deedWords d).length ≤ 20002 := by
    rw [deed_parts, List.length_append, List.length_map]
    have := h.2
    cases d <;> simp [headD2] <;> omega
  have h2 := sum_le (word_len h.1)
  have h4 : spc.length = 1 := rfl
  rw [h4]
  exact ⟨h3, by omega⟩
theorem lineL {d : Deed} (h : FitDeed d) : (deedLine d).length ≤ 190000 := Nat.le_trans (join_len spc (deedWords d)) (wordsL h).2
theorem rd_row {v : V} {es : List PyData} {ds : List Deed} {E : XK} (e : Same F H) (R : RowK K F v d es ds)
    (bad : ∀ x, es[ds.length]? = some x → plD x = .none ∧ ∀ F' H' C a, Sx [] F H F' H' → ClsA K "BadDeed" C → H' a = some (.xd [("index", .int (ds.length : Nat))]) → E (.ref C) (some a) H')
    (good : ds.length = es.length → sumL ds ≤ 900000 ∧ ∀ F' H' u, Sx [] F H F' H' → Rp K F' u (.str (deedsText ds)) → D.rt u H') :
    t_deeds_text K E D [some v, none, none, none, none, none, none] H := by
  have h1 := R.rp
  have hd := R.row
  obtain ⟨hpt, hlen⟩ := R.pt.row hd
  refine q_when (K := K) (M := []) (b := !isRow d) e (et_not (xTru (ev_is_row (ea_cons (ev_var rfl h1) ea_nil)) rfl)) (fun z => by rw [(row_is hd).2] at z; cases z) fun _ F1 H1 s1 => ?_
  refine q_setN (K := K) (M := []) s1.fh (en_lst ea_nil (by decide)) fun F2 H2 p vs0 s2 np0 np1 hp2 r0 => ?_
  cases r0
  have s12 := s1.trans s2
  have np : H p = none := s1.same.free np0
  have walk : ∀ M : List Addr, EvW K M (iEnumU K (tCons (tVar 0) tNil)) [some v, some (.ref p), none, none, none, none, none] F2 H2 es.length (fun i => .tuple [.int (0 + (i : Nat)), es.getD i .none]) := fun M => by
    rcases (row_is hd).1 with rfl | rfl
    · exact ew_enumL (ea_cons (ev_var rfl (h1.mono s12.ff)) ea_nil) rfl (fun i hi => getD_at hi)
    · exact ew_enumT (ea_cons (ev_var rfl (h1.mono s12.ff)) ea_nil) rfl (fun i hi => getD_at hi)
  refine q_forW (K := K) (M := [p]) es.length (fun i => .tuple [.int (0 + (i : Nat)), es.getD i .none]) (fun i => Nm2 K 2 3 (.int (0 + (i : Nat))) (es.getD i .none))
    (fun i σ' F' H' => i ≤ ds.length ∧ ∃ (vs : List V) (w2 w3 w4 w5 : Option V), Sx [] F H F' H' ∧ F' p = none ∧ H' p = some (.lst vs) ∧ RpAll K F' vs ((ds.take i).map fun d => .str (deedLine d ++ nln)) ∧ σ' = [some v, some (.ref p), w2, w3, w4, w5, none])
    s2.fh (walk [p]) (fun _ _ => tg_nm2) (fun F4 H4 s4 => ?_) (fun F4 H4 s4 i σ' F' H' F'' H'' σ'' hi s' hI s'' hσ => ?_) (fun σ' F' H' s' hI => ?_)
  · exact ⟨Nat.zero_le _, [], none, none, none, none, s12.trans s4, s4.sep _ np1 (by rw [hp2]; simp), s4.hh _ _ (by simp) hp2, by simp; exact .nil, rfl⟩
  · obtain ⟨hik, vs, w2, w3, w4, w5, s0, n', hp', rls, rfl⟩ := hI
    obtain ⟨a, b, ra, rb, rfl⟩ := hσ
    cases ra.int_of
    have s0' := s0.trans s''
    have n'' := s''.sep _ n' (by rw [hp']; simp)
    have hp'' := s''.hh _ _ (by simp) hp'
    have hgi : es[i]? = some (es.getD i .none) := getD_at hi
    generalize es.getD i .none = x at rb hgi
    have hx3 : Pt 3 x := hpt x (List.mem_of_getElem? hgi)
    refine q_set (K := K) (M := []) (d := plD x) s''.fh (ev_plain_deed (ea_cons (ev_var rfl rb) ea_nil) hx3) fun F5 H5 v5 s5 r5 => ?_
    have n5 := s5.sep _ n'' (by rw [hp'']; simp)
    have hp5 := s5.hh _ _ (by simp) hp''
    refine q_when (K := K) (M := []) (b := isNon (plD x)) s5.fh (et_test (ev_op (ev_var rfl r5) ev_non xIsN)) (fun hb F6 H6 s6 => ?_) (fun hb F6 H6 s6 => ?_)
    · have hik2 : i = ds.length := by
        rcases Nat.lt_or_ge i ds.length with h | h
        · rw [R.told i x _ hgi (List.getElem?_eq_getElem h), progD_non] at hb
          cases hb
        · omega
      subst hik2
      refine st_raiseX (d := .int (0 + (ds.length : Nat))) (f := "index") s6.fh (ev_var rfl (.int _)) fun F7 H7 C a u s7 hC ha ru => ?_
      cases ru.int_of
      exact (bad x hgi).2 F7 H7 C a (((s0'.trans s5).trans s6).trans s7) hC (by rw [ha, Int.zero_add])
    · have hlt : i < ds.length := by
        rcases Nat.lt_or_ge i ds.length with h | h
        · exact h
        · have : i = ds.length := by omega
          subst this
          rw [(bad x hgi).1] at hb
          cases hb
      have hy := List.getElem?_eq_getElem hlt
      generalize ds[i] = y at hy
      have hfit := R.fit y (List.mem_of_getElem? hy)
      rw [R.told i x y hgi hy] at r5
      have n6 := s6.sep _ n5 (by rw [hp5]; simp)
      have hp6 := s6.hh _ _ (by simp) hp5
      refine q_set (K := K) (M := []) (d := .list ((deedWords y).map .str)) s6.fh (ev_words (w6 := none) (x := y) hfit.1 hfit.2 (r5.mono s6.ff)) fun F8 H8 v8 s8 r8 => ?_
      have n8 := s8.sep _ n6 (by rw [hp6]; simp)
      have hp8 := s8.hh _ _ (by simp) hp6
      have hvl : vs.length ≤ 1000000 := by
        rw [rls.length, List.length_map, List.length_take]
        have := R.ten
        omega
      have hW := wordsL hfit
      have hL := lineL hfit
      refine st_append (d := .str (deedLine y ++ nln)) s8.fh rfl hp8 hvl (ev_op (xJoinL (ss := deedWords y) ev_str (ev_var rfl r8) (Nat.le_trans hW.2 (by decide))) ev_str (xAddS (by
        show (deedLine y).length + nln.length ≤ 1000000
        have h1 : nln.length = 1 := rfl
        omega))) fun F7 H7 v7 s7 hp7 r7 => ?_
      have n7 := s7.sep _ n8 (by rw [hp8]; simp)
      have sA := (((s0'.trans s5).trans s6).trans s8).trans s7
      have sB : Sx [p] F4 H4 F7 H7 := s'.trans ((((s''.trans s5).trans s6).trans s8).trans s7).up
      refine ⟨F7, Sx.put sB _ (.inl (by simp)) n7, hlt, vs ++ [v7], _, _, _, _, Sx.put sA _ (.inr np) n7, n7, upd_same, ?_, rfl⟩
      rw [List.take_add_one, hy, List.map_append]
      exact ((((rls.mono s''.ff).mono s5.ff).mono s6.ff |>.mono s8.ff).mono s7.ff).append (.one r7)
  · obtain ⟨hik, vs, w2, w3, w4, w5, s0, n', hp', rls, rfl⟩ := hI
    have hkl : ds.length = es.length := Nat.le_antisymm R.le hik
    obtain ⟨hsum, k⟩ := good hkl
    rw [← hkl, List.take_length] at rls
    have s7 := Sx.fix s0 np hp' n'
    have rp : Rp K (upd F' p (.lst vs)) (.ref p) (.list (ds.map fun d => .str (deedLine d ++ nln))) := .lst upd_same (rls.mono (fix_same n'))
    have hten := R.ten
    refine st_ret (K := K) (M := []) (d := .str (deedsText ds)) s7.fh (EvD.is (xJoinL (a := Str.empty) (ss := ds.map fun d => deedLine d ++ nln) ev_str (EvD.is (ev_var rfl rp) (by rw [List.map_map]; rfl)) ?_) (by rw [text_told])) fun F8 H8 u s8 ru => k F8 H8 u (s7.trans s8) ru
    have h4 : Str.empty.length = 0 := rfl
    rw [h4, List.map_map]
    have e1 : (ds.map ((fun x : Str => x.length) ∘ fun d => deedLine d ++ nln)).sum = sumL ds := rfl
    rw [e1]
    omega
theorem rd_deeds_text {vs : List V} {Q : VK} {E : XK} (h : sp_deeds_text K vs H Q E) : t_deeds_text K E { nx := fun _ H' => Q .non H', rt := Q } (L2.start N_deeds_text vs) H := by
  obtain ⟨v, F, rfl, e, h | h | h⟩ := h
  · obtain ⟨d, es, ds, R, hl, hs, k⟩ := h
    exact rd_row e R (fun x hx => by rw [hl, List.getElem?_eq_none (Nat.le_refl _)] at hx; cases hx) fun _ => ⟨hs, k⟩
  · obtain ⟨d, es, ds, x, R, hx, hn, k⟩ := h
    refine rd_row e R (fun x' hx' => ?_) fun hl => ?_
    · rw [hx] at hx'
      cases hx'
      exact ⟨hn, k⟩
    · rw [hl, List.getElem?_eq_none (Nat.le_refl _)] at hx
      cases hx
  · obtain ⟨t, ht, hk, hn, k⟩ := h
    exact rd_deeds_text_norow e ht hk hn k
end
end Sf

/-! owned data: lists that stand at addresses of their own, not frozen; what makes them; list.count of data -/
namespace Sf
open PySem PySem.Spec PyProof.Rows L2 RZ TL
mutual
/-- v stands for d; its lists stand at the addresses L, each one once, none of them frozen -/
inductive Ow (K : PySem.W.Frag) (F H : Hp) : V → PyData → List Addr → Prop where
  | non : Ow K F H .non .none []
  | bl (b : Bool) : Ow K F H (.bl b) (.bool b) []
  | int (i : Int) : Ow K F H (.int i) (.int i) []
  | str (x : Str) : Ow K F H (.str x) (.str x) []
  | lst {a : Addr} {xs : List V} {ds : List PyData} {L : List Addr} : H a = some (.lst xs) → F a = none → OwA K F H xs ds L → a ∉ L → Ow K F H (.ref a) (.list ds) (a :: L)
  | tup {a : Addr} {xs : List V} {ds : List PyData} {L : List Addr} : SqT K F a xs → OwA K F H xs ds L → Ow K F H (.ref a) (.tuple ds) L
inductive OwA (K : PySem.W.Frag) (F H : Hp) : List V → List PyData → List Addr → Prop where
  | nil : OwA K F H [] [] []
  | cons {v : V} {vs : List V} {d : PyData} {ds : List PyData} {L L' : List Addr} : Ow K F H v d L → OwA K F H vs ds L' → (∀ b ∈ L, b ∉ L') → OwA K F H (v :: vs) (d :: ds) (L ++ L')
end
section
variable {K : PySem.W.Frag} {F H F' H' F1 H1 F2 H2 : Hp} {M : List Addr} {σ : L2.St} {te ta tb : TE} {d : PyData}
mutual
theorem Ow.keep (ff : Same F F') : ∀ {v : V} {d : PyData} {L : List Addr}, Ow K F H v d L → (∀ b ∈ L, H' b = H b ∧ F' b = none) → Ow K F' H' v d L
  | _, _, _, .non, _ => .non
  | _, _, _, .bl b, _ => .bl b
  | _, _, _, .int i, _ => .int i
  | _, _, _, .str x, _ => .str x
  | _, _, _, .lst h f r n, k => .lst ((k _ (by simp)).1.trans h) (k _ (by simp)).2 (OwA.keep ff r fun b hb => k b (by simp [hb])) n
  | _, _, _, .tup h r, k => .tup (same_t ff h) (OwA.keep ff r k)
theorem OwA.keep (ff : Same F F') : ∀ {vs : List V} {ds : List PyData} {L : List Addr}, OwA K F H vs ds L → (∀ b ∈ L, H' b = H b ∧ F' b = none) → OwA K F' H' vs ds L
  | _, _, _, .nil, _ => .nil
  | _, _, _, .cons h r n, k => .cons (Ow.keep ff h fun b hb => k b (by simp [hb])) (OwA.keep ff r fun b hb => k b (by simp [hb])) n
end
mutual
theorem Ow.is : ∀ {v : V} {d : PyData} {L : List Addr}, Ow K F H v d L → ∀ b ∈ L, F b = none ∧ ∃ xs, H b = some (.lst xs)
  | _, _, _, .non, _, z => by cases z
  | _, _, _, .bl b, _, z => by cases z
  | _, _, _, .int i, _, z => by cases z
  | _, _, _, .str x, _, z => by cases z
  | _, _, _, .lst h f r n, b, z => by
    rcases List.mem_cons.mp z with rfl | z
    · exact ⟨f, _, h⟩
    · exact OwA.is r b z
  | _, _, _, .tup h r, b, z => OwA.is r b z
theorem OwA.is : ∀ {vs : List V} {ds : List PyData} {L : List Addr}, OwA K F H vs ds L → ∀ b ∈ L, F b = none ∧ ∃ xs, H b = some (.lst xs)
  | _, _, _, .nil, _, z => by cases z
  | _, _, _, .cons h r n, b, z => by
    rcases List.mem_append.mp z with z | z
    · exact Ow.is h b z
    · exact OwA.is r b z
end
theorem Ow.sx {v : V} {L : List Addr} (h : Ow K F H v d L) (s : Sx M F H F' H') (hm : ∀ b ∈ L, b ∉ M) : Ow K F' H' v d L := h.keep s.ff fun b hb => by
  obtain ⟨f, xs, e⟩ := h.is b hb
  exact ⟨by rw [e]; exact s.hh b _ (hm b hb) e, s.sep b f (by rw [e]; simp)⟩
theorem OwA.sx {vs : List V} {ds : List PyData} {L : List Addr} (h : OwA K F H vs ds L) (s : Sx M F H F' H') (hm : ∀ b ∈ L, b ∉ M) : OwA K F' H' vs ds L := h.keep s.ff fun b hb => by
  obtain ⟨f, xs, e⟩ := h.is b hb
  exact ⟨by rw [e]; exact s.hh b _ (hm b hb) e, s.sep b f (by rw [e]; simp)⟩
mutual
theorem Ow.rp (ff : Same F F') : ∀ {v : V} {d : PyData} {L : List Addr}, Ow K F H v d L → (∀ b ∈ L, F' b = H b) → Rp K F' v d
  | _, _, _, .non, _ => .non
  | _, _, _, .bl b, _ => .bl b
  | _, _, _, .int i, _ => .int i
  | _, _, _, .str x, _ => .str x
  | _, _, _, .lst h f r n, k => .lst ((k _ (by simp)).trans h) (OwA.rp ff r fun b hb => k b (by simp [hb]))
  | _, _, _, .tup h r, k => .tup (same_t ff h) (OwA.rp ff r k)
theorem OwA.rp (ff : Same F F') : ∀ {vs : List V} {ds : List PyData} {L : List Addr}, OwA K F H vs ds L → (∀ b ∈ L, F' b = H b) → RpAll K F' vs ds
  | _, _, _, .nil, _ => .nil
  | _, _, _, .cons h r n, k => .cons (Ow.rp ff h fun b hb => k b (by simp [hb])) (OwA.rp ff r fun b hb => k b (by simp [hb]))
end
/-- what stands at L is frozen, too -/
def frzL (F H : Hp) (L : List Addr) : Hp := fun b => if b ∈ L then H b else F b
theorem Ow.frz {v : V} {L : List Addr} (e : Same F H) (h : Ow K F H v d L) : Same F (frzL F H L) ∧ Same (frzL F H L) H ∧ Rp K (frzL F H L) v d := by
  have ff : Same F (frzL F H L) := fun b o z => by
    unfold frzL
    split
    · rename_i hb
      rw [(h.is b hb).1] at z
      cases z
    · exact z
  refine ⟨ff, fun b o z => ?_, h.rp ff fun b hb => if_pos hb⟩
  unfold frzL at z
  split at z
  · exact z
  · exact e b o z
/-- frozen, where all of it is new -/
theorem Ow.fix {v : V} {L : List Addr} (s : Sx M F H F1 H1) (h : Ow K F1 H1 v d L) (hn : ∀ b ∈ L, H b = none) : Sx M F H (frzL F1 H1 L) H1 ∧ Rp K (frzL F1 H1 L) v d := by
  obtain ⟨h1, h2, h3⟩ := h.frz s.fh
  refine ⟨⟨s.ff.trans h1, h2, s.hh, s.th, fun b z w => ?_⟩, h3⟩
  unfold frzL
  rw [if_neg fun hb => w (hn b hb)]
  exact s.sep b z w
theorem OwA.length {vs : List V} {ds : List PyData} {L : List Addr} (h : OwA K F H vs ds L) : vs.length = ds.length := by
  induction ds generalizing vs L with
  | nil => cases h; rfl
  | cons d ds ih => cases h with | cons _ r _ => simp [ih r]
theorem OwA.snoc {vs : List V} {ds : List PyData} {L L' : List Addr} {v : V} (h : OwA K F H vs ds L) (h' : Ow K F H v d L') (n : ∀ b ∈ L, b ∉ L') : OwA K F H (vs ++ [v]) (ds ++ [d]) (L ++ L') := by
  induction ds generalizing vs L with
  | nil =>
    cases h
    have := OwA.cons h' .nil (fun _ _ z => by cases z)
    rw [List.append_nil] at this
    exact this
  | cons d0 ds ih =>
    cases h with
    | @cons _ _ _ _ L1 L2 h r n0 =>
      rw [List.append_assoc]
      refine .cons h (ih r fun b hb => n b (List.mem_append_right _ hb)) fun b hb z => ?_
      rcases List.mem_append.mp z with z | z
      · exact n0 b hb z
      · exact n b (List.mem_append_left _ hb) z
/-- one of them changes -/
theorem OwA.step {vs : List V} {ds : List PyData} {L : List Addr} {i : Nat} {v : V} {d : PyData} (h : OwA K F H vs ds L) (hv : vs[i]? = some v) (hd : ds[i]? = some d) :
    ∃ Li, Ow K F H v d Li ∧ (∀ b ∈ Li, b ∈ L) ∧ ∀ H' d', Sx Li F H F H' → Ow K F H' v d' Li → OwA K F H' vs (ds.set i d') L := by
  induction ds generalizing vs L i with
  | nil => simp at hd
  | cons d0 ds ih =>
    cases h with
    | @cons v0 vs _ _ L1 L2 h r n0 =>
      cases i with
      | zero =>
        simp at hv hd
        subst hv hd
        exact ⟨L1, h, fun b hb => List.mem_append_left _ hb, fun H' d' s h' => .cons h' (r.sx s fun b hb z => n0 b z hb) n0⟩
      | succ i =>
        obtain ⟨Li, a1, a2, a3⟩ := ih r (by simpa using hv) (by simpa using hd)
        exact ⟨Li, a1, fun b hb => List.mem_append_right _ (a2 b hb), fun H' d' s h' => .cons (h.sx s fun b hb z => n0 b hb (a2 b z)) (a3 H' d' s h') n0⟩
theorem Ow.flat {v : V} (h : Rp K F v d) (hf : flatD d = true) : Ow K F H v d [] := by
  cases h with
  | non => exact .non
  | bl b => exact .bl b
  | int i => exact .int i
  | str x => exact .str x
  | lst _ _ => cases hf
  | tup _ _ => cases hf
theorem OwA.flat {vs : List V} {ds : List PyData} (h : RpAll K F vs ds) (hf : ds.all flatD = true) : OwA K F H vs ds [] := by
  induction ds generalizing vs with
  | nil => cases h; exact .nil
  | cons d ds ih =>
    rw [List.all_cons, Bool.and_eq_true] at hf
    cases h with
    | cons h r => exact OwA.cons (L := []) (L' := []) (.flat h hf.1) (ih r hf.2) fun _ z => by cases z
/-! ### evaluation to owned data -/
def EvOw (K : PySem.W.Frag) (M : List Addr) (te : TE) (σ : L2.St) (F H : Hp) (d : PyData) : Prop :=
  ∀ F1 H1, Sx M F H F1 H1 → ∀ Q : VK, (∀ F2 H2 v L, Sx [] F1 H1 F2 H2 → (∀ b ∈ L, H1 b = none) → Ow K F2 H2 v d L → Q v H2) → te σ H1 Q
theorem EvOw.ev (h : EvOw K M te σ F H d) : EvD K M te σ F H d := fun F1 H1 s Q q => h F1 H1 s Q fun F2 H2 v L s2 hn ho => by
  obtain ⟨s3, rv⟩ := ho.fix s2 hn
  exact q _ _ v s3 rv
theorem ow_d (h : EvD K M te σ F H d) (hf : flatD d = true) : EvOw K M te σ F H d := fun F1 H1 s Q q => h F1 H1 s Q fun F2 H2 v s2 rv => q F2 H2 v [] s2 (fun _ z => by cases z) (.flat rv hf)
theorem ow_listOf {ds : List PyData} (h : EvA K M (tCons te tNil) σ F H [d]) (hd : d = .list ds ∨ d = .tuple ds) (hf : ds.all flatD = true) : EvOw K M (tCB (rListOf K) (tCons te tNil)) σ F H (.list ds) := fun F1 H1 s Q q => h F1 H1 s _ fun F2 H2 vs s2 rs => by
  obtain ⟨v, rfl, rv⟩ := rs.inv1
  have fin : ∀ {a : Addr} {xs : List V}, v = .ref a → (SqL K H2 a xs ∨ SqT K H2 a xs) → RpAll K F2 xs ds → rListOf K [v] H2 Q := fun {a xs} ev hs rx => ⟨a, xs, by rw [ev], hs, fun l hl => by
    have s3 := s2.trans (Sx.newM s2.fh (.lst xs) hl)
    exact q F2 _ (.ref l) [l] s3 (fun b hb => by rw [List.mem_singleton.mp hb]; exact s2.same.free hl) (.lst upd_same (none_of_same s2.fh hl) (.flat rx hf) (by simp))⟩
  rcases hd with rfl | rfl
  · obtain ⟨a, xs, ev, ha, rx⟩ := rv.lst_of
    exact fin ev (.inl (.inl (.inl (s2.fh _ _ ha)))) rx
  · obtain ⟨a, xs, ev, ha, rx⟩ := rv.tup_of
    exact fin ev (.inr (same_t s2.fh ha)) rx
theorem ow_tupOf {ds : List PyData} (h : EvOw K M te σ F H (.list ds)) : EvOw K M (tCB (rTupleOf K) (tCons te tNil)) σ F H (.tuple ds) := fun F1 H1 s Q q => h F1 H1 s _ fun F2 H2 v L s2 hn ho => by
  cases ho with
  | @lst a xs _ L ha fa r nL =>
    refine ⟨a, xs, rfl, .inl ⟨.inl (.inl ha), fun l hl => ?_⟩⟩
    have s3 := Sx.new (M := []) s2.fh (.tup xs) hl
    exact q (upd F2 l (.tup xs)) _ (.ref l) L (s2.trans s3) (fun b hb => hn b (by simp [hb])) (.tup (.inl (.inl upd_same)) (r.sx s3 fun _ _ z => by cases z))
theorem ow_if {tt : TT} {b : Bool} (h : EvT K M tt σ F H b) (h1 : b = true → EvOw K M ta σ F H d) (h2 : b = false → EvOw K M tb σ F H d) : EvOw K M (tIf tt ta tb) σ F H d := fun F1 H1 s Q q =>
  h F1 H1 s _ fun F2 H2 s2 => by
    have back : ∀ {L : List Addr}, (∀ b ∈ L, H2 b = none) → ∀ b ∈ L, H1 b = none := fun hn b hb => s2.same.free (hn b hb)
    cases b with
    | true => exact iteT (h1 rfl F2 H2 (s.trans s2.up) Q fun F3 H3 v L s3 hn ho => q F3 H3 v L (s2.trans s3) (back hn) ho)
    | false => exact iteF (h2 rfl F2 H2 (s.trans s2.up) Q fun F3 H3 v L s3 hn ho => q F3 H3 v L (s2.trans s3) (back hn) ho)
theorem ow_lst2 {x y : PyData} (ha : EvOw K M ta σ F H x) (hb : EvOw K M tb σ F H y) : EvOw K M (tLst (tCons ta (tCons tb tNil))) σ F H (.list [x, y]) := fun F1 H1 s Q q =>
  ha F1 H1 s _ fun F2 H2 v L s2 hn ho => hb F2 H2 (s.trans s2.up) _ fun F3 H3 w L' s3 hn' ho' => ⟨(by show 2 ≤ sizeLine; decide), fun p hp => by
    have s4 := Sx.newM (M := []) s3.fh (.lst [v, w]) hp
    have no : ∀ b ∈ L, b ∉ L' := fun b hb z => by
      obtain ⟨_, xs, e⟩ := ho.is b hb
      rw [hn' b z] at e
      cases e
    have o1 := (ho.sx s3 (fun _ _ z => by cases z)).sx s4 (fun _ _ z => by cases z)
    have o2 := ho'.sx s4 (fun _ _ z => by cases z)
    have oo := OwA.cons o1 (.cons o2 .nil fun _ _ z => by cases z) (fun b hb z => no b hb (by simpa using z))
    rw [List.append_nil] at oo
    have np : ∀ b ∈ L ++ L', H3 b ≠ none := fun b hb => by
      rcases List.mem_append.mp hb with z | z
      · obtain ⟨_, xs, e⟩ := (ho.sx s3 (fun _ _ z => by cases z)).is b z
        rw [e]; simp
      · obtain ⟨_, xs, e⟩ := ho'.is b z
        rw [e]; simp
    refine q F3 _ (.ref p) (p :: (L ++ L')) ((s2.trans s3).trans s4) (fun b hb => ?_) (.lst upd_same (none_of_same s3.fh hp) oo fun z => np p z hp)
    rcases List.mem_cons.mp hb with rfl | hb
    · exact (s2.trans s3).same.free hp
    · rcases List.mem_append.mp hb with z | z
      · exact hn b z
      · exact s2.same.free (hn' b z)⟩
/-- a comprehension whose items are owned -/
theorem ow_lc {wi : TI} {gt : TG} {vs : List Nat} (n : Nat) (e g : Nat → PyData) (P : Nat → L2.St → Hp → L2.St → Prop) (h : EvW K M wi σ F H n e) (hz : n ≤ 1000000)
    (hP : ∀ i, i < n → TgD K gt (e i) (P i)) (hw : ∀ i, i < n → ∀ F1 σ', P i (wipe σ vs) F1 σ' → wipe σ' vs = wipe σ vs)
    (he : ∀ i, i < n → ∀ F1 H1 σ', Sx M F H F1 H1 → P i (wipe σ vs) F1 σ' → EvOw K M te σ' F1 H1 (g i)) :
    EvOw K M (tLc wi gt tYes te vs) σ F H (.list ((List.range n).map g)) := fun F1 H1 s Q q => h F1 H1 s _ fun F2 H2 J s2 ⟨G, Y, wk, hG, hY⟩ => fun Dl hD => by
  refine lc_it wk (fun i H' => ∃ F' ws L, Sx [] F2 H2 F' H' ∧ F' Dl = none ∧ H' Dl = some (.lst ws) ∧ OwA K F' H' ws ((List.range i).map g) L ∧ ∀ b ∈ L, H2 b = none ∧ b ≠ Dl) ⟨F2, [], [], Sx.newM s2.fh _ hD, none_of_same s2.fh hD, upd_same, .nil, by simp⟩
    (fun i H' _ ⟨F', _, _, s3, _⟩ => hG F' H' s3.ff s3.fh) (fun i v H' H'' hi w y => ?_) (fun H' ⟨F', ws, L, s3, n1, hD3, r3, hL⟩ => ?_)
  · obtain ⟨F3, ws, L, s3, n1, hD3, r3, hL⟩ := w
    obtain ⟨F4, s4, rv⟩ := hY i H' v H'' hi y F3 s3.ff s3.fh
    have s04 : Sx M F H F4 H'' := ((s.trans s2.up).trans s3.up).trans s4.up
    have r4 := r3.sx s4 fun _ _ z => by cases z
    refine hP i hi F4 H'' v _ s4.fh rv _ fun σ' hσ => ⟨hw i hi _ _ hσ, ?_⟩
    unfold tYes
    dsimp only
    rw [if_pos rfl]
    refine he i hi F4 H'' σ' s04 hσ F4 H'' (Sx.refl s4.fh) _ fun F6 H6 u L6 s6 hL6 ru => ?_
    have hD4 : H'' Dl = some (.lst ws) := s4.hh _ _ (by simp) hD3
    have hD6 : H6 Dl = some (.lst ws) := s6.hh _ _ (by simp) hD4
    have nF6 : F6 Dl = none := s6.sep _ (s4.sep _ n1 (by rw [hD3]; simp)) (by rw [hD4]; simp)
    have r6 := r4.sx s6 fun _ _ z => by cases z
    have d6 : ∀ b ∈ L6, b ≠ Dl := fun b hb z => by rw [z] at hb; rw [hL6 Dl hb] at hD4; cases hD4
    have no : ∀ b ∈ L, b ∉ L6 := fun b hb z => by
      obtain ⟨_, xs, e⟩ := r4.is b hb
      rw [hL6 b z] at e
      cases e
    have rr := r6.snoc ru no
    refine ⟨ws, hD6, Nat.lt_of_le_of_lt (by rw [r3.length, List.length_map, List.length_range]; omega) (by decide : 1000000 < sizeLine), F6, ws ++ [u], L ++ L6, Sx.put ((s3.trans s4).trans s6) _ (.inr hD) nF6, nF6, upd_same, ?_, fun b hb => ?_⟩
    · rw [List.range_succ, List.map_append]
      refine rr.keep (Same.refl _) fun b hb => ⟨upd_ne ?_, (rr.is b hb).1⟩
      rcases List.mem_append.mp hb with z | z
      · exact (hL b z).2
      · exact d6 b z
    · rcases List.mem_append.mp hb with z | z
      · exact hL b z
      · exact ⟨(s3.trans s4).same.free (hL6 b z), d6 b z⟩
  · refine q F' H' (.ref Dl) (Dl :: L) (s2.trans s3) (fun b hb => ?_) (.lst hD3 n1 r3 fun z => (hL Dl z).2 rfl)
    rcases List.mem_cons.mp hb with rfl | hb
    · exact s2.same.free hD
    · exact s2.same.free (hL b hb).1
end
/-! ### list.count of data -/
def rCntD (K : PySem.W.Frag) : V → List V → Hp → VK → Prop := fun x xs H Q => ∃ (a : Addr) (y : V) (d : PyData) (ds : List PyData), x = V.ref a ∧ xs = [y] ∧ Dp K H (V.ref a) (.list ds) ∧ Dp K H y d ∧ SeqAt.shaped (.list ds) = true ∧ SeqAt.shaped d = true ∧ Q (.int (ds.countP fun z => PyData.eqv z d : Nat)) H
theorem mt_countD {X : Cx} (hu : X.A.units + 65 < cLine) : MtR X "list.count" (rCntD X.K) := by
  intro pins s σ H x xs v us Q I rx rxs h
  obtain ⟨a, y, d, ds, rfl, rfl, hl, hy, sl, sd, q⟩ := h
  cases rx
  cases rxs with
  | cons ry rt =>
    rename_i uy ut
    cases rt
    obtain ⟨bs, r1⟩ := Dp.reads I d y uy hy ry
    have hxs : PyData.canLayAll0 ds = true := SeqAt.canLay_of_shaped sl
    have hroom : X.A.units + 1 + min (PyData.depthAll ds) d.depth < cLine := room_in_shaped sd hu
    cases hl with
    | lst hs ha =>
      obtain ⟨its, rv, ⟨⟨cls, dd, data, sls⟩, n, ho, hc, hdn, hdt⟩, hlen⟩ := I.list hs
      simp only at hc hdt
      subst hc hdt
      obtain ⟨as, h4⟩ := Dp.readsAll I ds _ its ha rv
      have hmap : its.map (SeqAt.readOf s.heap) = ds := SeqAt.readsAll_map ds its as hxs h4
      refine call_meets PySem.F.slot_list_count ⟨_, ho, rfl⟩ PySem.F.entry_list_count (PySem.F.args_list_count_2 _ _)
        (SeqAt.list_countAt a its.toArray n dd sls uy (fun u => PyData.eqv (SeqAt.readOf s.heap u) d)) ⟨ho, SeqAt.items_eqAt (vs := its.toArray) (show ReadsAll s.heap its.toArray.toList ds as from h4) r1 hxs (SeqAt.canLay_of_shaped sd) hroom, ?_⟩
      have ec : its.toArray.toList.countP (fun u => PyData.eqv (SeqAt.readOf s.heap u) d) = ds.countP fun z => PyData.eqv z d := by
        rw [← hmap, List.countP_map]; rfl
      refine ⟨.int (ds.countP fun z => PyData.eqv z d : Nat), H, I.tok _, ⟨s.toks, ?_⟩, q⟩
      rw [ec]
theorem ev_countD {K : PySem.W.Frag} {F H : Hp} {M : List Addr} {σ : L2.St} {te ta : TE} {x : PyData} {ds : List PyData} (h : EvD K M te σ F H (.list ds)) (hx : EvD K M ta σ F H x) (sl : SeqAt.shaped (.list ds) = true) (sx : SeqAt.shaped x = true) :
    EvD K M (tBM K "list" (rCntD K) te (tCons ta tNil)) σ F H (.int (ds.countP fun z => PyData.eqv z x : Nat)) := fun F1 H1 s Q q =>
  h F1 H1 s _ fun F2 H2 v s2 rv => by
    obtain ⟨a, xs, rfl, ha, rx⟩ := rv.lst_of
    refine ⟨.inl ⟨rfl, xs, .inl (.inl (s2.fh _ _ ha))⟩, hx F2 H2 (s.trans s2.up) _ fun F3 H3 w s3 rw => ?_⟩
    exact ⟨a, w, x, ds, rfl, rfl, ((Rp.lst ha rx).mono (s3.ff.trans s3.fh)).dp, (rw.mono s3.fh).dp, sl, sx, q F3 H3 _ (s2.trans s3) (.int _)⟩
/-! ### of values -/
section
variable {K : PySem.W.Frag} {F H : Hp} {σ : L2.St} {d : PyData} {v : V} {L : List Addr}
theorem Ow.ty (e : Same F H) (h : Ow K F H v d L) : TyX K H v (.type (typeD d)) := by
  cases h with
  | non => exact .base .non
  | bl b => exact .base (.bl b)
  | int i => exact .base (.int i)
  | str x => exact .base (.str x)
  | lst h f r n => exact .base (.lst h)
  | tup h r =>
    rcases h with (h | ⟨o, h⟩) | ⟨o, its, n, h1, h2, _⟩
    · exact .base (.tup (e _ _ h))
    · exact .fTuple (e _ _ h)
    · exact .kTuple h1 h2
theorem v_is {i : Nat} {n : String} {b : Bool} {Q : VK} {t : String} (h : σ[i]? = some (some v)) (ht : TyX K H v (.type t)) (hk : kitB t n = some b) (q : Q (.bl b) H) : tIs K (tVar i) n σ H Q := ⟨v, h, v, .ty n, _, _, b, rfl, .ty n, ht, kit_ty hk, q⟩
theorem v_isT {i : Nat} {ns : List String} {b : Bool} {Q : VK} {t : String} (h : σ[i]? = some (some v)) (ht : ∀ p o, H p = none → TyX K (upd H p o) v (.type t)) (hk : ns.all (kitOk t) = true) (hb : ns.any (kitA t) = b) (hl : ns.length ≤ 1000) (q : ∀ p, H p = none → Q (.bl b) (upd H p (.tup (ns.map .ty)))) : tIsT K (tVar i) ns σ H Q :=
  ⟨v, h, tysA_run ns H _ ⟨Nat.le_of_lt (small1000 (by rw [List.length_map]; exact hl)), fun p hp => ⟨v, p, _, _, _, b, rfl, upd_same, clsAll ns, ht p _ hp, by rw [kit_anyL (kit_all hk), hb], q p hp⟩⟩⟩
end
end Sf

/-! deeds told as texts, read from texts: read_deeds -/
namespace Sf
open PySem L2 RZ TL
/-! evaluation, construct by construct -/
local macro_rules | `(tactic| walk_at "rp") => `(tactic| first | assumption | exact .int _ | exact .bl _ | exact .str _ | exact .non | exact Rp.mono (Sx.ff (by assumption)) (by walk_at "rp"))
local macro_rules | `(tactic| walk_at "sc") => `(tactic| first | rfl | assumption | omega | decide | (simp; done) | (simp; omega))
local macro_rules | `(tactic| walk_at "ix") => `(tactic| first | rfl | assumption)
local macro_rules | `(tactic| walk_at "rv") => `(tactic| first
  | exact xAddI | exact xSub | exact xLt | exact xLe | exact xGt | exact xGe | exact xIsN | exact xNotN | exact xEqI | exact xNeI | exact xEqB | exact xNeB | exact xEqLB | exact xEqTB | exact xNeTB
  | exact xMod (by walk_at "sc")
  | exact xDiv (by walk_at "sc")
  | exact xPow (by walk_at "sc")
  | exact xMulI (by walk_at "sc")
  | exact rv_ixt (by walk_at "ix")
  | exact rv_ixl (by walk_at "ix")
  | exact xAddL (by walk_at "sc")
  | exact xAddT (by walk_at "sc"))
local macro_rules | `(tactic| walk_at "rc") => `(tactic| first | exact xLenL | exact xLenT | exact xListL | exact xListT | exact xTupL | exact xTupT | exact xMax2 | exact xInt | exact rc_all | exact rc_any)
local macro_rules | `(tactic| walk_at "ea") => `(tactic| first | exact ea_nil | refine ea_cons (by walk_at "ev") (by walk_at "ea"))
local macro_rules | `(tactic| walk_at "eo") => `(tactic| first | exact eo_none | refine eo_some (by walk_at "ev"))
local macro_rules | `(tactic| walk_at "et") => `(tactic| first
  | ((with_reducible show EvT _ _ (tTest _) _ _ _ _); exact et_test (by walk_at "ev"))
  | ((with_reducible show EvT _ _ (tNot _) _ _ _ _); exact et_not (by walk_at "et"))
  | ((with_reducible show EvT _ _ (tAnd _ _) _ _ _ _); exact et_and (by walk_at "et") (fun hh => by walk_at "et"))
  | ((with_reducible show EvT _ _ (tOr _ _) _ _ _ _); exact et_or (by walk_at "et") (fun hh => by walk_at "et"))
  | ((with_reducible show EvT _ _ (tTru _ _) _ _ _ _); exact xTru (by walk_at "ev") (by walk_at "sc"))
  | ((with_reducible show EvT _ _ tYes _ _ _ _); exact et_yes))
local macro_rules | `(tactic| walk_at "ev") => `(tactic| first
  | ((with_reducible show EvD _ _ (tC _) _ _ _ _); first | exact ev_int | exact ev_bl | exact ev_str | exact ev_non)
  | ((with_reducible show EvD _ _ (tVar _) _ _ _ _); exact ev_var (by rfl) (by walk_at "rp"))
  | ((with_reducible show EvD _ _ (tOp _ _ _) _ _ _ _); exact ev_op (by walk_at "ev") (by walk_at "ev") (by walk_at "rv"))
  | ((with_reducible show EvD _ _ (tUn _ _) _ _ _ _); exact ev_un (by walk_at "ev") xNeg)
  | ((with_reducible show EvD _ _ (tCB _ _) _ _ _ _); exact ev_cb (by walk_at "ea") (by walk_at "rc"))
  | ((with_reducible show EvD _ _ (tTup _) _ _ _ _); exact ev_tup (by walk_at "ea") (by walk_at "sc"))
  | ((with_reducible show EvD _ _ (tLst _) _ _ _ _); exact ev_lst (by walk_at "ea") (by walk_at "sc"))
  | ((with_reducible show EvD _ _ (tSl _ _ _ _) _ _ _ _); first | exact xSlL (by walk_at "ev") (by walk_at "eo") (by walk_at "eo") | exact xSlT (by walk_at "ev") (by walk_at "eo") (by walk_at "eo"))
  | ((with_reducible show EvD _ _ (tNotT _ _) _ _ _ _); exact ev_notT (by walk_at "ev") (by walk_at "sc"))
  | ((with_reducible show EvD _ _ (tAndT _ _ _) _ _ _ _); exact ev_andB (by walk_at "ev") (fun hh => by walk_at "ev"))
  | ((with_reducible show EvD _ _ (tOrT _ _ _) _ _ _ _); exact ev_orB (by walk_at "ev") (fun hh => by walk_at "ev")))

local macro_rules | `(tactic| walk_at "ev") => `(tactic| ((with_reducible show EvD _ _ (tCall (sp_is_number _) _ _ _) _ _ _ _); exact ev_is_number (by walk_at "ea")))
local macro_rules | `(tactic| walk_at "ev") => `(tactic| ((with_reducible show EvD _ _ (tCall (sp_is_name _) _ _ _) _ _ _ _); exact ev_is_name (by walk_at "ea") (by walk_at "sc")))
local macro_rules | `(tactic| walk_at "ev") => `(tactic| ((with_reducible show EvD _ _ (tCall (sp_is_octets _) _ _ _) _ _ _ _); exact ev_is_octets (by walk_at "ea") (by walk_at "sc")))
local macro_rules | `(tactic| walk_at "ev") => `(tactic| ((with_reducible show EvD _ _ (tCall (sp_octet_of _) _ _ _) _ _ _ _); exact ev_octet_of (by walk_at "ea") (by walk_at "sc")))
local macro_rules | `(tactic| walk_at "ev") => `(tactic| ((with_reducible show EvD _ _ (tCall (sp_is_deed _) _ _ _) _ _ _ _); exact ev_is_deed (by walk_at "ea") (by walk_at "sc")))
local macro_rules | `(tactic| walk_at "ev") => `(tactic| ((with_reducible show EvD _ _ (tCall (sp_rest_in _) _ _ _) _ _ _ _); exact ev_rest_in (by walk_at "ea") (by walk_at "sc")))
local macro_rules | `(tactic| walk_at "ev") => `(tactic| ((with_reducible show EvD _ _ (tCall (sp_plain_deed _) _ _ _) _ _ _ _); exact ev_plain_deed (by walk_at "ea") (by walk_at "sc")))
local macro_rules | `(tactic| walk_at "ev") => `(tactic| ((with_reducible show EvD _ _ (tCall (sp_deed_of _) _ _ _) _ _ _ _); exact ev_deed_of (by walk_at "ea") (by walk_at "sc")))
local macro_rules | `(tactic| walk_at "ev") => `(tactic| ((with_reducible show EvD _ _ (tCall (sp_lines_read _) _ _ _) _ _ _ _); exact ev_lines_read (by walk_at "ea") (by walk_at "sc")))
local macro_rules | `(tactic| walk_at "ev") => `(tactic| ((with_reducible show EvD _ _ (tCall (sp_deeds_fault _) _ _ _) _ _ _ _); exact ev_deeds_fault (by walk_at "ea") (by walk_at "sc")))
section
variable {K : PySem.W.Frag} {w : World} {F H F' H' F1 H1 F2 H2 : Hp} {M : List Addr} {σ : L2.St} {te ta tb tc : TE} {tt tu : TT} {d x y z : PyData} {D : Ends}
theorem range_getD {α : Type} (l : List α) (a : α) : (List.range l.length).map (fun i => l.getD i a) = l := by
  apply List.ext_getElem (by simp)
  intro i h1 h2
  simp [List.getD_eq_getElem?_getD, h2]
def lawI : PyData → PyData
  | .tuple ds => .list ds
  | d => d
theorem prog_law (y : Deed) : ∃ pl, progD y = .tuple pl ∧ lawD y = .tuple (pl.map lawI) ∧ pl.length ≤ 3 ∧ ∀ x ∈ pl, (∃ s, x = .str s) ∨ ∃ ds, x = .tuple ds ∧ ds.all flatD = true := by
  have hi : ∀ os : List Nat, (os.map fun o : Nat => PyData.int (o : Int)).all flatD = true := fun os => by
    rw [List.all_map]
    exact List.all_eq_true.mpr fun _ _ => rfl
  cases y with
  | drop n =>
    refine ⟨_, rfl, rfl, by simp, fun x hx => ?_⟩
    rcases List.mem_cons.mp hx with rfl | hx
    · exact .inl ⟨_, rfl⟩
    · rw [List.mem_singleton.mp hx]; exact .inl ⟨_, rfl⟩
  | chain n ns =>
    refine ⟨_, rfl, rfl, by simp, fun x hx => ?_⟩
    rcases List.mem_cons.mp hx with rfl | hx
    · exact .inl ⟨_, rfl⟩
    rcases List.mem_cons.mp hx with rfl | hx
    · exact .inl ⟨_, rfl⟩
    · rw [List.mem_singleton.mp hx]; exact .inr ⟨_, rfl, strs_flat⟩
  | octs w n os =>
    refine ⟨_, rfl, rfl, by simp, fun x hx => ?_⟩
    rcases List.mem_cons.mp hx with rfl | hx
    · exact .inl ⟨_, rfl⟩
    rcases List.mem_cons.mp hx with rfl | hx
    · exact .inl ⟨_, rfl⟩
    · rw [List.mem_singleton.mp hx]; exact .inr ⟨_, rfl, hi os⟩
def sp_read_deeds (K : PySem.W.Frag) : Sp := fun vs H Q E => ∃ (v : V) (d : PyData) (F : Hp), vs = [v] ∧ Same F H ∧ Rp K F v d ∧ TxtOk d ∧
  ((∃ s, d = .str s ∧ (readT s).2 = none ∧ ∀ F' H' u L, Sx [] F H F' H' → (∀ b ∈ L, H b = none) → Ow K F' H' u (.list ((readT s).1.map lawD)) L → Q u H') ∨
   (∃ n : Int, faultD d = .int n ∧ ∀ F' H' C a, Sx [] F H F' H' → ClsA K "BadLine" C → H' a = some (.xd [("line", .int n)]) → E (.ref C) (some a) H'))
theorem len_read_deeds {vs : List V} {Q : VK} {E : XK} (h : sp_read_deeds K vs H Q E) : vs.length = ["text"].length := by
  obtain ⟨v, d, F, rfl, _⟩ := h
  rfl
/-- one deed, its tuple told as a list of its own -/
theorem ow_deed {v v1 v2 u : V} {y : Deed} (ru : Rp K F u (progD y)) :
    EvOw K [] (tCB (rTupleOf K) (tCons (tLc (iSeq K (tVar 3)) (gName 4) tYes (tIf (tTru K (tCall (sp_is_row K) [] E0 (tCons (tVar 4) tNil))) (tCB (rListOf K) (tCons (tVar 4) tNil)) (tVar 4)) [4]) tNil)) [some v, some v1, some v2, some u, none] F H (lawD y) := by
  obtain ⟨pl, hp, hl, h3, hx⟩ := prog_law y
  rw [hp] at ru
  rw [hl]
  refine ow_tupOf ?_
  have key : (List.range pl.length).map (fun i => lawI (pl.getD i .none)) = pl.map lawI := by
    have := congrArg (List.map lawI) (range_getD pl .none)
    rwa [List.map_map] at this
  rw [← key]
  refine ow_lc pl.length (fun i => pl.getD i .none) (fun i => lawI (pl.getD i .none)) (fun i => Nm K 4 (pl.getD i .none)) (ew_seqT (ds := pl) (ev_var rfl ru) rfl fun i hi => getD_at hi) (by omega) (fun _ _ => tg_nm) ?_ ?_
  · rintro i _ F1 _ ⟨a, _, rfl⟩; rfl
  · rintro i hi F1 H1 _ s1 ⟨a, ra, rfl⟩
    have hm := List.mem_of_getElem? (getD_at (a := PyData.none) hi)
    generalize pl.getD i .none = x at ra hm
    rcases hx x hm with ⟨s, rfl⟩ | ⟨ds, rfl, hf⟩
    · exact ow_if (b := false) (xTru (ev_is_row (ea_cons (ev_var rfl ra) ea_nil)) rfl) (fun z => by cases z) fun _ => ow_d (ev_var rfl ra) rfl
    · exact ow_if (b := true) (xTru (ev_is_row (ea_cons (ev_var rfl ra) ea_nil)) rfl) (fun _ => ow_listOf (ea_cons (ev_var rfl ra) ea_nil) (.inr rfl) hf) fun z => by cases z
theorem rd_read_deeds {vs : List V} {Q : VK} {E : XK} (h : sp_read_deeds K vs H Q E) : t_read_deeds K E { nx := fun _ H' => Q .non H', rt := Q } (L2.start N_read_deeds vs) H := by
  obtain ⟨v, d, F, rfl, e, h1, hp, h⟩ := h
  have hl : ∃ l, linesD d = .tuple [.list l, faultD d] := by cases d <;> exact ⟨_, rfl⟩
  obtain ⟨l, hl⟩ := hl
  refine q_asg (K := K) (M := []) (d := .tuple [.list l, faultD d]) tg_nm2 e (EvD.is (ev_lines_read (ea_cons (ev_var rfl h1) ea_nil) hp) hl) fun F1 H1 σ' s1 hσ => ?_
  obtain ⟨a, b, ra, rb, rfl⟩ := hσ
  refine q_when (K := K) (M := []) (b := !isNon (faultD d)) s1.fh (et_test (ev_op (ev_var rfl rb) ev_non xNotN)) (fun hb F2 H2 s2 => ?_) fun hb F2 H2 s2 => ?_
  · rcases h with ⟨s, rfl, hn, k⟩ | ⟨n, hn, k⟩
    · have : faultD (.str s) = .none := by show numO _ = _; rw [hn]; rfl
      rw [this] at hb
      cases hb
    · rw [hn] at rb
      refine st_raiseX (d := .int n) (f := "line") s2.fh (ev_var rfl (rb.mono s2.ff)) fun F3 H3 C a u s3 hC ha ru => ?_
      cases ru.int_of
      exact k F3 H3 C a ((s1.trans s2).trans s3) hC ha
  · rcases h with ⟨s, rfl, hn, k⟩ | ⟨n, hn, k⟩
    · have hls : l = (readT s).1.map progD := by
        have e1 : PyData.tuple [.list ((readT s).1.map progD), numO (readT s).2] = PyData.tuple [.list l, faultD (.str s)] := hl
        injection e1 with e2
        injection e2 with e3 e4
        injection e3 with e5
        exact e5.symm
      subst hls
      have rl := ra.mono s2.ff
      have hten : ((readT s).1.map progD).length ≤ 1000000 := by
        have h15 : TOk s ∧ s.length ≤ 15000 := hp
        have h0 := lines_len s
        have h1 : (readT s).1.length ≤ (lines s).dropLast.length := by
          have hr : ∀ (ls : List Str) (k : Nat), (readL k ls).1.length ≤ ls.length := by
            intro ls
            induction ls with
            | nil => intro k; simp [readL]
            | cons a r ih =>
              intro k
              rw [readL]
              cases deedOf (words a) with
              | none => simp
              | some d => simp; exact ih _
          have : (readT s).1 = (readL 1 (lines s).dropLast).1 := by
            cases hq : readL 1 (lines s).dropLast with
            | mk ds o =>
              cases o with
              | none => rw [readT_good hq]
              | some k => rw [readT_bad hq]
          rw [this]
          exact hr _ _
        rw [List.length_map]
        rw [List.length_dropLast] at h1
        omega
      have key : (List.range ((readT s).1.map progD).length).map (fun i => ((readT s).1.map lawD).getD i .none) = (readT s).1.map lawD := by
        have := range_getD ((readT s).1.map lawD) .none
        rw [List.length_map] at this ⊢
        exact this
      have hdone := ow_lc (K := K) (M := []) (σ := [some v, some a, some b, none, none]) (F := F2) (H := H2) (wi := iSeq K (tVar 1)) (gt := gName 3) (vs := [3]) (te := tCB (rTupleOf K) (tCons (tLc (iSeq K (tVar 3)) (gName 4) tYes (tIf (tTru K (tCall (sp_is_row K) [] E0 (tCons (tVar 4) tNil))) (tCB (rListOf K) (tCons (tVar 4) tNil)) (tVar 4)) [4]) tNil))
        ((readT s).1.map progD).length (fun i => ((readT s).1.map progD).getD i .none) (fun i => ((readT s).1.map lawD).getD i .none) (fun i => Nm K 3 (((readT s).1.map progD).getD i .none)) (ew_seqL (ev_var rfl rl) rfl fun i hi => getD_at hi) hten (fun _ _ => tg_nm) ?_ ?_
      · rw [key] at hdone
        exact hdone F2 H2 (Sx.refl s2.fh) _ fun F3 H3 u L s3 hL ho => k F3 H3 u L ((s1.trans s2).trans s3) (fun b hb => (s1.trans s2).same.free (hL b hb)) ho
      · rintro i _ F1 _ ⟨a, _, rfl⟩; rfl
      · rintro i hi F3 H3 _ s3 ⟨u, ru, rfl⟩
        have hi' : i < (readT s).1.length := by rw [List.length_map] at hi; exact hi
        have e1 : ((readT s).1.map progD).getD i .none = progD (readT s).1[i] := by rw [List.getD_eq_getElem?_getD, List.getElem?_map, List.getElem?_eq_getElem hi']; rfl
        have e2 : ((readT s).1.map lawD).getD i .none = lawD (readT s).1[i] := by rw [List.getD_eq_getElem?_getD, List.getElem?_map, List.getElem?_eq_getElem hi']; rfl
        rw [e1] at ru
        rw [e2]
        exact ow_deed ru
    · rw [hn] at hb
      cases hb
end
end Sf

/-! deeds told as texts, read from texts: what is told stands apart -/
namespace Sf
open PySem L2 RZ TL
/-! evaluation, construct by construct -/
local macro_rules | `(tactic| walk_at "rp") => `(tactic| first | assumption | exact .int _ | exact .bl _ | exact .str _ | exact .non | exact Rp.mono (Sx.ff (by assumption)) (by walk_at "rp"))
local macro_rules | `(tactic| walk_at "sc") => `(tactic| first | rfl | assumption | omega | decide | (simp; done) | (simp; omega))
local macro_rules | `(tactic| walk_at "ix") => `(tactic| first | rfl | assumption)
local macro_rules | `(tactic| walk_at "rv") => `(tactic| first
  | exact xAddI | exact xSub | exact xLt | exact xLe | exact xGt | exact xGe | exact xIsN | exact xNotN | exact xEqI | exact xNeI | exact xEqB | exact xNeB | exact xEqLB | exact xEqTB | exact xNeTB
  | exact xMod (by walk_at "sc")
  | exact xDiv (by walk_at "sc")
  | exact xPow (by walk_at "sc")
  | exact xMulI (by walk_at "sc")
  | exact rv_ixt (by walk_at "ix")
  | exact rv_ixl (by walk_at "ix")
  | exact xAddL (by walk_at "sc")
  | exact xAddT (by walk_at "sc"))
local macro_rules | `(tactic| walk_at "rc") => `(tactic| first | exact xLenL | exact xLenT | exact xListL | exact xListT | exact xTupL | exact xTupT | exact xMax2 | exact xInt | exact rc_all | exact rc_any)
local macro_rules | `(tactic| walk_at "ea") => `(tactic| first | exact ea_nil | refine ea_cons (by walk_at "ev") (by walk_at "ea"))
local macro_rules | `(tactic| walk_at "eo") => `(tactic| first | exact eo_none | refine eo_some (by walk_at "ev"))
local macro_rules | `(tactic| walk_at "et") => `(tactic| first
  | ((with_reducible show EvT _ _ (tTest _) _ _ _ _); exact et_test (by walk_at "ev"))
  | ((with_reducible show EvT _ _ (tNot _) _ _ _ _); exact et_not (by walk_at "et"))
  | ((with_reducible show EvT _ _ (tAnd _ _) _ _ _ _); exact et_and (by walk_at "et") (fun hh => by walk_at "et"))
  | ((with_reducible show EvT _ _ (tOr _ _) _ _ _ _); exact et_or (by walk_at "et") (fun hh => by walk_at "et"))
  | ((with_reducible show EvT _ _ (tTru _ _) _ _ _ _); exact xTru (by walk_at "ev") (by walk_at "sc"))
  | ((with_reducible show EvT _ _ tYes _ _ _ _); exact et_yes))
local macro_rules | `(tactic| walk_at "ev") => `(tactic| first
  | ((with_reducible show EvD _ _ (tC _) _ _ _ _); first | exact ev_int | exact ev_bl | exact ev_str | exact ev_non)
  | ((with_reducible show EvD _ _ (tVar _) _ _ _ _); exact ev_var (by rfl) (by walk_at "rp"))
  | ((with_reducible show EvD _ _ (tOp _ _ _) _ _ _ _); exact ev_op (by walk_at "ev") (by walk_at "ev") (by walk_at "rv"))
  | ((with_reducible show EvD _ _ (tUn _ _) _ _ _ _); exact ev_un (by walk_at "ev") xNeg)
  | ((with_reducible show EvD _ _ (tCB _ _) _ _ _ _); exact ev_cb (by walk_at "ea") (by walk_at "rc"))
  | ((with_reducible show EvD _ _ (tTup _) _ _ _ _); exact ev_tup (by walk_at "ea") (by walk_at "sc"))
  | ((with_reducible show EvD _ _ (tLst _) _ _ _ _); exact ev_lst (by walk_at "ea") (by walk_at "sc"))
  | ((with_reducible show EvD _ _ (tSl _ _ _ _) _ _ _ _); first | exact xSlL (by walk_at "ev") (by walk_at "eo") (by walk_at "eo") | exact xSlT (by walk_at "ev") (by walk_at "eo") (by walk_at "eo"))
  | ((with_reducible show EvD _ _ (tNotT _ _) _ _ _ _); exact ev_notT (by walk_at "ev") (by walk_at "sc"))
  | ((with_reducible show EvD _ _ (tAndT _ _ _) _ _ _ _); exact ev_andB (by walk_at "ev") (fun hh => by walk_at "ev"))
  | ((with_reducible show EvD _ _ (tOrT _ _ _) _ _ _ _); exact ev_orB (by walk_at "ev") (fun hh => by walk_at "ev")))

local macro_rules | `(tactic| walk_at "ev") => `(tactic| ((with_reducible show EvD _ _ (tCall (sp_is_number _) _ _ _) _ _ _ _); exact ev_is_number (by walk_at "ea")))
local macro_rules | `(tactic| walk_at "ev") => `(tactic| ((with_reducible show EvD _ _ (tCall (sp_is_name _) _ _ _) _ _ _ _); exact ev_is_name (by walk_at "ea") (by walk_at "sc")))
local macro_rules | `(tactic| walk_at "ev") => `(tactic| ((with_reducible show EvD _ _ (tCall (sp_is_octets _) _ _ _) _ _ _ _); exact ev_is_octets (by walk_at "ea") (by walk_at "sc")))
local macro_rules | `(tactic| walk_at "ev") => `(tactic| ((with_reducible show EvD _ _ (tCall (sp_octet_of _) _ _ _) _ _ _ _); exact ev_octet_of (by walk_at "ea") (by walk_at "sc")))
local macro_rules | `(tactic| walk_at "ev") => `(tactic| ((with_reducible show EvD _ _ (tCall (sp_is_deed _) _ _ _) _ _ _ _); exact ev_is_deed (by walk_at "ea") (by walk_at "sc")))
local macro_rules | `(tactic| walk_at "ev") => `(tactic| ((with_reducible show EvD _ _ (tCall (sp_rest_in _) _ _ _) _ _ _ _); exact ev_rest_in (by walk_at "ea") (by walk_at "sc")))
local macro_rules | `(tactic| walk_at "ev") => `(tactic| ((with_reducible show EvD _ _ (tCall (sp_plain_deed _) _ _ _) _ _ _ _); exact ev_plain_deed (by walk_at "ea") (by walk_at "sc")))
local macro_rules | `(tactic| walk_at "ev") => `(tactic| ((with_reducible show EvD _ _ (tCall (sp_deed_of _) _ _ _) _ _ _ _); exact ev_deed_of (by walk_at "ea") (by walk_at "sc")))
local macro_rules | `(tactic| walk_at "ev") => `(tactic| ((with_reducible show EvD _ _ (tCall (sp_lines_read _) _ _ _) _ _ _ _); exact ev_lines_read (by walk_at "ea") (by walk_at "sc")))
local macro_rules | `(tactic| walk_at "ev") => `(tactic| ((with_reducible show EvD _ _ (tCall (sp_deeds_fault _) _ _ _) _ _ _ _); exact ev_deeds_fault (by walk_at "ea") (by walk_at "sc")))
def late : Str := "LATE"
mutual
/-- what the law's spoiling makes of a thing -/
def spoil : PyData → PyData
  | .list ds => .list (spoilA ds ++ [.str late])
  | .tuple ds => .tuple (spoilA ds)
  | d => d
def spoilA : List PyData → List PyData
  | [] => []
  | d :: ds => spoil d :: spoilA ds
end
theorem spoilA_map : ∀ ds, spoilA ds = ds.map spoil
  | [] => by rw [spoilA]; rfl
  | d :: ds => by rw [spoilA, spoilA_map ds]; rfl
theorem spoil_list (ds : List PyData) : spoil (.list ds) = .list (ds.map spoil ++ [.str late]) := by rw [spoil, spoilA_map]
theorem spoil_tuple (ds : List PyData) : spoil (.tuple ds) = .tuple (ds.map spoil) := by rw [spoil, spoilA_map]
section
variable {K : PySem.W.Frag} {w : World} {F H F' H' F1 H1 F2 H2 : Hp} {M : List Addr} {σ : L2.St} {te ta tb tc : TE} {tt tu : TT} {d x y z : PyData} {D : Ends}
/-! ### _law_spoilt -/
def spn_law_spoilt (n : Nat) (K : PySem.W.Frag) : Sp := fun vs H Q _ => ∃ (v : V) (d : PyData) (L : List Addr) (F : Hp), vs = [v] ∧ Same F H ∧ Ow K F H v d L ∧ Pl n d ∧ ∀ H', Sx L F H F H' → Ow K F H' v (spoil d) L → Q .non H'
def rc_law_spoilt : Nat → PySem.W.Frag → Sp
  | 0, _ => fun _ _ _ _ => False
  | n + 1, K => spn_law_spoilt n K
def sp_law_spoilt (K : PySem.W.Frag) : Sp := spn_law_spoilt 8 K
theorem len_law_spoilt {n : Nat} {vs : List V} {Q : VK} {E : XK} (h : spn_law_spoilt n K vs H Q E) : vs.length = ["thing"].length := by
  obtain ⟨v, d, L, F, rfl, _⟩ := h
  rfl
abbrev N_law_spoilt : List Str := ["thing", "key", "part"]
def t_law_spoilt (K : PySem.W.Frag) (rc : Sp) : TS :=
  (tSeq (tIfS (tTru K (tIs K (tVar 0) "dict"))
   (tSeq tNever
    tNever)
   tNext)
  (tSeq (tIfS (tTru K (tIsT K (tVar 0) ["list", "tuple"]))
   (tFor (iSeq K (tVar 0)) (gName 2)
     (tDrop (tCall rc [] E0 (tCons (tVar 2) tNil))))
   tNext)
  (tIfS (tTru K (tIs K (tVar 0) "list"))
   (tDrop (tBM K "list" rAppend (tVar 0) (tCons (tC (.str "LATE")) tNil)))
   tNext)))
def rowKit (t : String) : Bool := ["list", "tuple"].any (kitA t)
theorem mix_set {ds : List PyData} {f : PyData → PyData} {i : Nat} {d : PyData} (h : ds[i]? = some d) : ((ds.take i).map f ++ ds.drop i).set i (f d) = (ds.take (i + 1)).map f ++ ds.drop (i + 1) := by
  have hi : i < ds.length := by
    rcases Nat.lt_or_ge i ds.length with z | z
    · exact z
    · rw [List.getElem?_eq_none z] at h; cases h
  have hd : ds.drop i = d :: ds.drop (i + 1) := by
    rw [List.drop_eq_getElem_cons hi]
    rw [List.getElem?_eq_getElem hi] at h
    rw [Option.some.inj h]
  rw [List.set_append_right _ _ (by rw [List.length_map, List.length_take]; omega), List.length_map, List.length_take, Nat.min_eq_left (Nat.le_of_lt hi), Nat.sub_self, hd, List.set_cons_zero, List.take_add_one, h, List.map_append]
  simp
theorem mix_at {ds : List PyData} {f : PyData → PyData} {i : Nat} {d : PyData} (h : ds[i]? = some d) : ((ds.take i).map f ++ ds.drop i)[i]? = some d := by
  have hi : i < ds.length := by
    rcases Nat.lt_or_ge i ds.length with z | z
    · exact z
    · rw [List.getElem?_eq_none z] at h; cases h
  rw [List.getElem?_append_right (by rw [List.length_map, List.length_take]; omega), List.length_map, List.length_take, Nat.min_eq_left (Nat.le_of_lt hi), Nat.sub_self, List.getElem?_drop, Nat.add_zero, h]
/-- the loop over the parts -/
theorem spoil_loop {n : Nat} {a : Addr} {xs : List V} {ds : List PyData} {L : List Addr} (isL : Bool) (e : Same F H) (hs : ∀ H', Sx L F H F H' → if isL = true then SqL K H' a xs else SqT K H' a xs) (h : OwA K F H xs ds L) (hp : ∀ d, d ∈ ds → Pl n d)
    (k : ∀ H' σ', σ'[0]? = some (some (.ref a)) → Sx L F H F H' → OwA K F H' xs (ds.map spoil) L → D.nx σ' H') : tFor (iSeq K (tVar 0)) (gName 2) (tDrop (tCall (spn_law_spoilt n K) [] E0 (tCons (tVar 2) tNil))) D [some (.ref a), none, none] H := by
  have hl := h.length
  have step : ∀ (i : Nat) (x : V) (σ : L2.St) (H' : Hp), xs[i]? = some x → ((∃ w, σ = [some (.ref a), none, w]) ∧ Sx L F H F H' ∧ OwA K F H' xs ((ds.take i).map spoil ++ ds.drop i) L) →
      tDrop (tCall (spn_law_spoilt n K) [] E0 (tCons (tVar 2) tNil)) { D with nx := fun σ H' => (∃ w, σ = [some (.ref a), none, w]) ∧ Sx L F H F H' ∧ OwA K F H' xs ((ds.take (i + 1)).map spoil ++ ds.drop (i + 1)) L, ct := fun σ H' => (∃ w, σ = [some (.ref a), none, w]) ∧ Sx L F H F H' ∧ OwA K F H' xs ((ds.take (i + 1)).map spoil ++ ds.drop (i + 1)) L, bk := D.nx } (σ.set 2 (some x)) H' := by
    rintro i x σ H' hx ⟨⟨w, rfl⟩, s, o⟩
    have hi : i < ds.length := by
      rcases Nat.lt_or_ge i xs.length with z | z
      · omega
      · rw [List.getElem?_eq_none z] at hx; cases hx
    have hd := List.getElem?_eq_getElem hi
    generalize ds[i] = d at hd
    obtain ⟨Li, a1, a2, a3⟩ := o.step hx (mix_at (f := spoil) hd)
    refine ⟨x, rfl, x, d, Li, F, by rw [List.append_nil], s.fh, a1, hp d (List.mem_of_getElem? hd), fun H2 s2 o2 => ⟨⟨_, rfl⟩, s.trans (s2.mono a2), ?_⟩⟩
    have := a3 H2 (spoil d) s2 o2
    rwa [mix_set hd] at this
  have h0 : OwA K F H xs ((ds.take 0).map spoil ++ ds.drop 0) L := by simpa using h
  have fin : ∀ (σ : L2.St) (H' : Hp), ((∃ w, σ = [some (.ref a), none, w]) ∧ Sx L F H F H' ∧ OwA K F H' xs ((ds.take xs.length).map spoil ++ ds.drop xs.length) L) → D.nx σ H' := by
    rintro σ H' ⟨⟨w, rfl⟩, s, o⟩
    rw [hl, List.take_length, List.drop_length, List.append_nil] at o
    exact k H' _ rfl s o
  cases isL with
  | true => exact .inl ⟨.ref a, rfl, a, rfl, ⟨xs, hs H (Sx.refl e)⟩, for_list (xs := xs) (fun i σ H' => (∃ w, σ = [some (.ref a), none, w]) ∧ Sx L F H F H' ∧ OwA K F H' xs ((ds.take i).map spoil ++ ds.drop i) L) ⟨⟨none, rfl⟩, Sx.refl e, h0⟩ (fun i σ H' _ z => hs H' z.2.1) step fin⟩
  | false => exact .inr ⟨.ref a, rfl, a, rfl, ⟨xs, hs H (Sx.refl e)⟩, for_tup (xs := xs) (fun i σ H' => (∃ w, σ = [some (.ref a), none, w]) ∧ Sx L F H F H' ∧ OwA K F H' xs ((ds.take i).map spoil ++ ds.drop i) L) ⟨⟨none, rfl⟩, Sx.refl e, h0⟩ (fun i σ H' _ z => hs H' z.2.1) step fin⟩
theorem sx_tmp {L : List Addr} {p : Addr} {o : HO} (e : Same F H) (hp : H p = none) : Sx L F H F (upd H p o) := Sx.newM e o hp
theorem rd_law_spoilt (n : Nat) {vs : List V} {Q : VK} {E : XK} (h : spn_law_spoilt n K vs H Q E) : t_law_spoilt K (rc_law_spoilt n K) { nx := fun _ H' => Q .non H', rt := Q } (L2.start N_law_spoilt vs) H := by
  obtain ⟨v, d, L, F, rfl, e, ho, hp, k⟩ := h
  have atom : ∀ (t : String), typeD d = t → kitB t "dict" = some false → ["list", "tuple"].all (kitOk t) = true → rowKit t = false → kitB t "list" = some false → spoil d = d → t_law_spoilt K (rc_law_spoilt n K) { nx := fun _ H' => Q .non H', rt := Q } [some v, none, none] H := fun t ht k1 k2 k3 k4 hs => by
    have ty : ∀ p o, H p = none → TyX K (upd H p o) v (.type t) := fun p o hp => ht ▸ Ow.ty (sx_tmp (L := []) e hp).fh (ho.sx (sx_tmp (L := []) (o := o) e hp) fun _ _ z => by cases z)
    refine v_is rfl (ht ▸ ho.ty e) k1 ⟨false, rfl, iteF (v_isT rfl ty k2 k3 (by decide) fun p hp => ⟨false, rfl, iteF (v_is rfl (ty p _ hp) k4 ⟨false, rfl, iteF ?_⟩)⟩)⟩
    have s := sx_tmp (L := L) (o := .tup (["list", "tuple"].map .ty)) e hp
    refine k _ s ?_
    rw [hs]
    exact ho.sx (sx_tmp (L := []) (o := .tup (["list", "tuple"].map .ty)) e hp) fun _ _ z => by cases z
  cases ho with
  | non => exact atom "NoneType" rfl (by decide +kernel) (by decide +kernel) (by decide +kernel) (by decide +kernel) (by simp only [spoil])
  | bl b => exact atom "bool" rfl (by decide +kernel) (by decide +kernel) (by decide +kernel) (by decide +kernel) (by simp only [spoil])
  | int i => exact atom "int" rfl (by decide +kernel) (by decide +kernel) (by decide +kernel) (by decide +kernel) (by simp only [spoil])
  | str x => exact atom "str" rfl (by decide +kernel) (by decide +kernel) (by decide +kernel) (by decide +kernel) (by simp only [spoil])
  | @lst a xs ds L ha fa r na =>
    cases hp with
    | @list n _ hd hl =>
      refine v_is rfl (.base (.lst ha)) (t := "list") (b := false) (by decide +kernel) ⟨false, rfl, iteF (v_isT (t := "list") (b := true) rfl (fun p o hp => .base (.lst (by rw [upd_ne (ne_of_none ha hp)]; exact ha))) (by decide +kernel) (by decide +kernel) (by decide) fun p hp => ⟨true, rfl, iteT ?_⟩)⟩
      have s1 := sx_tmp (L := a :: L) (o := .tup (["list", "tuple"].map .ty)) e hp
      have r1 := r.sx (sx_tmp (L := []) (o := .tup (["list", "tuple"].map .ty)) e hp) fun _ _ z => by cases z
      have ha1 : (upd H p (.tup (["list", "tuple"].map .ty))) a = some (.lst xs) := by rw [upd_ne (ne_of_none ha hp)]; exact ha
      refine spoil_loop (K := K) (n := n) true s1.fh (fun H' s => .inl (.inl (s.hh a _ na ha1))) r1 hd fun H2 σ' hσ s2 o2 => ?_
      have ha2 : H2 a = some (.lst xs) := s2.hh a _ na ha1
      have s12 := s1.trans (s2.mono fun b hb => List.mem_cons_of_mem _ hb)
      refine v_is hσ (.base (.lst ha2)) (t := "list") (b := true) (by decide +kernel) ⟨true, rfl, iteT ?_⟩
      refine ⟨.ref a, hσ, .inl ⟨rfl, xs, .inl (.inl ha2)⟩, a, xs, .str late, rfl, rfl, ha2, Nat.lt_of_le_of_lt (by rw [r.length]; exact hl) (by decide : 1000000 < sizeLine), ?_⟩
      have s3 : Sx (a :: L) F H F (upd H2 a (.lst (xs ++ [.str late]))) := Sx.put s12 _ (.inl (by simp)) fa
      refine k _ s3 ?_
      rw [spoil_list]
      have o3 := o2.snoc (.str late) (fun _ _ z => by cases z)
      rw [List.append_nil] at o3
      exact .lst upd_same fa (o3.keep (Same.refl _) fun b hb => ⟨upd_ne fun z => na (z ▸ hb), (o2.is b hb).1⟩) na
  | @tup a xs ds L ht r =>
    cases hp with
    | @tuple n _ hd hl =>
      have ty : ∀ H', Same F H' → TyX K H' (.ref a) (.type "tuple") := fun H' e' => by
        rcases same_t e' ht with (h | ⟨o, h⟩) | ⟨o, its, n, h1, h2, _⟩
        · exact .base (.tup h)
        · exact .fTuple h
        · exact .kTuple h1 h2
      refine v_is rfl (ty H e) (b := false) (by decide +kernel) ⟨false, rfl, iteF (v_isT (b := true) rfl (fun p o hp => ty _ (sx_tmp (L := []) e hp).fh) (by decide +kernel) (by decide +kernel) (by decide) fun p hp => ⟨true, rfl, iteT ?_⟩)⟩
      have s1 := sx_tmp (L := L) (o := .tup (["list", "tuple"].map .ty)) e hp
      have r1 := r.sx (sx_tmp (L := []) (o := .tup (["list", "tuple"].map .ty)) e hp) fun _ _ z => by cases z
      refine spoil_loop (K := K) (n := n) false s1.fh (fun H' s => same_t s.fh ht) r1 hd fun H2 σ' hσ s2 o2 => ?_
      refine v_is hσ (ty H2 s2.fh) (b := false) (by decide +kernel) ⟨false, rfl, iteF ?_⟩
      refine k _ (s1.trans s2) ?_
      rw [spoil_tuple]
      exact .tup ht o2
/-! ### _law_is_once -/
def isLate (d : PyData) : Bool := PyData.eqv d (.str late)
inductive Once : PyData → Prop where
  | atom {d : PyData} (h : rowD d = none) : Once d
  | list {ds : List PyData} (h : ∀ d, d ∈ ds → Once d) (n : ds.countP isLate = 1) : Once (.list ds)
  | tuple {ds : List PyData} (h : ∀ d, d ∈ ds → Once d) (n : ds.countP isLate = 0) : Once (.tuple ds)
def spn_law_is_once (n : Nat) (K : PySem.W.Frag) : Sp := fun vs H Q _ => ∃ (F : Hp) (v : V) (d : PyData), vs = [v] ∧ Same F H ∧ Rp K F v d ∧ Pl n d ∧ Once d ∧ n ≤ 8 ∧ ∀ F' H', Sx [] F H F' H' → Q (.bl true) H'
def rc_law_is_once : Nat → PySem.W.Frag → Sp
  | 0, _ => fun _ _ _ _ => False
  | n + 1, K => spn_law_is_once n K
def sp_law_is_once (K : PySem.W.Frag) : Sp := spn_law_is_once 8 K
theorem len_law_is_once {n : Nat} {vs : List V} {Q : VK} {E : XK} (h : spn_law_is_once n K vs H Q E) : vs.length = ["thing"].length := by
  obtain ⟨F, v, d, rfl, _⟩ := h
  rfl
abbrev N_law_is_once : List Str := ["thing", "many", "key", "part"]
def t_law_is_once (K : PySem.W.Frag) (rc : Sp) : TS :=
  (tSeq (tIfS (tTru K (tIs K (tVar 0) "dict"))
   tNever
   tNext)
  (tSeq (tIfS (tTru K (tIsT K (tVar 0) ["list", "tuple"]))
   (tSeq (tAsg (tCB rInt1 (tCons (tIs K (tVar 0) "list") tNil)) (gName 1))
    (tRet (tAndT K (tOp (rEqD K) (tBM K "list" (rCntD K) (tCB (rListOf K) (tCons (tVar 0) tNil)) (tCons (tC (.str "LATE")) tNil)) (tVar 1)) (tCB (rAll K) (tCons (tLc (iSeq K (tVar 0)) (gName 3) tYes (tCall rc [] E0 (tCons (tVar 3) tNil)) [3]) tNil)))))
   tNext)
  (tRet (tC (.bl true)))))
theorem ev_oncen {n : Nat} {E : XK} (ha : EvD K M ta σ F H d) (h : Pl n d) (ho : Once d) (hn : n ≤ 8) : EvD K M (tCall (spn_law_is_once n K) [] E (tCons ta tNil)) σ F H (.bool true) := fun F1 H1 s Q q =>
  ha F1 H1 s _ fun F2 H2 v s2 rv => ⟨F2, v, d, by rw [List.append_nil], s2.fh, rv, h, ho, hn, fun F' H' s4 => q F' H' _ (s2.trans s4) (.bl _)⟩
theorem xIntB {b : Bool} : RC K rInt1 [.bool b] (.int (if b = true then 1 else 0)) := fun F H vs e rs Q q => by
  obtain ⟨v, rfl, h1⟩ := rs.inv1
  cases h1.bl_of
  exact .inr ⟨b, rfl, q F H _ (Sx.refl e) (.int _)⟩
theorem late_ok : SeqAt.shaped (.str late) = true := sh_str (by decide +kernel)
theorem rd_law_is_once (n : Nat) {vs : List V} {Q : VK} {E : XK} (h : spn_law_is_once n K vs H Q E) : t_law_is_once K (rc_law_is_once n K) { nx := fun _ H' => Q .non H', rt := Q } (L2.start N_law_is_once vs) H := by
  obtain ⟨F, v, d, rfl, e, hv, hp, ho, hn8, k⟩ := h
  have atom : ∀ (t : String), typeD d = t → kitB t "dict" = some false → ["list", "tuple"].all (kitOk t) = true → rowKit t = false → t_law_is_once K (rc_law_is_once n K) { nx := fun _ H' => Q .non H', rt := Q } (L2.start N_law_is_once [v]) H := fun t ht k1 k2 k3 => by
    refine q_when (K := K) (M := []) (b := false) e (xTru (xIs t (ev_var rfl hv) ht k1) rfl) (fun hb => absurd hb (by decide)) fun _ F1 H1 s1 => ?_
    refine q_when (K := K) (M := []) (b := false) s1.fh (xTru (xIsT' t (ev_var rfl (hv.mono s1.ff)) ht k2 (b := false) k3 (by decide)) rfl) (fun hb => absurd hb (by decide)) fun _ F2 H2 s2 => ?_
    exact st_ret (K := K) (M := []) (d := .bool true) s2.fh ev_bl fun F5 H5 u s5 ru => by cases ru.bl_of; exact k _ _ ((s1.trans s2).trans s5)
  have row : ∀ (t : String) (isL : Bool) (m : Nat) (ds : List PyData), n = m + 1 → d = (if isL = true then .list ds else .tuple ds) → typeD d = t → kitB t "dict" = some false → ["list", "tuple"].all (kitOk t) = true → rowKit t = true → kitB t "list" = some isL → (∀ x, x ∈ ds → Pl m x) → ds.length ≤ 1000000 → (∀ x, x ∈ ds → Once x) → ds.countP isLate = (if isL = true then 1 else 0) →
      t_law_is_once K (rc_law_is_once n K) { nx := fun _ H' => Q .non H', rt := Q } (L2.start N_law_is_once [v]) H := fun t isL m ds hm hd ht k1 k2 k3 k4 hpl hl hon hcount => by
    subst hm
    have hlay : Lay (m + 1) (.list ds) := (Pl.list hpl hl).lay
    refine q_when (K := K) (M := []) (b := false) e (xTru (xIs t (ev_var rfl hv) ht k1) rfl) (fun hb => absurd hb (by decide)) fun _ F1 H1 s1 => ?_
    refine q_when (K := K) (M := []) (b := true) s1.fh (xTru (xIsT' t (ev_var rfl (hv.mono s1.ff)) ht k2 (b := true) k3 (by decide)) rfl) (fun _ F2 H2 s2 => ?_) (fun hb => absurd hb (by decide))
    have h2 := (hv.mono s1.ff).mono s2.ff
    refine q_set (K := K) (M := []) (d := .int (if isL = true then 1 else 0)) s2.fh (ev_cb (ea_cons (xIs t (ev_var rfl h2) ht k4) ea_nil) xIntB) fun F3 H3 v3 s3 r3 => ?_
    have h3 := h2.mono s3.ff
    have hlst : EvD K [] (tCB (rListOf K) (tCons (tVar 0) tNil)) [some v, some v3, none, none] F3 H3 (.list ds) := by
      cases isL with
      | true => exact ev_cb (ea_cons (EvD.is (ev_var rfl h3) hd) ea_nil) xListL
      | false => exact ev_cb (ea_cons (EvD.is (ev_var rfl h3) hd) ea_nil) xListT
    have hwk : EvW K [] (iSeq K (tVar 0)) [some v, some v3, none, none] F3 H3 ds.length (fun i => ds.getD i .none) := by
      cases isL with
      | true => exact ew_seqL (ds := ds) (EvD.is (ev_var rfl h3) hd) rfl fun i hi => getD_at hi
      | false => exact ew_seqT (ds := ds) (EvD.is (ev_var rfl h3) hd) rfl fun i hi => getD_at hi
    have hcnt := ev_countD (K := K) (M := []) hlst ev_str (hlay.shaped (by omega)) late_ok
    have e1 : (ds.countP fun z => PyData.eqv z (.str late)) = if isL = true then 1 else 0 := hcount
    rw [e1] at hcnt
    refine st_ret (K := K) (M := []) (d := .bool (decide (((if isL = true then 1 else 0 : Nat) : Int) = (if isL = true then 1 else 0)) && (List.replicate ds.length true).all id)) s3.fh (ev_andB (ev_op hcnt (ev_var rfl r3) xEqI) fun _ => ev_cb (ea_cons (EvD.is (EvN.ev (en_lc ds.length (fun i => ds.getD i .none) (fun _ => .bool true) (fun _ => true) (fun i => Nm K 3 (ds.getD i .none)) hwk hl (fun _ _ => tg_nm) ?_ (fun _ _ _ _ _ _ _ => et_yes) ?_)) (congrArg PyData.list (all_true _))) ea_nil) rc_all) fun F5 H5 u s5 ru => by
      have e2 : decide (((if isL = true then 1 else 0 : Nat) : Int) = (if isL = true then 1 else 0)) = true := by cases isL <;> rfl
      rw [e2, show (List.replicate ds.length true).all id = true by simp] at ru; cases ru.bl_of; exact k _ _ (((s1.trans s2).trans s3).trans s5)
    · rintro i _ F1 _ ⟨a, _, rfl⟩; rfl
    · rintro i hi _ F4 H4 _ s4 ⟨a, ha, rfl⟩
      have hm := List.mem_of_getElem? (getD_at (a := PyData.none) hi)
      exact ev_oncen (ev_var rfl ha) (hpl _ hm) (hon _ hm) (by omega)
  cases hp with
  | non => exact atom "NoneType" rfl (by decide +kernel) (by decide +kernel) (by decide +kernel)
  | bool => exact atom "bool" rfl (by decide +kernel) (by decide +kernel) (by decide +kernel)
  | int => exact atom "int" rfl (by decide +kernel) (by decide +kernel) (by decide +kernel)
  | str h => exact atom "str" rfl (by decide +kernel) (by decide +kernel) (by decide +kernel)
  | @list m ds hd hl =>
    cases ho with
    | atom h => cases h
    | list h hn => exact row "list" true m ds rfl rfl rfl (by decide +kernel) (by decide +kernel) (by decide +kernel) (by decide +kernel) hd hl h hn
  | @tuple m ds hd hl =>
    cases ho with
    | atom h => cases h
    | tuple h hn => exact row "tuple" false m ds rfl rfl rfl (by decide +kernel) (by decide +kernel) (by decide +kernel) (by decide +kernel) hd hl h hn
/-! ### _law_apart -/
/-- no text of it is the law's mark -/
inductive Clean : Nat → PyData → Prop where
  | non {n : Nat} : Clean n .none
  | bool {n : Nat} {b : Bool} : Clean n (.bool b)
  | int {n : Nat} {i : Int} : Clean n (.int i)
  | str {n : Nat} {x : Str} (h : PyData.strOk x = true) (hn : x ≠ late) : Clean n (.str x)
  | list {n : Nat} {ds : List PyData} (h : ∀ d, d ∈ ds → Clean n d) (hl : ds.length ≤ 900000) : Clean (n + 1) (.list ds)
  | tuple {n : Nat} {ds : List PyData} (h : ∀ d, d ∈ ds → Clean n d) (hl : ds.length ≤ 900000) : Clean (n + 1) (.tuple ds)
theorem spoil_atom {d : PyData} (h : rowD d = none) : spoil d = d := by
  cases d <;> first | (cases h; done) | simp only [spoil]
theorem isLate_spoil {n : Nat} {d : PyData} (h : Clean n d) : isLate (spoil d) = false := by
  cases h with
  | non => rw [spoil_atom rfl]; simp [isLate, PyData.eqv]
  | bool => rw [spoil_atom rfl]; simp [isLate, PyData.eqv]
  | int => rw [spoil_atom rfl]; simp [isLate, PyData.eqv]
  | str h hn => rw [spoil_atom rfl]; unfold isLate; rw [eqv_str]; simp [hn]
  | list h hl => rw [spoil_list]; simp [isLate, PyData.eqv]
  | tuple h hl => rw [spoil_tuple]; simp [isLate, PyData.eqv]
theorem countP_spoil {n : Nat} {ds : List PyData} (h : ∀ d, d ∈ ds → Clean n d) : (ds.map spoil).countP isLate = 0 := by
  rw [List.countP_eq_zero]
  intro x hx
  obtain ⟨d, hd, rfl⟩ := List.mem_map.mp hx
  rw [isLate_spoil (h d hd)]
  decide
theorem Clean.pl {n : Nat} {d : PyData} (h : Clean n d) : Pl n d ∧ Pl n (spoil d) ∧ Once (spoil d) := by
  induction h with
  | non => exact ⟨.non, by rw [spoil_atom rfl]; exact .non, by rw [spoil_atom rfl]; exact .atom rfl⟩
  | bool => exact ⟨.bool, by rw [spoil_atom rfl]; exact .bool, by rw [spoil_atom rfl]; exact .atom rfl⟩
  | int => exact ⟨.int, by rw [spoil_atom rfl]; exact .int, by rw [spoil_atom rfl]; exact .atom rfl⟩
  | str h hn => exact ⟨.str h, by rw [spoil_atom rfl]; exact .str h, by rw [spoil_atom rfl]; exact .atom rfl⟩
  | @list n ds h hl ih =>
    refine ⟨.list (fun d hd => (ih d hd).1) (by omega), ?_, ?_⟩
    · rw [spoil_list]
      refine .list (fun x hx => ?_) (by simp; omega)
      rcases List.mem_append.mp hx with hx | hx
      · obtain ⟨d, hd, rfl⟩ := List.mem_map.mp hx; exact (ih d hd).2.1
      · rw [List.mem_singleton.mp hx]; exact .str (by decide +kernel)
    · rw [spoil_list]
      refine .list (fun x hx => ?_) ?_
      · rcases List.mem_append.mp hx with hx | hx
        · obtain ⟨d, hd, rfl⟩ := List.mem_map.mp hx; exact (ih d hd).2.2
        · rw [List.mem_singleton.mp hx]; exact .atom rfl
      · rw [List.countP_append, countP_spoil h]
        have : isLate (.str late) = true := by unfold isLate; rw [eqv_str]; simp
        simp [this]
  | @tuple n ds h hl ih =>
    refine ⟨.tuple (fun d hd => (ih d hd).1) (by omega), ?_, ?_⟩
    · rw [spoil_tuple]
      refine .tuple (fun x hx => ?_) (by simp; omega)
      obtain ⟨d, hd, rfl⟩ := List.mem_map.mp hx; exact (ih d hd).2.1
    · rw [spoil_tuple]
      refine .tuple (fun x hx => ?_) (countP_spoil h)
      obtain ⟨d, hd, rfl⟩ := List.mem_map.mp hx; exact (ih d hd).2.2
def sp_law_apart (K : PySem.W.Frag) : Sp := fun vs H Q _ => ∃ (v : V) (d : PyData) (L : List Addr) (F : Hp), vs = [v] ∧ Same F H ∧ Ow K F H v d L ∧ Clean 8 d ∧ ∀ H', Sx L F H F H' → Q (.bl true) H'
theorem len_law_apart {vs : List V} {Q : VK} {E : XK} (h : sp_law_apart K vs H Q E) : vs.length = ["thing"].length := by
  obtain ⟨v, d, L, F, rfl, _⟩ := h
  rfl
abbrev N_law_apart : List Str := ["thing"]
def t_law_apart (K : PySem.W.Frag) : TS :=
  (tSeq (tDrop (tCall (sp_law_spoilt K) [] E0 (tCons (tVar 0) tNil)))
  (tRet (tCall (sp_law_is_once K) [] E0 (tCons (tVar 0) tNil))))
theorem rd_law_apart {vs : List V} {Q : VK} {E : XK} (h : sp_law_apart K vs H Q E) : t_law_apart K { nx := fun _ H' => Q .non H', rt := Q } (L2.start N_law_apart vs) H := by
  obtain ⟨v, d, L, F, rfl, e, ho, hc, k⟩ := h
  obtain ⟨p1, p2, p3⟩ := hc.pl
  refine ⟨v, rfl, v, d, L, F, by rw [List.append_nil], e, ho, p1, fun H1 s1 o1 => ?_⟩
  obtain ⟨f1, f2, r1⟩ := o1.frz s1.fh
  refine ⟨v, rfl, frzL F H1 L, v, spoil d, by rw [List.append_nil], f2, r1, p2, p3, Nat.le_refl 8, fun F2 H2 s2 => k H2 ⟨Same.refl F, (f1.trans s2.ff).trans s2.fh, fun b o hb z => s2.hh b o (by simp) (s1.hh b o hb z), fun b z => s2.th b (s1.th b z), fun b z _ => z⟩⟩
/-- [a, b], both owned -/
theorem ev_apart {E : XK} {i j : Nat} {te : TE} {D : Ends} (s0 : Same F H) (h : EvOw K [] te σ F H d) (hc : Clean 8 d) : EvT K [] (tTru K (tCall (sp_law_apart K) [] E (tCons te tNil))) σ F H true := fun F1 H1 s Q q =>
  h F1 H1 s _ fun F2 H2 v L s2 hn ho => ⟨v, d, L, F2, by rw [List.append_nil], s2.fh, ho, hc, fun H3 s3 => ⟨true, rfl, q F2 H3 ⟨s2.ff, s3.fh, fun b o _ z => s3.hh b o (fun hb => by rw [hn b hb] at z; cases z) (s2.hh b o (by simp) z), fun b z => s3.th b (s2.th b z), s2.sep⟩⟩⟩
/-- what read_deeds tells, owned -/
theorem ow_read {E : XK} {s : Str} (h : EvD K M ta σ F H (.str s)) (hp : TxtOk (.str s)) (hn : (readT s).2 = none) : EvOw K M (tCall (sp_read_deeds K) [] E (tCons ta tNil)) σ F H (.list ((readT s).1.map lawD)) := fun F1 H1 s1 Q q =>
  h F1 H1 s1 _ fun F2 H2 v s2 rv => ⟨v, _, F2, by rw [List.append_nil], s2.fh, rv, hp, .inl ⟨s, rfl, hn, fun F' H' u L s3 hL ho => q F' H' u L (s2.trans s3) (fun b hb => s2.same.free (hL b hb)) ho⟩⟩
theorem clean_law {n : Nat} {y : Deed} (h : GoodDeed y) : Clean (n + 2) (lawD y) := by
  have hnm : ∀ {s : Str} {m : Nat}, isNm s = true → Clean m (.str s) := fun {s m} hs => .str (isNm_ok hs).1 fun z => by
    rw [z] at hs
    exact absurd hs (by decide +kernel)
  have hk : ∀ {m : Nat}, Clean m (.str sDrop) ∧ Clean m (.str sChain) ∧ Clean m (.str sPut) ∧ Clean m (.str sExch) := fun {m} => ⟨.str (by decide +kernel) (by decide +kernel), .str (by decide +kernel) (by decide +kernel), .str (by decide +kernel) (by decide +kernel), .str (by decide +kernel) (by decide +kernel)⟩
  cases y with
  | drop nm =>
    refine .tuple (fun x hx => ?_) (by simp)
    rcases List.mem_cons.mp hx with rfl | hx
    · exact hk.1
    · rw [List.mem_singleton.mp hx]; exact hnm h
  | chain nm ns =>
    refine .tuple (fun x hx => ?_) (by simp)
    rcases List.mem_cons.mp hx with rfl | hx
    · exact hk.2.1
    rcases List.mem_cons.mp hx with rfl | hx
    · exact hnm h.1
    · rw [List.mem_singleton.mp hx]
      refine .list (fun x hx => ?_) (by rw [List.length_map]; have := h.2.2.1; omega)
      obtain ⟨s, hs, rfl⟩ := List.mem_map.mp hx
      exact hnm (List.all_eq_true.mp h.2.2.2 s hs)
  | octs w nm os =>
    refine .tuple (fun x hx => ?_) (by simp)
    rcases List.mem_cons.mp hx with rfl | hx
    · rcases h.1 with z | z <;> rw [z]
      · exact hk.2.2.1
      · exact hk.2.2.2
    rcases List.mem_cons.mp hx with rfl | hx
    · exact hnm h.2.1
    · rw [List.mem_singleton.mp hx]
      refine .list (fun x hx => ?_) (by rw [List.length_map]; have := h.2.2.2.1; omega)
      obtain ⟨s, hs, rfl⟩ := List.mem_map.mp hx
      exact .int
end
end Sf

/-! a lambda handed to a def that calls it and tells what it raised -/
namespace Sf
open PySem PySem.Spec PyProof.Rows L2 LamX
/-- slot i of n holds v -/
def tVarL (n i : Nat) (v : V) : TE := fun σ H Q => (σ.length = n → σ[i]? = some (some v)) ∧ Q v H
theorem pe_varL {X : Cx} {e : Expr} {i : Nat} {v : V} (h : PE X e (tVar i)) : PE X e (tVarL X.N.length i v) := ⟨fun pins s σ H Q I k => h.run pins s σ H Q I ⟨v, k.1 I.len, k.2⟩⟩
/-- the pair of a word and what the error's field holds, for each class: (class, field, word) -/
def TMet (K : PySem.W.Frag) (L : List (Str × Str × Str)) : (XK → Hp → VK → Prop) → Hp → VK → Prop := fun tl H Q =>
  tl (fun cls d H' => ∃ (x f w : Str) (C dd : Addr) (i : Int), (x, f, w) ∈ L ∧ ClsA K x C ∧ cls = .ref C ∧ d = some dd ∧ H' dd = some (.xd [(f, .int i)]) ∧ ∀ p, H' p = none → Q (.ref p) (upd H' p (.tup [.str w, .int i]))) H (fun _ H' => Q .non H')
/-- the clause's suite: return (w, e.f) -/
def tTell (a : Addr) (cls : Value) (d : Option Addr) (C : Addr) (n : Nat) (f w : Str) : TS := tRet (tTup (tCons (tC (.str w)) (tCons (tXf a cls d C f (tVarL n 1 (.ref a))) tNil)))
theorem tell_run {a C dd : Addr} {n : Nat} {f w : Str} {i : Int} {σ : L2.St} {H : Hp} {D : Ends} (hσ : σ.length = n → σ[1]? = some (some (.ref a))) (hd : H dd = some (.xd [(f, .int i)])) (k : ∀ p, H p = none → D.rt (.ref p) (upd H p (.tup [.str w, .int i]))) : tTell a (.ref C) (some dd) C n f w D σ H :=
  ⟨hσ, rfl, rfl, dd, _, .int i, rfl, hd, by simp [List.lookup], (by show 2 ≤ sizeLine; decide), k⟩
theorem set_len {σ : L2.St} {n : Nat} {v : V} (hn : 2 ≤ n) : (σ.set 1 (some v)).length = n → (σ.set 1 (some v))[1]? = some (some v) := fun h => by
  rw [List.length_set] at h
  rw [List.getElem?_set_self (by omega)]
theorem pe_lamF {X : Cx} {TT : (XK → Hp → VK → Prop) → Hp → VK → Prop} {x a : Str} {g c P : Addr} {k : Nat} {st : Stmt} {fd : FuncData} {Ng : List Str} {params : Arguments} {body : Expr} {scope : Scope} {t : XK → TE} {p lpos pos : Pos} (F : L2.Fun X.K x x st g fd)
    (hg : Gl X x) (hm : X.mg x = some (.ref g)) (hb : L2.Binds X.K fd [a] []) (Sg : FnScope Ng [a] (L2.defScope st)) (hNg : Ng[0]? = some a) (hva : Vis (L2.defScope st) a) (hG : ∀ cdv, GivesTo X Ng x (L2.defScope st) g cdv (L2.defBody st) a (X.env.qual ++ "<lambda>") TT)
    (TB : TabB X.base X.mg c P) (hcode : X.env.code = .ref c) (hr : Room (k + 2) X.A) (L : LamS X.env.scope scope) (hdef : defaultsOf params X.env = ([], []))
    (hbind : ∀ (q : Str) (cl : List (Str × Addr)) (pm cv ctv : Value), bindArgs (PySem.W.kla_fn "<lambda>" q params body scope cl pm cv ctv) ⟨[], []⟩ = pure [])
    (hbody : ∀ (A : Around) (outer : List Env) (s : Shared) (H : Hp) (E : XK) (f c' : Addr), Room k (A.deeper (lamEnv X scope s.heap.objs.size f c')) → PE (lamCx X A outer s H E scope f c') body (t E))
    (hdb : (x == ("__debug__" : Str)) = false := by decide) (hd : (a == ("__debug__" : Str)) = false := by decide) (hcd : (a == ("__classdict__" : Str)) = false := by decide) :
    PE X (.Call (.Name x p) [.Lambda params body scope lpos] [] pos) (tLam [(P, X.env.qual ++ "<lambda>")] TT t) := by
  obtain ⟨oc, od, kV, doc, pm, an, cdv, ct, osl, rfl, lk, hcd'⟩ := F.ex
  exact pe_lamcall hg hm F.kp lk hcd' hb Sg hNg hva (hG cdv) TB hcode (by simp) (fun p hp _ => by rw [List.mem_singleton.mp hp]) hr L hdef hbind hbody hdb hd hcd
/-! tables over the layer -/
theorem tabs_keep {T : List (Addr × Str)} {H H' : Hp} (e : ∀ b o, (∀ xs, o ≠ .lst xs) → H b = some o → H' b = some o) (h : Tabs T H) : Tabs T H' := fun p hp => by
  obtain ⟨ps, h1, h2, h3⟩ := h p hp
  refine ⟨ps, e _ _ (fun xs z => by cases z) h1, h2, fun pos cv hc => ?_⟩
  obtain ⟨c, e1, e2⟩ := h3 pos cv hc
  exact ⟨c, e1, e _ _ (fun xs z => by unfold CodeO at z; cases z) e2⟩
/-- a heap without its tables -/
def noT (F : Hp) : Hp := fun b => match F b with
  | some (.tbl _) => none
  | o => o
theorem noT_some {F : Hp} {b : Addr} {o : HO} (h : noT F b = some o) : F b = some o ∧ ∀ ps, o ≠ .tbl ps := by
  unfold noT at h
  split at h
  · cases h
  · rename_i h2
    exact ⟨h, fun ps z => h2 ps (by rw [h, z])⟩
theorem noT_of {F : Hp} {b : Addr} {o : HO} (h : F b = some o) (n : ∀ ps, o ≠ .tbl ps) : noT F b = some o := by
  unfold noT
  split
  · rename_i ps q
    rw [h] at q
    exact absurd (Option.some.inj q) (n ps)
  · exact h
theorem noT_none {F : Hp} {b : Addr} (h : F b = none) : noT F b = none := by
  unfold noT
  rw [h]
section
variable {K : PySem.W.Frag} {F H F1 H1 : Hp}
theorem noT_same (e : Same F H) (x : ExtN H H1) : Same (noT F) H1 := fun b o h => by
  obtain ⟨h1, h2⟩ := noT_some h
  exact x b o (e b o h1) h2
mutual
theorem rp_noT : ∀ {v : V} {d : PyData}, Rp K F v d → Rp K (noT F) v d
  | _, _, .non => .non
  | _, _, .bl b => .bl b
  | _, _, .int i => .int i
  | _, _, .str x => .str x
  | _, _, .lst h r => .lst (noT_of h fun ps z => by cases z) (rpa_noT r)
  | _, _, .tup h r => .tup (by
      rcases h with (h | ⟨o, h⟩) | h
      · exact .inl (.inl (noT_of h fun ps z => by cases z))
      · exact .inl (.inr ⟨o, noT_of h fun ps z => by cases z⟩)
      · exact .inr h) (rpa_noT r)
theorem rpa_noT : ∀ {vs : List V} {ds : List PyData}, RpAll K F vs ds → RpAll K (noT F) vs ds
  | _, _, .nil => .nil
  | _, _, .cons h r => .cons (rp_noT h) (rpa_noT r)
end
end
end Sf

/-! deeds told as texts, read from texts: plain facts for the law's walk -/
namespace Sf
open PySem L2 RZ TL
/-! evaluation, construct by construct -/
local macro_rules | `(tactic| walk_at "rp") => `(tactic| first | assumption | exact .int _ | exact .bl _ | exact .str _ | exact .non | exact Rp.mono (Sx.ff (by assumption)) (by walk_at "rp"))
local macro_rules | `(tactic| walk_at "sc") => `(tactic| first | rfl | assumption | omega | decide | (simp; done) | (simp; omega))
local macro_rules | `(tactic| walk_at "ix") => `(tactic| first | rfl | assumption)
local macro_rules | `(tactic| walk_at "rv") => `(tactic| first
  | exact xAddI | exact xSub | exact xLt | exact xLe | exact xGt | exact xGe | exact xIsN | exact xNotN | exact xEqI | exact xNeI | exact xEqB | exact xNeB | exact xEqLB | exact xEqTB | exact xNeTB
  | exact xMod (by walk_at "sc")
  | exact xDiv (by walk_at "sc")
  | exact xPow (by walk_at "sc")
  | exact xMulI (by walk_at "sc")
  | exact rv_ixt (by walk_at "ix")
  | exact rv_ixl (by walk_at "ix")
  | exact xAddL (by walk_at "sc")
  | exact xAddT (by walk_at "sc"))
local macro_rules | `(tactic| walk_at "rc") => `(tactic| first | exact xLenL | exact xLenT | exact xListL | exact xListT | exact xTupL | exact xTupT | exact xMax2 | exact xInt | exact rc_all | exact rc_any)
local macro_rules | `(tactic| walk_at "ea") => `(tactic| first | exact ea_nil | refine ea_cons (by walk_at "ev") (by walk_at "ea"))
local macro_rules | `(tactic| walk_at "eo") => `(tactic| first | exact eo_none | refine eo_some (by walk_at "ev"))
local macro_rules | `(tactic| walk_at "et") => `(tactic| first
  | ((with_reducible show EvT _ _ (tTest _) _ _ _ _); exact et_test (by walk_at "ev"))
  | ((with_reducible show EvT _ _ (tNot _) _ _ _ _); exact et_not (by walk_at "et"))
  | ((with_reducible show EvT _ _ (tAnd _ _) _ _ _ _); exact et_and (by walk_at "et") (fun hh => by walk_at "et"))
  | ((with_reducible show EvT _ _ (tOr _ _) _ _ _ _); exact et_or (by walk_at "et") (fun hh => by walk_at "et"))
  | ((with_reducible show EvT _ _ (tTru _ _) _ _ _ _); exact xTru (by walk_at "ev") (by walk_at "sc"))
  | ((with_reducible show EvT _ _ tYes _ _ _ _); exact et_yes))
local macro_rules | `(tactic| walk_at "ev") => `(tactic| first
  | ((with_reducible show EvD _ _ (tC _) _ _ _ _); first | exact ev_int | exact ev_bl | exact ev_str | exact ev_non)
  | ((with_reducible show EvD _ _ (tVar _) _ _ _ _); exact ev_var (by rfl) (by walk_at "rp"))
  | ((with_reducible show EvD _ _ (tOp _ _ _) _ _ _ _); exact ev_op (by walk_at "ev") (by walk_at "ev") (by walk_at "rv"))
  | ((with_reducible show EvD _ _ (tUn _ _) _ _ _ _); exact ev_un (by walk_at "ev") xNeg)
  | ((with_reducible show EvD _ _ (tCB _ _) _ _ _ _); exact ev_cb (by walk_at "ea") (by walk_at "rc"))
  | ((with_reducible show EvD _ _ (tTup _) _ _ _ _); exact ev_tup (by walk_at "ea") (by walk_at "sc"))
  | ((with_reducible show EvD _ _ (tLst _) _ _ _ _); exact ev_lst (by walk_at "ea") (by walk_at "sc"))
  | ((with_reducible show EvD _ _ (tSl _ _ _ _) _ _ _ _); first | exact xSlL (by walk_at "ev") (by walk_at "eo") (by walk_at "eo") | exact xSlT (by walk_at "ev") (by walk_at "eo") (by walk_at "eo"))
  | ((with_reducible show EvD _ _ (tNotT _ _) _ _ _ _); exact ev_notT (by walk_at "ev") (by walk_at "sc"))
  | ((with_reducible show EvD _ _ (tAndT _ _ _) _ _ _ _); exact ev_andB (by walk_at "ev") (fun hh => by walk_at "ev"))
  | ((with_reducible show EvD _ _ (tOrT _ _ _) _ _ _ _); exact ev_orB (by walk_at "ev") (fun hh => by walk_at "ev")))

local macro_rules | `(tactic| walk_at "ev") => `(tactic| ((with_reducible show EvD _ _ (tCall (sp_is_number _) _ _ _) _ _ _ _); exact ev_is_number (by walk_at "ea")))
local macro_rules | `(tactic| walk_at "ev") => `(tactic| ((with_reducible show EvD _ _ (tCall (sp_is_name _) _ _ _) _ _ _ _); exact ev_is_name (by walk_at "ea") (by walk_at "sc")))
local macro_rules | `(tactic| walk_at "ev") => `(tactic| ((with_reducible show EvD _ _ (tCall (sp_is_octets _) _ _ _) _ _ _ _); exact ev_is_octets (by walk_at "ea") (by walk_at "sc")))
local macro_rules | `(tactic| walk_at "ev") => `(tactic| ((with_reducible show EvD _ _ (tCall (sp_octet_of _) _ _ _) _ _ _ _); exact ev_octet_of (by walk_at "ea") (by walk_at "sc")))
local macro_rules | `(tactic| walk_at "ev") => `(tactic| ((with_reducible show EvD _ _ (tCall (sp_is_deed _) _ _ _) _ _ _ _); exact ev_is_deed (by walk_at "ea") (by walk_at "sc")))
local macro_rules | `(tactic| walk_at "ev") => `(tactic| ((with_reducible show EvD _ _ (tCall (sp_rest_in _) _ _ _) _ _ _ _); exact ev_rest_in (by walk_at "ea") (by walk_at "sc")))
local macro_rules | `(tactic| walk_at "ev") => `(tactic| ((with_reducible show EvD _ _ (tCall (sp_plain_deed _) _ _ _) _ _ _ _); exact ev_plain_deed (by walk_at "ea") (by walk_at "sc")))
local macro_rules | `(tactic| walk_at "ev") => `(tactic| ((with_reducible show EvD _ _ (tCall (sp_deed_of _) _ _ _) _ _ _ _); exact ev_deed_of (by walk_at "ea") (by walk_at "sc")))
local macro_rules | `(tactic| walk_at "ev") => `(tactic| ((with_reducible show EvD _ _ (tCall (sp_lines_read _) _ _ _) _ _ _ _); exact ev_lines_read (by walk_at "ea") (by walk_at "sc")))
local macro_rules | `(tactic| walk_at "ev") => `(tactic| ((with_reducible show EvD _ _ (tCall (sp_deeds_fault _) _ _ _) _ _ _ _); exact ev_deeds_fault (by walk_at "ea") (by walk_at "sc")))
def vErrs : List (Str × Str × Str) := [("BadLine", "line", "line"), ("BadDeed", "index", "deed")]
/-! ### texts that can be laid -/
theorem tok_of {s : Str} (h : ∀ x ∈ tl s, x < 1114112) (hl : s.length ≤ 1000000) : TOk s := by
  refine ⟨Array.all_eq_true'.mpr fun x hx => ?_, hl⟩
  have := h x (by simpa using hx)
  simpa using this
theorem tok_mem {s : Str} (h : TOk s) : ∀ x ∈ tl s, x < 1114112 := fun x hx => by
  have := Array.all_eq_true'.mp h.1 x (by simpa using hx)
  simpa using this
theorem tok_append {a b : Str} (ha : TOk a) (hb : TOk b) (hl : a.length + b.length ≤ 1000000) : TOk (a ++ b) ∧ (a ++ b).length = a.length + b.length := by
  have e : (a ++ b).length = a.length + b.length := by rw [len_tl, tl_append, List.length_append, ← len_tl, ← len_tl]
  refine ⟨tok_of (fun x hx => ?_) (by omega), e⟩
  rw [tl_append] at hx
  rcases List.mem_append.mp hx with z | z
  · exact tok_mem ha x z
  · exact tok_mem hb x z
theorem tok_cut {s : Str} {lo hi : Option Int} (h : TOk s) : TOk (cutS s lo hi) := part_ok h (fun x hx => (List.drop_sublist _ _).subset ((List.take_sublist _ _).subset hx)) (cutS_length ..)
theorem joinL_mem {S : List Nat} {x : Nat} : ∀ {ps : List (List Nat)}, x ∈ joinL S ps → x ∈ S ∨ ∃ p ∈ ps, x ∈ p
  | [], h => by cases h
  | [p], h => .inr ⟨p, by simp, h⟩
  | p :: q :: r, h => by
    have h : x ∈ p ++ (S ++ joinL S (q :: r)) := h
    rcases List.mem_append.mp h with z | z
    · exact .inr ⟨p, by simp, z⟩
    rcases List.mem_append.mp z with z | z
    · exact .inl z
    · rcases joinL_mem z with z | ⟨p', h1, h2⟩
      · exact .inl z
      · exact .inr ⟨p', List.mem_cons_of_mem _ h1, h2⟩
theorem word_tok {d : Deed} (h : GoodDeed d) : ∀ p ∈ deedWords d, TOk p := by
  have hk : TOk sDrop ∧ TOk sChain ∧ TOk sPut ∧ TOk sExch := ⟨⟨by decide +kernel, by decide⟩, ⟨by decide +kernel, by decide⟩, ⟨by decide +kernel, by decide⟩, ⟨by decide +kernel, by decide⟩⟩
  have hn : ∀ n, n < 256 → TOk (numS n) := fun n hn => tok_of (fun x hx => by
    rcases Nat.lt_or_ge x 48 with z | z
    · exact absurd hx (numS_free (.inl z))
    · rcases Nat.lt_or_ge 57 x with z2 | z2
      · exact absurd hx (numS_free (.inr z2))
      · omega) (by
    rw [len_tl]
    unfold numS
    rw [tl_num]
    exact Nat.le_trans (numL_len (k := 3) (by decide) (by omega)) (by decide))
  cases d with
  | drop n =>
    intro p hp
    rcases List.mem_cons.mp hp with rfl | hp
    · exact hk.1
    · rw [List.mem_singleton.mp hp]; exact isNm_ok h
  | chain n ns =>
    intro p hp
    rcases List.mem_cons.mp hp with rfl | hp
    · exact hk.2.1
    rcases List.mem_cons.mp hp with rfl | hp
    · exact isNm_ok h.1
    · exact isNm_ok (List.all_eq_true.mp h.2.2.2 p hp)
  | octs w n os =>
    intro p hp
    rcases List.mem_cons.mp hp with rfl | hp
    · rcases h.1 with z | z <;> rw [z]
      · exact hk.2.2.1
      · exact hk.2.2.2
    rcases List.mem_cons.mp hp with rfl | hp
    · exact isNm_ok h.2.1
    · obtain ⟨o, ho, rfl⟩ := List.mem_map.mp hp; exact hn o (h.2.2.2.2 o ho)
theorem len_text (ds : List Deed) : (deedsText ds).length = sumL ds := by
  rw [← text_told, len_tl, tl_join]
  show (joinL [] _).length = _
  rw [joinL_nil, List.length_flatten, List.map_map, List.map_map]
  unfold sumL
  rw [show ((List.length ∘ tl) ∘ fun d => deedLine d ++ nln) = fun d => (deedLine d ++ nln).length from funext fun d => (len_tl _).symm]
theorem text_len {ds : List Deed} (h : ∀ d ∈ ds, LittleDeed d) (hl : ds.length ≤ 10) : (deedsText ds).length ≤ 4690 := by
  rw [len_text]
  have h2 := sum_le (ss := ds.map fun d => deedLine d ++ nln) (n := 469) fun s hs => by
    obtain ⟨d, hd, rfl⟩ := List.mem_map.mp hs
    have := line_len (h d hd)
    rw [len_tl, tl_append, List.length_append, ← len_tl, ← len_tl]
    have h1 : nln.length = 1 := rfl
    omega
  rw [List.map_map, List.length_map] at h2
  have h3 : ds.length * 469 ≤ 10 * 469 := Nat.mul_le_mul_right 469 hl
  exact Nat.le_trans h2 h3
theorem text_tok {ds : List Deed} (h : ∀ d ∈ ds, LittleDeed d) (hl : ds.length ≤ 10) : TOk (deedsText ds) := by
  refine tok_of (fun x hx => ?_) (Nat.le_trans (text_len h hl) (by decide))
  rw [← text_told, tl_join] at hx
  rcases joinL_mem hx with z | ⟨p, hp, hx⟩
  · cases z
  · rw [List.map_map] at hp
    obtain ⟨d, hd, rfl⟩ := List.mem_map.mp hp
    have hx : x ∈ tl (deedLine d ++ nln) := hx
    rw [tl_append] at hx
    rcases List.mem_append.mp hx with z | z
    · unfold deedLine at z
      rw [tl_join] at z
      rcases joinL_mem z with z | ⟨p, hp, hx⟩
      · rw [tl_spc, List.mem_singleton] at z; omega
      · obtain ⟨s, hs, rfl⟩ := List.mem_map.mp hp
        exact tok_mem (word_tok (h d hd).1 s hs) x hx
    · rw [tl_nln, List.mem_singleton] at z; omega
/-! ### there and back -/
theorem readT_text {ds : List Deed} (h : ∀ d ∈ ds, GoodDeed d) : readT (deedsText ds) = (ds, none) := by
  have e := lines_text h
  have e1 : (lines (deedsText ds)).dropLast = ds.map deedLine := by rw [e, List.dropLast_concat]
  have e2 : (lines (deedsText ds)).getLast? = some Str.empty := by rw [e, List.getLast?_concat]
  have e3 : readL 1 (lines (deedsText ds)).dropLast = (ds, none) := by
    rw [e1]
    refine readL_good _ 1 ds ?_
    rw [List.map_map]
    apply List.map_congr_left
    intro d hd
    show deedOf (words (deedLine d)) = some d
    rw [words_line (h d hd), deedOf_good (h d hd)]
  rw [readT_good e3, if_pos e2]
theorem readL_none : ∀ {ls : List Str} {k : Nat} {ds : List Deed}, readL k ls = (ds, none) → ls.map (fun l => deedOf (words l)) = ds.map some
  | [], k, ds, h => by cases h; rfl
  | l :: r, k, ds, h => by
    rw [readL] at h
    cases hd : deedOf (words l) with
    | none => rw [hd] at h; cases h
    | some d =>
      rw [hd] at h
      simp only [Prod.mk.injEq] at h
      obtain ⟨h1, h2⟩ := h
      have ih := readL_none (ls := r) (k := k + 1) (ds := (readL (k + 1) r).1) (by rw [← h2])
      rw [← h1, List.map_cons, List.map_cons, hd, ih]
theorem read_back {s : Str} {ds : List Deed} (hs : s.length ≤ 15000) (h : readT s = (ds, none)) : deedsText ds = s ∧ (∀ d ∈ ds, FitDeed d) ∧ ds.length ≤ 15001 ∧ (lines s).dropLast.map (fun l => deedOf (words l)) = ds.map some := by
  have hll := lines_len s
  have key : readL 1 (lines s).dropLast = (ds, none) ∧ (lines s).getLast? = some Str.empty := by
    cases hq : readL 1 (lines s).dropLast with
    | mk es o =>
      cases o with
      | some k => rw [readT_bad hq] at h; cases h
      | none =>
        rw [readT_good hq] at h
        by_cases hl : (lines s).getLast? = some Str.empty
        · rw [if_pos hl] at h
          cases h
          exact ⟨rfl, hl⟩
        · rw [if_neg hl] at h
          cases h
  obtain ⟨k1, k2⟩ := key
  have k3 := readL_none k1
  have each : ∀ (ls : List Str) (ds : List Deed), (∀ l ∈ ls, l.length ≤ 15000) → ls.map (fun l => deedOf (words l)) = ds.map some → ls = ds.map deedLine ∧ ∀ d ∈ ds, FitDeed d := by
    intro ls
    induction ls with
    | nil => intro ds _ h; cases ds with | nil => exact ⟨rfl, by simp⟩ | cons d ds => simp at h
    | cons l r ih =>
      intro ds hl h
      cases ds with
      | nil => simp at h
      | cons d ds =>
        simp only [List.map_cons, List.cons.injEq] at h
        obtain ⟨h1, h2⟩ := ih ds (fun x hx => hl x (List.mem_cons_of_mem _ hx)) h.2
        have hwl := words_len l
        have h15 := hl l (by simp)
        obtain ⟨h3, h4⟩ := deedOf_some (by omega) h.1
        have h5 : l = deedLine d := by unfold deedLine; rw [h3, join_words]
        have h6 : (partsD d).length ≤ 20000 := by
          have h7 := congrArg List.length h3
          rw [deed_parts, List.length_append, List.length_map] at h7
          omega
        refine ⟨by rw [List.map_cons, ← h1, ← h5], fun x hx => ?_⟩
        rcases List.mem_cons.mp hx with rfl | hx
        · exact ⟨h4, h6⟩
        · exact h2 x hx
  obtain ⟨e1, e2⟩ := each _ ds (fun l hl => Nat.le_trans (line_in ((List.dropLast_sublist _).subset hl)).2 hs) k3
  refine ⟨?_, e2, ?_, k3⟩
  · unfold deedsText
    rw [← e1]
    have hne := lines_ne s
    have : (lines s).dropLast ++ [Str.empty] = lines s := by
      rw [List.getLast?_eq_getLast hne] at k2
      have := List.dropLast_concat_getLast hne
      rw [Option.some.inj k2] at this
      exact this
    rw [this, join_lines]
  · have := congrArg List.length k3
    rw [List.length_map, List.length_map, List.length_dropLast] at this
    omega
/-! ### told loosely -/
theorem loose_rw {d x : PyData} {ds : List PyData} (h : Loose d x) (hd : rowD d = some ds) : ∃ es, rowD x = some es ∧ es.length = ds.length ∧ ∀ (i : Nat) a b, ds[i]? = some a → es[i]? = some b → Loose a b := by
  cases h with
  | atom hh => rcases (row_is hd).1 with rfl | rfl
               · exact absurd rfl (hh.1 ds)
               · exact absurd rfl (hh.2 ds)
  | @row ds' es _ _ hd' he hl hi =>
    have : ds' = ds := by rcases hd' with rfl | rfl <;> cases hd <;> rfl
    subst this
    exact ⟨es, by rcases he with rfl | rfl <;> rfl, hl.symm, hi⟩
theorem loose_flat {d x : PyData} (h : Loose d x) (hd : rowD d = none) : x = d := by
  cases h with
  | atom _ => rfl
  | row hd' _ _ _ => rcases hd' with rfl | rfl <;> cases hd
theorem loose_flats {d x : PyData} {ds : List PyData} (h : Loose d x) (hd : rowD d = some ds) (hf : ∀ a ∈ ds, rowD a = none) : rowD x = some ds := by
  obtain ⟨es, h1, h2, h3⟩ := loose_rw h hd
  rw [h1]
  congr 1
  apply List.ext_getElem? 
  intro i
  rcases Nat.lt_or_ge i ds.length with z | z
  · have z' : i < es.length := by omega
    rw [List.getElem?_eq_getElem z, List.getElem?_eq_getElem z']
    exact congrArg some (loose_flat (h3 i _ _ (List.getElem?_eq_getElem z) (List.getElem?_eq_getElem z')) (hf _ (List.getElem_mem z)))
  · rw [List.getElem?_eq_none z, List.getElem?_eq_none (by omega)]
theorem loose_three {x : PyData} {w n : Str} {t : PyData} (h : Loose (.tuple [.str w, .str n, t]) x) : ∃ t', rowD x = some [.str w, .str n, t'] ∧ Loose t t' := by
  obtain ⟨es, h1, h2, h3⟩ := loose_rw h rfl
  match es, h2 with
  | [a, b, c], _ =>
    have e1 := loose_flat (h3 0 _ _ rfl rfl) rfl
    have e2 := loose_flat (h3 1 _ _ rfl rfl) rfl
    subst e1 e2
    exact ⟨c, h1, h3 2 _ _ rfl rfl⟩
theorem loose_two {x : PyData} {w n : Str} (h : Loose (.tuple [.str w, .str n]) x) : rowD x = some [.str w, .str n] := loose_flats h rfl fun a ha => by
  rcases List.mem_cons.mp ha with rfl | ha
  · rfl
  · rw [List.mem_singleton.mp ha]; rfl
theorem pl_loose {y : Deed} {x : PyData} (h : GoodDeed y) (hl : Loose (lawD y) x) : plD x = progD y := by
  cases y with
  | drop n => rw [plD_two (loose_two hl), if_pos (show isNm n = true from h)]; rfl
  | chain n ns =>
    obtain ⟨t, h1, h2⟩ := loose_three hl
    have h3 := loose_flats h2 rfl (fun a ha => by obtain ⟨s, _, rfl⟩ := List.mem_map.mp ha; rfl)
    have e : ((decide (1 ≤ ns.length) && decide (ns.length ≤ 4)) && ns.all isNm) = true := by rw [h.2.2.2, decide_eq_true h.2.1, decide_eq_true h.2.2.1]; rfl
    rw [plD_three h1 lk_chain (by decide +kernel), if_pos h.1, restD_chain h3, e]
    rfl
  | octs w n os =>
    obtain ⟨t, h1, h2⟩ := loose_three hl
    have h3 := loose_flats h2 rfl (fun a ha => by obtain ⟨s, _, rfl⟩ := List.mem_map.mp ha; rfl)
    have hlk : deedSizes.lookup w = some 3 := by rcases h.1 with z | z <;> rw [z]; exact lk_put; exact lk_exch
    have hnd : w ≠ sDrop := by rcases h.1 with z | z <;> rw [z] <;> decide +kernel
    have hnc : w ≠ sChain := by rcases h.1 with z | z <;> rw [z] <;> decide +kernel
    have e : (decide (1 ≤ os.length) && decide (os.length ≤ 20000)) = true := by rw [decide_eq_true h.2.2.1, decide_eq_true h.2.2.2.1]; rfl
    rw [plD_three h1 hlk hnd, if_pos h.2.1, restD_octs hnc h3 h.2.2.2.2, e]
    rfl
theorem pt_loose {n : Nat} {d x : PyData} (h : Pt n d) (hl : Loose d x) : Pt n x := by
  induction h generalizing x with
  | non => rw [loose_flat hl rfl]; exact .non
  | bool => rw [loose_flat hl rfl]; exact .bool
  | int => rw [loose_flat hl rfl]; exact .int
  | str h => rw [loose_flat hl rfl]; exact .str h
  | @list n ds h hn ih =>
    obtain ⟨es, h1, h2, h3⟩ := loose_rw hl rfl
    have hes : ∀ e, e ∈ es → Pt n e := fun e he => by
      obtain ⟨i, hi⟩ := List.getElem?_of_mem he
      have z : i < es.length := by
        rcases Nat.lt_or_ge i es.length with z | z
        · exact z
        · rw [List.getElem?_eq_none z] at hi; cases hi
      have z' : i < ds.length := by omega
      exact ih _ (List.getElem_mem z') (h3 i _ _ (List.getElem?_eq_getElem z') hi)
    rcases (row_is h1).1 with rfl | rfl
    · exact .list hes (by omega)
    · exact .tuple hes (by omega)
  | @tuple n ds h hn ih =>
    obtain ⟨es, h1, h2, h3⟩ := loose_rw hl rfl
    have hes : ∀ e, e ∈ es → Pt n e := fun e he => by
      obtain ⟨i, hi⟩ := List.getElem?_of_mem he
      have z : i < es.length := by
        rcases Nat.lt_or_ge i es.length with z | z
        · exact z
        · rw [List.getElem?_eq_none z] at hi; cases hi
      have z' : i < ds.length := by omega
      exact ih _ (List.getElem_mem z') (h3 i _ _ (List.getElem?_eq_getElem z') hi)
    rcases (row_is h1).1 with rfl | rfl
    · exact .list hes (by omega)
    · exact .tuple hes (by omega)
theorem loose_refl {n : Nat} {d : PyData} (h : Pt n d) : Loose d d := by
  induction h with
  | non => exact .atom ⟨(fun _ z => by cases z), (fun _ z => by cases z)⟩
  | bool => exact .atom ⟨(fun _ z => by cases z), (fun _ z => by cases z)⟩
  | int => exact .atom ⟨(fun _ z => by cases z), (fun _ z => by cases z)⟩
  | str h => exact .atom ⟨(fun _ z => by cases z), (fun _ z => by cases z)⟩
  | list h hn ih => exact .row (.inl rfl) (.inl rfl) rfl fun i x y hx hy => by rw [hx] at hy; cases hy; exact ih _ (List.mem_of_getElem? hx)
  | tuple h hn ih => exact .row (.inr rfl) (.inr rfl) rfl fun i x y hx hy => by rw [hx] at hy; cases hy; exact ih _ (List.mem_of_getElem? hx)
theorem pt_law {n : Nat} {y : Deed} (h : GoodDeed y) : Pt (n + 2) (lawD y) := by
  have hw := word_tok h
  cases y with
  | drop nm =>
    refine .tuple (fun x hx => ?_) (by simp)
    rcases List.mem_cons.mp hx with rfl | hx
    · exact .str (hw _ (by simp [deedWords]))
    · rw [List.mem_singleton.mp hx]; exact .str (hw _ (by simp [deedWords]))
  | chain nm ns =>
    refine .tuple (fun x hx => ?_) (by simp)
    rcases List.mem_cons.mp hx with rfl | hx
    · exact .str (hw _ (by simp [deedWords]))
    rcases List.mem_cons.mp hx with rfl | hx
    · exact .str (hw _ (by simp [deedWords]))
    · rw [List.mem_singleton.mp hx]
      refine .list (fun x hx => ?_) (by rw [List.length_map]; have := h.2.2.1; omega)
      obtain ⟨s, hs, rfl⟩ := List.mem_map.mp hx
      exact .str (hw s (by simp [deedWords, hs]))
  | octs w nm os =>
    refine .tuple (fun x hx => ?_) (by simp)
    rcases List.mem_cons.mp hx with rfl | hx
    · exact .str (hw _ (by simp [deedWords]))
    rcases List.mem_cons.mp hx with rfl | hx
    · exact .str (hw _ (by simp [deedWords]))
    · rw [List.mem_singleton.mp hx]
      refine .list (fun x hx => ?_) (by rw [List.length_map]; have := h.2.2.2.1; omega)
      obtain ⟨s, hs, rfl⟩ := List.mem_map.mp hx
      exact .int
theorem pt_laws {n : Nat} {ds : List Deed} (h : ∀ d ∈ ds, GoodDeed d) (hl : ds.length ≤ 1000000) : Pt (n + 3) (.list (ds.map lawD)) := .list (fun x hx => by obtain ⟨d, hd, rfl⟩ := List.mem_map.mp hx; exact pt_law (h d hd)) (by rw [List.length_map]; exact hl)
/-! ### how many draws the loosening wants -/
theorem mxc_le {n : Nat} : ∀ {ds : List PyData}, (∀ d ∈ ds, cst d ≤ n) → mxc ds ≤ n
  | [], _ => Nat.zero_le _
  | d :: ds, h => by
    rw [mxc]
    exact Nat.max_le.mpr ⟨h d (by simp), mxc_le fun x hx => h x (List.mem_cons_of_mem _ hx)⟩
theorem cst_flat {d : PyData} (h : rowD d = none) : cst d = 0 := by
  cases d <;> first | (cases h; done) | simp only [cst]
theorem cst_law (y : Deed) : cst (lawD y) ≤ 4 := by
  have h1 : ∀ ds : List PyData, (∀ d ∈ ds, rowD d = none) → cst (.list ds) = 1 := fun ds h => by
    rw [cst]
    have : mxc ds = 0 := Nat.le_zero.mp (mxc_le fun d hd => by rw [cst_flat (h d hd)]; exact Nat.le_refl 0)
    rw [this]; simp
  have h2 : ∀ ds : List PyData, (∀ d ∈ ds, cst d ≤ 1) → ds.length ≤ 3 → cst (.tuple ds) ≤ 4 := fun ds h hl => by
    rw [cst]
    have := mxc_le h
    have h3 : mxc ds * ds.length ≤ 1 * 3 := Nat.mul_le_mul this hl
    omega
  cases y with
  | drop nm => exact h2 _ (fun d hd => by
      rcases List.mem_cons.mp hd with rfl | hd
      · rw [cst_flat rfl]; decide
      · rw [List.mem_singleton.mp hd, cst_flat rfl]; decide) (by simp)
  | chain nm ns => exact h2 _ (fun d hd => by
      rcases List.mem_cons.mp hd with rfl | hd
      · rw [cst_flat rfl]; decide
      rcases List.mem_cons.mp hd with rfl | hd
      · rw [cst_flat rfl]; decide
      · rw [List.mem_singleton.mp hd, h1 _ fun d hd => by obtain ⟨s, _, rfl⟩ := List.mem_map.mp hd; rfl]; exact Nat.le_refl 1) (by simp)
  | octs w nm os => exact h2 _ (fun d hd => by
      rcases List.mem_cons.mp hd with rfl | hd
      · rw [cst_flat rfl]; decide
      rcases List.mem_cons.mp hd with rfl | hd
      · rw [cst_flat rfl]; decide
      · rw [List.mem_singleton.mp hd, h1 _ fun d hd => by obtain ⟨s, _, rfl⟩ := List.mem_map.mp hd; rfl]; exact Nat.le_refl 1) (by simp)
theorem cst_laws {ds : List Deed} (h : ds.length ≤ 4) : cst (.list (ds.map lawD)) ≤ 17 := by
  rw [cst]
  have h1 : mxc (ds.map lawD) ≤ 4 := mxc_le fun d hd => by obtain ⟨y, _, rfl⟩ := List.mem_map.mp hd; exact cst_law y
  rw [List.length_map]
  have h3 : mxc (ds.map lawD) * ds.length ≤ 4 * 4 := Nat.mul_le_mul h1 h
  omega
/-! ### things that are no deeds -/
def fS : Str := "f"
def aS : Str := "a"
def odds1 : List PyData := [.none, .int 5, .str sPut, .tuple [.str sPut, .str fS], .tuple [.str sDrop], .tuple [.str sDrop, .str fS, .str "g"], .tuple [.str sPut, .str fS, .list []], .tuple [.str sPut, .str fS, .list [.int 256]], .tuple [.str sChain, .str fS, .list []], .tuple [.str "give", .str fS]]
def odds2 : List PyData := [.tuple [.str sChain, .str fS, .list (List.replicate 5 (.str aS))], .tuple [.str sChain, .str fS, .str "gg"], .tuple [.str sPut, .str "read", .list [.int 1]], .tuple [.str sChain, .str fS, .list [.str aS, .str "start"]], .tuple [.str sExch, .str fS, .list [.int (-1)]]]
theorem odds_no : (odds1 ++ odds2).all (fun x => isNon (plD x)) = true := by decide +kernel
theorem odd_no {x : PyData} (h : x ∈ odds1 ++ odds2) : plD x = .none := by
  have := List.all_eq_true.mp odds_no x h
  cases hp : plD x with
  | none => rfl
  | _ => rw [hp] at this; cases this
def ptB : Nat → PyData → Bool
  | _, .none => true
  | _, .bool _ => true
  | _, .int _ => true
  | _, .str s => PyData.strOk s && decide (s.length ≤ 100)
  | _, _ => false
def ptB2 : PyData → Bool
  | .list ds => ds.all (ptB 0) && decide (ds.length ≤ 100)
  | .tuple ds => ds.all (ptB 0) && decide (ds.length ≤ 100)
  | d => ptB 0 d
def ptB3 : PyData → Bool
  | .list ds => ds.all ptB2 && decide (ds.length ≤ 100)
  | .tuple ds => ds.all ptB2 && decide (ds.length ≤ 100)
  | d => ptB2 d
theorem ptB_ok {d : PyData} {m n : Nat} (h : ptB m d = true) : Pt n d := by
  cases d with
  | none => exact .non
  | bool => exact .bool
  | int => exact .int
  | str s =>
    simp only [ptB, Bool.and_eq_true, decide_eq_true_eq] at h
    exact .str ⟨h.1, by omega⟩
  | _ => cases h
theorem ptB2_ok {d : PyData} {n : Nat} (h : ptB2 d = true) : Pt (n + 1) d := by
  cases d with
  | list ds =>
    simp only [ptB2, Bool.and_eq_true, decide_eq_true_eq, List.all_eq_true] at h
    exact .list (fun x hx => ptB_ok (h.1 x hx)) (by omega)
  | tuple ds =>
    simp only [ptB2, Bool.and_eq_true, decide_eq_true_eq, List.all_eq_true] at h
    exact .tuple (fun x hx => ptB_ok (h.1 x hx)) (by omega)
  | none => exact .non
  | bool => exact .bool
  | int => exact .int
  | str s => exact ptB_ok (m := 0) h
  | dict _ => cases h
theorem ptB3_ok {d : PyData} {n : Nat} (h : ptB3 d = true) : Pt (n + 2) d := by
  cases d with
  | list ds =>
    simp only [ptB3, Bool.and_eq_true, decide_eq_true_eq, List.all_eq_true] at h
    exact .list (fun x hx => ptB2_ok (h.1 x hx)) (by omega)
  | tuple ds =>
    simp only [ptB3, Bool.and_eq_true, decide_eq_true_eq, List.all_eq_true] at h
    exact .tuple (fun x hx => ptB2_ok (h.1 x hx)) (by omega)
  | none => exact .non
  | bool => exact .bool
  | int => exact .int
  | str s => exact ptB_ok (m := 0) h
  | dict _ => cases h
theorem odds_pt : (odds1 ++ odds2).all ptB3 = true := by decide +kernel
theorem odd_pt {x : PyData} {n : Nat} (h : x ∈ odds1 ++ odds2) : Pt (n + 2) x := ptB3_ok (List.all_eq_true.mp odds_pt x h)
/-! ### great deeds -/
def greatD (m : Nat) : PyData := .tuple [.str sPut, .str fS, .list (List.replicate m (.int 7))]
theorem flat_rep {α : Type} (n : Nat) (a : α) : (List.replicate n [a]).flatten = List.replicate n a := by
  induction n with
  | zero => rfl
  | succ n ih => rw [List.replicate_succ, List.flatten_cons, ih, List.replicate_succ]; rfl
def greatDeed : Deed := .octs sPut fS (List.replicate 20000 7)
theorem great_law : greatD 20000 = lawD greatDeed := by
  show PyData.tuple [_, _, .list (List.replicate 20000 (.int 7))] = .tuple [_, _, .list ((List.replicate 20000 7).map fun o : Nat => .int (o : Int))]
  rw [List.map_replicate]; rfl
theorem great_fit : FitDeed greatDeed := by
  refine ⟨⟨.inl rfl, by decide +kernel, by rw [List.length_replicate]; decide, by rw [List.length_replicate]; exact Nat.le_refl _, fun o ho => ?_⟩, ?_⟩
  · rw [(List.mem_replicate.mp ho).2]; decide
  · show ((List.replicate 20000 7).map fun o : Nat => PyData.int (o : Int)).length ≤ 20000
    rw [List.length_map, List.length_replicate]; exact Nat.le_refl _
theorem great_no : plD (greatD 20001) = .none := by
  have h3 : rowD (.list (List.replicate 20001 (.int 7))) = some ((List.replicate 20001 7).map fun o : Nat => .int (o : Int)) := by
    show some _ = some _
    rw [List.map_replicate]; rfl
  rw [plD_three (d := greatD 20001) (w := sPut) (n := fS) (t := .list (List.replicate 20001 (.int 7))) rfl lk_put (by decide +kernel), restD_octs (by decide +kernel) h3 (fun o ho => by rw [(List.mem_replicate.mp ho).2]; decide), List.length_replicate]
  have e : (decide (1 ≤ 20001) && decide (20001 ≤ 20000)) = false := by decide
  rw [e]
  split <;> rfl
theorem great_pt {m n : Nat} (h : m ≤ 100000) : Pt (n + 2) (greatD m) := by
  refine .tuple (fun x hx => ?_) (by simp)
  rcases List.mem_cons.mp hx with rfl | hx
  · exact .str ⟨by decide +kernel, by decide⟩
  rcases List.mem_cons.mp hx with rfl | hx
  · exact .str ⟨by decide +kernel, by decide⟩
  · rw [List.mem_singleton.mp hx]
    refine .list (fun x hx => ?_) (by rw [List.length_replicate]; omega)
    rw [(List.mem_replicate.mp hx).2]; exact .int
theorem joinL_leneq {S : List Nat} : ∀ {ps : List (List Nat)}, ps ≠ [] → (joinL S ps).length + S.length = (ps.map List.length).sum + ps.length * S.length
  | [], h => absurd rfl h
  | [p], _ => by simp [joinL]
  | p :: q :: r, _ => by
    show (p ++ (S ++ joinL S (q :: r))).length + S.length = _
    have := joinL_leneq (S := S) (ps := q :: r) (by simp)
    rw [List.map_cons, List.sum_cons, List.length_append, List.length_append, List.length_cons (as := q :: r), Nat.add_mul]
    omega
theorem line_len_eq (d : Deed) : (deedLine d).length + 1 = ((deedWords d).map fun w => w.length).sum + (deedWords d).length := by
  unfold deedLine
  rw [len_tl, tl_join]
  have := joinL_leneq (S := tl spc) (ps := (deedWords d).map tl) (fun z => deedWords_ne d (List.map_eq_nil_iff.mp z))
  rw [List.length_map, List.map_map] at this
  have e5 : (tl spc).length = 1 := rfl
  rw [e5, Nat.mul_one] at this
  rw [this, show (List.length ∘ tl) = fun w : Str => w.length from funext fun w => (len_tl w).symm]
theorem text_one (d : Deed) : (deedsText [d]).length = (deedLine d).length + 1 := by
  rw [len_text]
  unfold sumL
  rw [List.map_cons, List.map_nil, List.sum_cons, List.sum_nil, Nat.add_zero, len_tl, tl_append, List.length_append, ← len_tl]
  rfl
theorem great_words (m : Nat) : ((deedWords (.octs sPut fS (List.replicate m 7))).map fun w => w.length).sum + (deedWords (.octs sPut fS (List.replicate m 7))).length = 6 + m + m := by
  show (((sPut :: fS :: (List.replicate m 7).map numS)).map fun w => w.length).sum + (sPut :: fS :: (List.replicate m 7).map numS).length = _
  rw [List.map_replicate, List.map_cons, List.map_cons, List.map_replicate, List.sum_cons, List.sum_cons, List.sum_replicate_nat, List.length_cons, List.length_cons, List.length_replicate]
  have e3 : (numS 7).length = 1 := by decide +kernel
  have e4 : sPut.length = 3 := rfl
  have e5 : fS.length = 1 := rfl
  rw [e3, e4, e5]
  omega
theorem great_text : (deedsText [greatDeed]).length = 40006 := by
  rw [text_one, line_len_eq]
  unfold greatDeed
  rw [great_words]
end Sf

/-! deeds told as texts, read from texts: the law's looks -/
namespace Sf
open PySem L2 RZ TL
/-! evaluation, construct by construct -/
local macro_rules | `(tactic| walk_at "rp") => `(tactic| first | assumption | exact .int _ | exact .bl _ | exact .str _ | exact .non | exact Rp.mono (Sx.ff (by assumption)) (by walk_at "rp"))
local macro_rules | `(tactic| walk_at "sc") => `(tactic| first | rfl | assumption | omega | decide | (simp; done) | (simp; omega))
local macro_rules | `(tactic| walk_at "ix") => `(tactic| first | rfl | assumption)
local macro_rules | `(tactic| walk_at "rv") => `(tactic| first
  | exact xAddI | exact xSub | exact xLt | exact xLe | exact xGt | exact xGe | exact xIsN | exact xNotN | exact xEqI | exact xNeI | exact xEqB | exact xNeB | exact xEqLB | exact xEqTB | exact xNeTB
  | exact xMod (by walk_at "sc")
  | exact xDiv (by walk_at "sc")
  | exact xPow (by walk_at "sc")
  | exact xMulI (by walk_at "sc")
  | exact rv_ixt (by walk_at "ix")
  | exact rv_ixl (by walk_at "ix")
  | exact xAddL (by walk_at "sc")
  | exact xAddT (by walk_at "sc"))
local macro_rules | `(tactic| walk_at "rc") => `(tactic| first | exact xLenL | exact xLenT | exact xListL | exact xListT | exact xTupL | exact xTupT | exact xMax2 | exact xInt | exact rc_all | exact rc_any)
local macro_rules | `(tactic| walk_at "ea") => `(tactic| first | exact ea_nil | refine ea_cons (by walk_at "ev") (by walk_at "ea"))
local macro_rules | `(tactic| walk_at "eo") => `(tactic| first | exact eo_none | refine eo_some (by walk_at "ev"))
local macro_rules | `(tactic| walk_at "et") => `(tactic| first
  | ((with_reducible show EvT _ _ (tTest _) _ _ _ _); exact et_test (by walk_at "ev"))
  | ((with_reducible show EvT _ _ (tNot _) _ _ _ _); exact et_not (by walk_at "et"))
  | ((with_reducible show EvT _ _ (tAnd _ _) _ _ _ _); exact et_and (by walk_at "et") (fun hh => by walk_at "et"))
  | ((with_reducible show EvT _ _ (tOr _ _) _ _ _ _); exact et_or (by walk_at "et") (fun hh => by walk_at "et"))
  | ((with_reducible show EvT _ _ (tTru _ _) _ _ _ _); exact xTru (by walk_at "ev") (by walk_at "sc"))
  | ((with_reducible show EvT _ _ tYes _ _ _ _); exact et_yes))
local macro_rules | `(tactic| walk_at "ev") => `(tactic| first
  | ((with_reducible show EvD _ _ (tC _) _ _ _ _); first | exact ev_int | exact ev_bl | exact ev_str | exact ev_non)
  | ((with_reducible show EvD _ _ (tVar _) _ _ _ _); exact ev_var (by rfl) (by walk_at "rp"))
  | ((with_reducible show EvD _ _ (tOp _ _ _) _ _ _ _); exact ev_op (by walk_at "ev") (by walk_at "ev") (by walk_at "rv"))
  | ((with_reducible show EvD _ _ (tUn _ _) _ _ _ _); exact ev_un (by walk_at "ev") xNeg)
  | ((with_reducible show EvD _ _ (tCB _ _) _ _ _ _); exact ev_cb (by walk_at "ea") (by walk_at "rc"))
  | ((with_reducible show EvD _ _ (tTup _) _ _ _ _); exact ev_tup (by walk_at "ea") (by walk_at "sc"))
  | ((with_reducible show EvD _ _ (tLst _) _ _ _ _); exact ev_lst (by walk_at "ea") (by walk_at "sc"))
  | ((with_reducible show EvD _ _ (tSl _ _ _ _) _ _ _ _); first | exact xSlL (by walk_at "ev") (by walk_at "eo") (by walk_at "eo") | exact xSlT (by walk_at "ev") (by walk_at "eo") (by walk_at "eo"))
  | ((with_reducible show EvD _ _ (tNotT _ _) _ _ _ _); exact ev_notT (by walk_at "ev") (by walk_at "sc"))
  | ((with_reducible show EvD _ _ (tAndT _ _ _) _ _ _ _); exact ev_andB (by walk_at "ev") (fun hh => by walk_at "ev"))
  | ((with_reducible show EvD _ _ (tOrT _ _ _) _ _ _ _); exact ev_orB (by walk_at "ev") (fun hh => by walk_at "ev")))

local macro_rules | `(tactic| walk_at "ev") => `(tactic| ((with_reducible show EvD _ _ (tCall (sp_is_number _) _ _ _) _ _ _ _); exact ev_is_number (by walk_at "ea")))
local macro_rules | `(tactic| walk_at "ev") => `(tactic| ((with_reducible show EvD _ _ (tCall (sp_is_name _) _ _ _) _ _ _ _); exact ev_is_name (by walk_at "ea") (by walk_at "sc")))
local macro_rules | `(tactic| walk_at "ev") => `(tactic| ((with_reducible show EvD _ _ (tCall (sp_is_octets _) _ _ _) _ _ _ _); exact ev_is_octets (by walk_at "ea") (by walk_at "sc")))
local macro_rules | `(tactic| walk_at "ev") => `(tactic| ((with_reducible show EvD _ _ (tCall (sp_octet_of _) _ _ _) _ _ _ _); exact ev_octet_of (by walk_at "ea") (by walk_at "sc")))
local macro_rules | `(tactic| walk_at "ev") => `(tactic| ((with_reducible show EvD _ _ (tCall (sp_is_deed _) _ _ _) _ _ _ _); exact ev_is_deed (by walk_at "ea") (by walk_at "sc")))
local macro_rules | `(tactic| walk_at "ev") => `(tactic| ((with_reducible show EvD _ _ (tCall (sp_rest_in _) _ _ _) _ _ _ _); exact ev_rest_in (by walk_at "ea") (by walk_at "sc")))
local macro_rules | `(tactic| walk_at "ev") => `(tactic| ((with_reducible show EvD _ _ (tCall (sp_plain_deed _) _ _ _) _ _ _ _); exact ev_plain_deed (by walk_at "ea") (by walk_at "sc")))
local macro_rules | `(tactic| walk_at "ev") => `(tactic| ((with_reducible show EvD _ _ (tCall (sp_deed_of _) _ _ _) _ _ _ _); exact ev_deed_of (by walk_at "ea") (by walk_at "sc")))
local macro_rules | `(tactic| walk_at "ev") => `(tactic| ((with_reducible show EvD _ _ (tCall (sp_lines_read _) _ _ _) _ _ _ _); exact ev_lines_read (by walk_at "ea") (by walk_at "sc")))
local macro_rules | `(tactic| walk_at "ev") => `(tactic| ((with_reducible show EvD _ _ (tCall (sp_deeds_fault _) _ _ _) _ _ _ _); exact ev_deeds_fault (by walk_at "ea") (by walk_at "sc")))
local macro_rules | `(tactic| walk_at "ev") => `(tactic| ((with_reducible show EvD _ _ (tCall (sp_law_kkeys _) _ _ _) _ _ _ _); exact ev_law_kkeys (by walk_at "ea")))
local macro_rules | `(tactic| walk_at "ev") => `(tactic| ((with_reducible show EvD _ _ (tCall (sp_law_vname _) _ _ _) _ _ _ _); exact ev_law_vname (by walk_at "ea") (by walk_at "sc")))
local macro_rules | `(tactic| walk_at "ev") => `(tactic| ((with_reducible show EvD _ _ (tCall (sp_law_voctet _) _ _ _) _ _ _ _); exact ev_law_voctet (by walk_at "ea") (by walk_at "sc")))
local macro_rules | `(tactic| walk_at "ev") => `(tactic| ((with_reducible show EvD _ _ (tCall (sp_law_vline _) _ _ _) _ _ _ _); exact ev_law_vline (by walk_at "ea") (by walk_at "sc")))
local macro_rules | `(tactic| walk_at "ev") => `(tactic| ((with_reducible show EvD _ _ (tCall (sp_law_vfirst_bad _) _ _ _) _ _ _ _); exact ev_law_vfirst_bad (by walk_at "ea") (by walk_at "sc")))
local macro_rules | `(tactic| walk_at "ev") => `(tactic| ((with_reducible show EvD _ _ (tCall (sp_law_vtold _) _ _ _) _ _ _ _); exact ev_law_vtold (by walk_at "ea") (by walk_at "sc")))
def gV_read_deeds_text : List V → List V → List V := fun us zs => us ++ zs
def t_law_look (K : PySem.W.Frag) (P : Addr) : TS :=
  (tSeq (tAsg (tTup (tCons (tCall (sp_law_below K) [] E0 (tCons (tVar 1) (tCons (tOp (rAddU K) (tCB (rLen K) (tCons (tVar 4) tNil)) (tC (.int 1))) tNil))) (tCons (tVar 4) tNil))) (gTup K 2 (gCons (gName 13) (gCons (gName 10) gNil))))
      (tSeq (tAsg (tCall (sp_law_pick K) [] E0 (tCons (tVar 1) (tCons (tLst (tCons (tC (.str " ")) (tCons (tC (.str "\n")) (tCons (tC (.str "0")) (tCons (tC (.str "256")) (tCons (tC (.str "255")) (tCons (tC (.str "00")) (tCons (tC (.str "-")) (tCons (tC (.str "f")) (tCons (tC (.str "put")) (tCons (tC (.str "drop f")) (tCons (tC (.str "chain z f\n")) (tCons (tC (.str "put a 7\n")) (tCons (tC (.str "")) (tCons (tC (.str "\t")) (tCons (tC (.str "start")) (tCons (tC (.str "9")) tNil))))))))))))))))) tNil))) (gName 9))
      (tSeq (tAsg (tOp rAddS (tOp rAddS (tSl rSlS (tVar 10) tNoPart (tPart (tVar 13))) (tVar 9)) (tSl rSlS (tVar 10) (tPart (tOp (rAddU K) (tVar 13) (tCall (sp_law_below K) [] E0 (tCons (tVar 1) (tCons (tC (.int 3)) tNil))))) tNoPart)) (gName 10))
      (tSeq (tAsg (tCall (sp_law_vfirst_bad K) [] E0 (tCons (tVar 10) tNil)) (gName 11))
      (tSeq (tIfS (tNot (tTru K (tCall (sp_law_same K) [] E0 (tCons (tCall (sp_deeds_fault K) [] E0 (tCons (tVar 10) tNil)) (tCons (tVar 11) tNil)))))
       (tRet (tC (.bl false)))
       tNext)
      (tIfS (tTest (tOp rIsN (tVar 11) (tC (.non))))
       (tSeq (tAsg (tLc (iSeq K (tSl (rSlU K) (tM1 rSplit (tVar 10) (tC (.str "\n"))) tNoPart (tPart (tUn rNegI (tC (.int 1)))))) (gName 17) tYes (tCall (sp_law_vline K) [] E0 (tCons (tVar 17) tNil)) [17]) (gName 16))
        (tIfS (tNot (tTru K (tCall (sp_law_same K) [] E0 (tCons (tLst (tCons (tCallK0 (sp_read_deeds K) gV_read_deeds_text E0 (tCons (tVar 10) tNil)) (tCons (tCall (sp_deeds_text K) [] E0 (tCons (tVar 16) tNil)) tNil))) (tCons (tLst (tCons (tVar 16) (tCons (tVar 10) tNil))) tNil)))))
         (tRet (tC (.bl false)))
         tNext))
       (tIfS (tNot (tTru K (tCall (sp_law_same K) [] E0 (tCons (LamX.tLam [(P, (("law" : Str) ++ ".<locals>.") ++ "<lambda>")] (TMet K vErrs) (fun E => (tCall (sp_read_deeds K) [] E (tCons (tVar 10) tNil)))) (tCons (tTup (tCons (tC (.str "line")) (tCons (tVar 11) tNil))) tNil)))))
         (tRet (tC (.bl false)))
         tNext)))))))
def t_law_great (K : PySem.W.Frag) (P : Addr) : TS :=
  (tSeq (tAsg (tLst (tCons (tTup (tCons (tC (.str "put")) (tCons (tC (.str "f")) (tCons (tOp (rMulU K) (tLst (tCons (tC (.int 7)) tNil)) (tC (.int 20000))) tNil)))) (tCons (tTup (tCons (tC (.str "put")) (tCons (tC (.str "f")) (tCons (tOp (rMulU K) (tLst (tCons (tC (.int 7)) tNil)) (tC (.int 20001))) tNil)))) tNil))) (gName 8))
    (tSeq (tIfS (tAnd (tTest (tOp (rEqD K) (tVar 2) (tC (.int 0)))) (tNot (tTru K (tCall (sp_law_same K) [] E0 (tCons (tLst (tCons (tCB (rLen K) (tCons (tCall (sp_deeds_text K) [] E0 (tCons (tSl (rSlU K) (tVar 8) tNoPart (tPart (tC (.int 1)))) tNil)) tNil)) (tCons (LamX.tLam [(P, (("law" : Str) ++ ".<locals>.") ++ "<lambda>")] (TMet K vErrs) (fun E => (tCall (sp_deeds_text K) [] E (tCons (tVar 8) tNil)))) tNil))) (tCons (tLst (tCons (tC (.int 40006)) (tCons (tTup (tCons (tC (.str "deed")) (tCons (tC (.int 1)) tNil))) tNil))) tNil))))))
     (tRet (tC (.bl false)))
     tNext)
    (tIfS (tNot (tTru K (tCall (sp_law_same K) [] E0 (tCons (tLst (tCons (tCall (sp_deeds_fault K) [] E0 (tCons (tC (.non)) tNil)) (tCons (tCall (sp_deeds_fault K) [] E0 (tCons (tC (.int 5)) tNil)) (tCons (tCall (sp_deeds_fault K) [] E0 (tCons (tLst (tCons (tVar 4) tNil)) tNil)) (tCons (tCall (sp_deeds_fault K) [] E0 (tCons (tC (.str "")) tNil)) tNil))))) (tCons (tLst (tCons (tC (.int 0)) (tCons (tC (.int 0)) (tCons (tC (.int 0)) (tCons (tC (.non)) tNil))))) tNil)))))
     (tRet (tC (.bl false)))
     tNext)))
def t_law_odds (K : PySem.W.Frag) (P : Addr) : TS :=
  (tSeq (tAsg (tLst (tCons (tC (.non)) (tCons (tC (.int 5)) (tCons (tC (.str "put")) (tCons (tTup (tCons (tC (.str "put")) (tCons (tC (.str "f")) tNil))) (tCons (tTup (tCons (tC (.str "drop")) tNil)) (tCons (tTup (tCons (tC (.str "drop")) (tCons (tC (.str "f")) (tCons (tC (.str "g")) tNil)))) (tCons (tTup (tCons (tC (.str "put")) (tCons (tC (.str "f")) (tCons (tLst tNil) tNil)))) (tCons (tTup (tCons (tC (.str "put")) (tCons (tC (.str "f")) (tCons (tLst (tCons (tC (.int 256)) tNil)) tNil)))) (tCons (tTup (tCons (tC (.str "chain")) (tCons (tC (.str "f")) (tCons (tLst tNil) tNil)))) (tCons (tTup (tCons (tC (.str "give")) (tCons (tC (.str "f")) tNil))) tNil))))))))))) (gName 6))
    (tSeq (tDrop (tBM K "list" rExtend (tVar 6) (tCons (tLst (tCons (tTup (tCons (tC (.str "chain")) (tCons (tC (.str "f")) (tCons (tOp (rMulU K) (tLst (tCons (tC (.str "a")) tNil)) (tC (.int 5))) tNil)))) (tCons (tTup (tCons (tC (.str "chain")) (tCons (tC (.str "f")) (tCons (tC (.str "gg")) tNil)))) (tCons (tTup (tCons (tC (.str "put")) (tCons (tC (.str "read")) (tCons (tLst (tCons (tC (.int 1)) tNil)) tNil)))) (tCons (tTup (tCons (tC (.str "chain")) (tCons (tC (.str "f")) (tCons (tLst (tCons (tC (.str "a")) (tCons (tC (.str "start")) tNil))) tNil)))) (tCons (tTup (tCons (tC (.str "exchange")) (tCons (tC (.str "f")) (tCons (tLst (tCons (tUn rNegI (tC (.int 1))) tNil)) tNil)))) tNil)))))) tNil)))
    (tSeq (tAsg (tTup (tCons (tCall (sp_law_pick K) [] E0 (tCons (tVar 1) (tCons (tVar 6) tNil))) (tCons (tCall (sp_law_below K) [] E0 (tCons (tVar 1) (tCons (tOp (rAddU K) (tCB (rLen K) (tCons (tVar 3) tNil)) (tC (.int 1))) tNil))) (tCons (tCall (sp_law_pick K) [] E0 (tCons (tVar 1) (tCons (tLst (tCons (tC (.non)) (tCons (tC (.int 5)) (tCons (tC (.str "")) (tCons tDNewK tNil))))) tNil))) tNil)))) (gTup K 3 (gCons (gName 12) (gCons (gName 13) (gCons (gName 14) gNil)))))
    (tSeq (tAsg (tLst (tCons (LamX.tLam [(P, (("law" : Str) ++ ".<locals>.") ++ "<lambda>")] (TMet K vErrs) (fun E => (tCall (sp_deeds_text K) [] E (tCons (tOp (rAddU K) (tOp (rAddU K) (tSl (rSlU K) (tVar 3) tNoPart (tPart (tVar 13))) (tLst (tCons (tVar 12) tNil))) (tSl (rSlU K) (tVar 3) (tPart (tVar 13)) tNoPart)) tNil)))) (tCons (LamX.tLam [(P, (("law" : Str) ++ ".<locals>.") ++ "<lambda>")] (TMet K vErrs) (fun E => (tCall (sp_deeds_text K) [] E (tCons (tVar 14) tNil)))) tNil))) (gName 7))
    (tSeq (tIfS (tNot (tTru K (tCall (sp_law_same K) [] E0 (tCons (tVar 7) (tCons (tLst (tCons (tTup (tCons (tC (.str "deed")) (tCons (tVar 13) tNil))) (tCons (tTup (tCons (tC (.str "deed")) (tCons (tC (.int 0)) tNil))) tNil))) tNil)))))
     (tRet (tC (.bl false)))
     tNext)
    (t_law_great K P))))))
def t_law_turn (K : PySem.W.Frag) (P : Addr) : TS :=
  (tSeq (tAsg (tLc (iRng1 (tCons (tCall (sp_law_below K) [] E0 (tCons (tVar 1) (tCons (tC (.int 5)) tNil))) tNil)) (gName 15) tYes (tCall (sp_law_vdeed K) [] E0 (tCons (tVar 1) tNil)) [15]) (gName 3))
    (tSeq (tAsg (tCall (sp_law_vtold K) [] E0 (tCons (tVar 3) tNil)) (gName 4))
    (tSeq (tIfS (tNot (tTru K (tCall (sp_law_same K) [] E0 (tCons (tLst (tCons (tCall (sp_deeds_text K) [] E0 (tCons (tCall (sp_law_loose K) [] E0 (tCons (tVar 1) (tCons (tVar 3) tNil))) tNil)) (tCons (tCall (sp_read_deeds K) [] E0 (tCons (tVar 4) tNil)) (tCons (tCall (sp_deeds_fault K) [] E0 (tCons (tVar 4) tNil)) tNil)))) (tCons (tLst (tCons (tVar 4) (tCons (tVar 3) (tCons (tC (.non)) tNil)))) tNil)))))
     (tRet (tC (.bl false)))
     tNext)
    (tSeq (tIfS (tNot (tTru K (tCall (sp_law_apart K) [] E0 (tCons (tLst (tCons (tCall (sp_read_deeds K) [] E0 (tCons (tVar 4) tNil)) (tCons (tCall (sp_read_deeds K) [] E0 (tCons (tVar 4) tNil)) tNil))) tNil))))
     (tRet (tC (.bl false)))
     tNext)
    (tSeq (tFor (iRng1 (tCons (tC (.int 6)) tNil)) (gName 5)
     (t_law_look K P))
    (t_law_odds K P))))))
abbrev N_law : List Str := ["script", "stream", "turn", "deeds", "text", "look", "odds", "found", "great", "more", "bent", "due", "odd", "at", "none", "deed", "plain", "line"]
def t_law (K : PySem.W.Frag) (P : Addr) : TS :=
  (tSeq (tAsg (tCall (sp_law_start K) [] E0 (tCons (tVar 0) tNil)) (gName 1))
  (tSeq (tFor (iRng1 (tCons (tC (.int 6)) tNil)) (gName 2)
   (t_law_turn K P))
  (tRet (tC (.bl true)))))
abbrev lamQ : Str := (("law" : Str) ++ ".<locals>.") ++ "<lambda>"
/-- how it stands with the law: frozen data, the spring, the table of the lambdas' code -/
structure LS (P p q : Addr) (n : Nat) (F H : Hp) : Prop where
  e : Same F H
  st : Stm F H p q n
  tb : LamX.Tabs [(P, lamQ)] H
def Kx (K : PySem.W.Frag) (F F' : Hp) : Prop := ∀ v d, Rp K F v d → Rp K F' v d
section
variable {K : PySem.W.Frag} {w : World} {F H F' H' F1 H1 F2 H2 : Hp} {M : List Addr} {σ : L2.St} {te ta tb tc : TE} {tt tu : TT} {d x y z : PyData} {D : Ends} {tw tz : TS} {P p q : Addr} {c c' n m : Nat} {Px Py Pz : PyData → Prop}
theorem LS.pure (L : LS P p q n F H) (s : Sx [] F H F' H') : LS P p q n F' H' := ⟨s.fh, L.st.pure s, tabs_keep (fun b o _ h => s.hh b o (by simp) h) L.tb⟩
theorem LS.draw (L : LS P p q n F H) (s : Sx [p, q] F H F' H') (st : Stm F' H' p q m) : LS P p q m F' H' := ⟨s.fh, st, tabs_keep (fun b o no h => s.hh b o (fun hb => by
  obtain ⟨cs, x1, x2, x3, e1, e2, _⟩ := L.st
  rcases List.mem_cons.mp hb with rfl | hb
  · rw [e1] at h; exact no _ (Option.some.inj h).symm
  · rw [List.mem_singleton.mp hb, e2] at h; exact no _ (Option.some.inj h).symm) h) L.tb⟩
theorem LS.le (L : LS P p q n F H) (h : n ≤ m) : LS P p q m F H := ⟨L.e, L.st.le h, L.tb⟩
theorem LS.lam (L : LS P p q n F H) (x : LamX.ExtN H H1) (t : LamX.Tabs [(P, lamQ)] H1) : LS P p q n (noT F) H1 := ⟨noT_same L.e x, by
  obtain ⟨cs, x1, x2, x3, e1, e2, f1, f2, r⟩ := L.st
  exact ⟨cs, x1, x2, x3, x _ _ e1 (fun _ z => by cases z), x _ _ e2 (fun _ z => by cases z), noT_none f1, noT_none f2, r⟩, t⟩
theorem kx_of (s : Same F F') : Kx K F F' := fun _ _ r => r.mono s
theorem kx_no (s : Same (noT F) F') : Kx K F F' := fun _ _ r => (rp_noT r).mono s
theorem Kx.trans (h : Kx K F F1) (h' : Kx K F1 F2) : Kx K F F2 := fun v d r => h' v d (h v d r)
/-! ### the law's met -/
theorem met_read {Q : VK} {s : Str} {i : Int} (L : LS P p q n F H) (h : ∀ H1, EvD K [] te σ (noT F) H1 (.str s)) (hp : TxtOk (.str s)) (hn : faultD (.str s) = .int i)
    (k : ∀ F2 H2 v, LS P p q n F2 H2 → Same (noT F) F2 → Rp K F2 v (.tuple [.str "line", .int i]) → Q v H2) :
    LamX.tLam [(P, lamQ)] (TMet K vErrs) (fun E => tCall (sp_read_deeds K) [] E (tCons te tNil)) σ H Q := by
  refine ⟨L.tb, fun H1 x t1 => ?_⟩
  have L1 := L.lam x t1
  refine h H1 (noT F) H1 (Sx.refl L1.e) _ fun F2 H2 v s2 rv => ?_
  refine ⟨v, _, F2, by rw [List.append_nil], s2.fh, rv, hp, .inr ⟨i, hn, fun F3 H3 C a s3 hC ha => ?_⟩⟩
  refine ⟨"BadLine", "line", "line", C, a, i, by simp [vErrs], hC, rfl, rfl, ha, fun p' hp' => ?_⟩
  have s4 := (s2.trans s3).trans (Sx.new (M := []) s3.fh (.tup [.str "line", .int i]) hp')
  exact k _ _ _ (L1.pure s4) s4.ff (.tup (.inl (.inl upd_same)) (.cons (.str _) (.one (.int _))))
theorem met_row {Q : VK} {es : List PyData} {ds : List Deed} (L : LS P p q n F H) (h : ∀ H1, EvD K [] te σ (noT F) H1 d) (hr : ∀ F v, Rp K F v d → RowK K F v d es ds) (hx : es[ds.length]? = some x) (hn : plD x = .none)
    (k : ∀ F2 H2 v, LS P p q n F2 H2 → Same (noT F) F2 → Rp K F2 v (.tuple [.str "deed", .int (ds.length : Nat)]) → Q v H2) :
    LamX.tLam [(P, lamQ)] (TMet K vErrs) (fun E => tCall (sp_deeds_text K) [] E (tCons te tNil)) σ H Q := by
  refine ⟨L.tb, fun H1 x' t1 => ?_⟩
  have L1 := L.lam x' t1
  refine h H1 (noT F) H1 (Sx.refl L1.e) _ fun F2 H2 v s2 rv => ?_
  refine ⟨v, F2, by rw [List.append_nil], s2.fh, .inr (.inl ⟨d, es, ds, x, hr F2 v rv, hx, hn, fun F3 H3 C a s3 hC ha => ?_⟩)⟩
  refine ⟨"BadDeed", "index", "deed", C, a, (ds.length : Nat), by simp [vErrs], hC, rfl, rfl, ha, fun p' hp' => ?_⟩
  have s4 := (s2.trans s3).trans (Sx.new (M := []) s3.fh (.tup [.str "deed", .int (ds.length : Nat)]) hp')
  exact k _ _ _ (L1.pure s4) s4.ff (.tup (.inl (.inl upd_same)) (.cons (.str _) (.one (.int _))))
/-- a value that is no row, whatever else comes -/
def NoRow (K : PySem.W.Frag) (F : Hp) (v : V) : Prop := ∃ t : String, (∀ H', Same (noT F) H' → TyX K H' v (.type t)) ∧ ["list", "tuple"].all (kitOk t) = true ∧ ["list", "tuple"].any (kitA t) = false
theorem noT_mono (e : Same F F') : Same (noT F) (noT F') := fun b o h => by
  obtain ⟨h1, h2⟩ := noT_some h
  exact noT_of (e b o h1) h2
theorem noT_noT : noT (noT F) = noT F := by
  funext b
  cases h : noT F b with
  | none => exact noT_none h
  | some o => exact noT_of h (noT_some h).2
theorem NoRow.mono {v : V} (h : NoRow K F v) (e : Same (noT F) (noT F')) : NoRow K F' v := by
  obtain ⟨t, h1, h2⟩ := h
  exact ⟨t, fun H' e' => h1 H' (e.trans e'), h2⟩
theorem met_no {Q : VK} {i : Nat} {v : V} (L : LS P p q n F H) (hv : σ[i]? = some (some v)) (h : NoRow K F v) (k : ∀ F2 H2 v, LS P p q n F2 H2 → Same (noT F) F2 → Rp K F2 v (.tuple [.str "deed", .int 0]) → Q v H2) :
    LamX.tLam [(P, lamQ)] (TMet K vErrs) (fun E => tCall (sp_deeds_text K) [] E (tCons (tVar i) tNil)) σ H Q := by
  refine ⟨L.tb, fun H1 x' t1 => ?_⟩
  have L1 := L.lam x' t1
  obtain ⟨t, ht, h1, h2⟩ := h
  refine ⟨v, hv, v, noT F, by rw [List.append_nil], L1.e, .inr (.inr ⟨t, fun H' e' => ht H' (L1.e.trans e'), h1, h2, fun F3 H3 C a s3 hC ha => ?_⟩)⟩
  refine ⟨"BadDeed", "index", "deed", C, a, 0, by simp [vErrs], hC, rfl, rfl, ha, fun p' hp' => ?_⟩
  have s4 := s3.trans (Sx.new (M := []) s3.fh (.tup [.str "deed", .int 0]) hp')
  exact k _ _ _ (L1.pure s4) s4.ff (.tup (.inl (.inl upd_same)) (.cons (.str _) (.one (.int _))))
/-! ### calls of the program -/
theorem ev_read {E : XK} {s : Str} (h : EvD K M ta σ F H (.str s)) (hp : TxtOk (.str s)) (hn : (readT s).2 = none) : EvD K M (tCall (sp_read_deeds K) [] E (tCons ta tNil)) σ F H (.list ((readT s).1.map lawD)) := (ow_read h hp hn).ev
theorem ev_readK {E : XK} {s : Str} (h : EvD K M ta σ F H (.str s)) (hp : TxtOk (.str s)) (hn : (readT s).2 = none) : EvD K M (tCallK0 (sp_read_deeds K) gV_read_deeds_text E (tCons ta tNil)) σ F H (.list ((readT s).1.map lawD)) := fun F1 H1 s1 Q q => ev_read (E := E) h hp hn F1 H1 s1 Q q
theorem ev_dt {E : XK} {es : List PyData} {ds : List Deed} (h : EvD K M ta σ F H d) (hr : ∀ F v, Rp K F v d → RowK K F v d es ds) (hl : ds.length = es.length) (hs : sumL ds ≤ 900000) : EvD K M (tCall (sp_deeds_text K) [] E (tCons ta tNil)) σ F H (.str (deedsText ds)) := fun F1 H1 s1 Q q =>
  h F1 H1 s1 _ fun F2 H2 v s2 rv => ⟨v, F2, by rw [List.append_nil], s2.fh, .inl ⟨d, es, ds, hr F2 v rv, hl, hs, fun F' H' u s3 ru => q F' H' u (s2.trans s3) ru⟩⟩
theorem row_laws {ds : List Deed} (h : ∀ y ∈ ds, FitDeed y) (hl : ds.length ≤ 100000) : ∀ F v, Rp K F v (.list (ds.map lawD)) → RowK K F v (.list (ds.map lawD)) (ds.map lawD) ds := fun F v rv =>
  ⟨rv, rfl, pt_laws (n := 1) (fun y hy => (h y hy).1) (by omega), by rw [List.length_map]; exact Nat.le_refl _, hl, h, fun j x y hx hy => by
    rw [List.getElem?_map, hy] at hx
    cases hx
    have hg := (h y (List.mem_of_getElem? hy)).1
    exact pl_loose hg (loose_refl (pt_law (n := 0) hg))⟩
theorem es_same {E : XK} (ha : EvS K p q ta σ F H c (fun x => x = d)) (hb : EvS K p q tb σ F H c' (fun x => x = d)) (h : Pl 8 d) : EvS K p q (tCall (sp_law_same K) [] E (tCons ta (tCons tb tNil))) σ F H (c + c') (fun x => x = .bool true) := fun F1 H1 n s st hn Q k =>
  ha F1 H1 n s st (by omega) _ fun F2 H2 v x s2 st2 hx rv => by
    subst hx
    refine hb F2 H2 (n + c) (s.trans s2) st2 (by omega) _ fun F3 H3 w y s3 st3 hy rw => ?_
    subst hy
    exact ⟨F3, v, w, _, rfl, s3.fh, rv.mono s3.ff, rw, h, fun F' H' s4 => k F' H' _ _ ((s2.trans s3).trans s4.up) ((st3.le (by omega)).pure s4) rfl (.bl _)⟩
theorem es_slS {s : Str} (h : EvD K [p, q] te σ F H (.str s)) (hl : EvS K p q ta σ F H c (fun d => ∃ i : Int, d = .int i)) (hs : s.length ≤ 1000000) : EvS K p q (tSl rSlS te (tPart ta) tNoPart) σ F H c (fun d => ∃ lo, d = .str (cutS s (some lo) none)) := fun F1 H1 n s1 st hn Q k =>
  h F1 H1 s1 _ fun F2 H2 v s2 rv => by
    cases rv.str_of
    refine hl F2 H2 n (s1.trans s2.up) (st.pure s2) hn _ fun F3 H3 u d s3 st3 ⟨i, hd⟩ ru => ?_
    subst hd
    cases ru.int_of
    exact ⟨i, rfl, s, rfl, small_line hs, k F3 H3 _ _ (s2.up.trans s3) st3 ⟨i, rfl⟩ (.str _)⟩
def mores : List Str := [" ", "\n",
  "0", "256", "255", "00", "-", "f",
  "put", "drop f", "chain z f\n",
  "put a 7\n", "", "\t", "start", "9"]
theorem mores_ok : ∀ s ∈ mores, TOk s ∧ s.length ≤ 100 := by
  have : mores.all (fun s => PyData.strOk s && decide (s.length ≤ 100)) = true := by decide +kernel
  intro s hs
  have h := List.all_eq_true.mp this s hs
  simp only [Bool.and_eq_true, decide_eq_true_eq] at h
  exact ⟨⟨h.1, by omega⟩, h.2⟩
def ShL (va v2 v3 v4 : V) (p : Addr) (σ : L2.St) : Prop := ∃ w5 w6 w7 w8 w9 w10 w11 w12 w13 w14 w15 w16 w17 : Option V, σ = [some va, some (.ref p), some v2, some v3, some v4, w5, w6, w7, w8, w9, w10, w11, w12, w13, w14, w15, w16, w17]
theorem Pl.tok {n : Nat} {s : Str} (h : TOk s) : Pl n (.str s) := .str h.1
theorem pl_fault {n : Nat} {d : PyData} : Pl n (faultD d) := by
  cases d with
  | str s =>
    show Pl n (numO (readT s).2)
    cases (readT s).2
    · exact .non
    · exact .int
  | _ => exact .int
theorem rd_look {va v2 v3 : V} {w5 w6 w7 w8 w9 w10 w11 w12 w13 w14 w15 w16 w17 : Option V} {txt : Str} {dd : PyData} (L : LS P p q n F H) (hn : n + 3 ≤ 1000000000) (ht : TOk txt) (hl : txt.length ≤ 5000) (r3 : Rp K F v3 dd)
    (hD : ∀ F' H' σ', LS P p q (n + 3) F' H' → Rp K F' v3 dd → ShL va v2 v3 (.str txt) p σ' → D.nx σ' H') :
    t_law_look K P D [some va, some (.ref p), some v2, some v3, some (.str txt), w5, w6, w7, w8, w9, w10, w11, w12, w13, w14, w15, w16, w17] H := by
  refine qs_asg (K := K) (n := n) (c := 0 + 1 + 0) (Px := fun d => ∃ a : Nat, d = .tuple [.int (a : Int), .str txt]) (P := fun _ σ F σ' => ∃ a : Nat, Nm2 K 13 10 (.int (a : Int)) (.str txt) σ F σ') (fun d ⟨a, hd⟩ => by subst hd; exact fun F H v σ s rv Q q => tg_nm2 F H v σ s rv Q fun σ' hσ => q σ' ⟨a, hσ⟩) L.e L.st
    (EvS.weak (es_tup (Pr := fun ds => ∃ a : Nat, ds = [.int (a : Int), .str txt]) (esa_cons (es_below (m := txt.length + 1) rfl (EvD.is (ev_op (ev_cb (ea_cons (ev_var rfl (.str txt)) ea_nil) (xLenS ht.2)) ev_int xAddI) rfl) (by omega) (by omega)) (esa_d (ea_cons (ev_var rfl (.str txt)) ea_nil)) (fun x ds ⟨r, _, hx⟩ hd => ⟨r, by rw [hx, hd]⟩)) (fun ds ⟨a, hd⟩ => by rw [hd]; simp)) (by omega) fun d ⟨ds, ⟨a, hd⟩, e⟩ => ⟨a, by rw [e, hd]⟩) (by omega) fun F1 H1 σ1 d1 s1 st1 _ hσ => ?_
  obtain ⟨a, u13, u10, r13, r10, rfl⟩ := hσ
  cases r13.int_of
  cases r10.str_of
  have L1 := L.draw s1 st1
  have q3 := r3.mono s1.ff
  refine qs_set (K := K) L1.e L1.st (es_pick (ds := mores.map .str) rfl (ev_lst (ea_cons ev_str (ea_cons ev_str (ea_cons ev_str (ea_cons ev_str (ea_cons ev_str (ea_cons ev_str (ea_cons ev_str (ea_cons ev_str (ea_cons ev_str (ea_cons ev_str (ea_cons ev_str (ea_cons ev_str (ea_cons ev_str (ea_cons ev_str (ea_cons ev_str (ea_cons ev_str ea_nil)))))))))))))))) (by decide)) (by decide) (by decide)) (by omega) fun F2 H2 v9 d2 s2 st2 hd2 r9 => ?_
  obtain ⟨more, hmore, rfl⟩ := List.mem_map.mp hd2
  cases r9.str_of
  obtain ⟨mok, mlen⟩ := mores_ok more hmore
  have L2 := L1.draw s2 st2
  have p3 := q3.mono s2.ff
  have hleft := tok_append (tok_cut (lo := none) (hi := some (a : Int)) ht) mok (by have := cutS_length txt none (some (a : Int)); omega)
  refine qs_set (K := K) (c := 0 + (0 + 1)) (Px := fun d => ∃ s, d = .str s ∧ TOk s ∧ s.length ≤ 15000) L2.e L2.st (es_op (es_d (ev_op (xSlS (ev_var rfl (.str txt)) eo_none (eo_some (ev_var rfl (.int (a : Int)))) ht.2) (ev_var rfl (.str more)) (xAddS (by have := cutS_length txt none (some (a : Int)); omega)))) (es_slS (s := txt) (ev_var rfl (.str txt)) (es_op (es_d (ev_var rfl (.int (a : Int)))) (es_below (m := 3) rfl ev_int (by decide) (by decide)) ?_) ht.2) ?_) (by omega) fun F3 H3 v10 d3 s3 st3 ⟨s, hd3, hs, hsl⟩ r10 => ?_
  · rintro _ _ rfl ⟨r, _, rfl⟩
    exact ⟨_, xAddI, _, rfl⟩
  · rintro _ _ rfl ⟨lo, rfl⟩
    have hc1 := cutS_length txt none (some (a : Int))
    have hc2 := cutS_length txt (some lo) none
    have hr := tok_append hleft.1 (tok_cut (lo := some lo) (hi := none) ht) (by rw [hleft.2]; omega)
    exact ⟨_, xAddS (by rw [hleft.2]; omega), _, rfl, hr.1, by rw [hr.2, hleft.2]; omega⟩
  subst hd3
  cases r10.str_of
  have L3 := L2.draw s3 st3
  have o3 := p3.mono s3.ff
  have hok : TxtOk (.str s) := ⟨hs, hsl⟩
  refine q_set (K := K) (M := []) (d := faultD (.str s)) L3.e (ev_law_vfirst_bad (ea_cons (ev_var rfl (.str s)) ea_nil) hok) fun F4 H4 v11 s4 r11 => ?_
  have L4 := L3.pure s4
  have n3 := o3.mono s4.ff
  refine q_when (K := K) (M := []) (b := !true) L4.e (et_not (xTru (ev_same (ev_deeds_fault (ea_cons (ev_var rfl (.str s)) ea_nil) hok) (ev_var rfl r11) pl_fault) rfl)) (fun z => by cases z) fun _ F5 H5 s5 => ?_
  have L5 := L4.pure s5
  have m3 := n3.mono s5.ff
  have m11 := r11.mono s5.ff
  refine st_if (K := K) (M := []) (b := isNon (faultD (.str s))) L5.e (et_test (ev_op (ev_var rfl m11) ev_non xIsN)) (fun hb F6 H6 s6 => ?_) (fun hb F6 H6 s6 => ?_)
  · have L6 := L5.pure s6
    have l3 := m3.mono s6.ff
    have hnone : (readT s).2 = none := by
      have : isNon (numO (readT s).2) = true := hb
      cases h : (readT s).2 with
      | none => rfl
      | some k => rw [h] at this; cases this
    have hread : readT s = ((readT s).1, none) := by rw [← hnone]
    generalize hds : (readT s).1 = ds at hread
    obtain ⟨b1, b2, b3, b4⟩ := read_back hsl hread
    have hwd : ∀ l ∈ (lines s).dropLast, TOk l ∧ l.length ≤ 900000 := fun l hl => by
      have hm := (List.dropLast_sublist _).subset hl
      exact ⟨line_ok hs hm, Nat.le_trans (line_in hm).2 (by omega)⟩
    have hll := lines_len s
    refine q_set (K := K) (M := []) (d := .list (ds.map lawD)) L6.e (EvD.is (EvN.ev (xLcL (en_lcL (lines s).dropLast .str (fun l => optP lawD (deedOf (words l))) (fun _ => true) (fun l => Nm K 17 (.str l)) (xInitL (EvN.ev (xSplit (ev_var rfl (.str s)) ev_str hs.2 (by decide +kernel))) (eo_some (ev_un ev_int xNeg))) (by rw [List.length_dropLast]; omega) (fun _ _ => tg_nm) ?_ (fun _ _ _ _ _ _ _ => et_yes) ?_))) ?_) fun F7 H7 v16 s7 r16 => ?_
    · rintro l _ F1 _ ⟨x, _, rfl⟩; rfl
    · rintro l hl _ F1 H1 _ s1 ⟨x, rx, rfl⟩
      exact ev_law_vline (ea_cons (ev_var rfl rx) ea_nil) (hwd l hl)
    · rw [filter_yes]
      have := congrArg (List.map (optP lawD)) b4
      rw [List.map_map, List.map_map] at this
      exact congrArg PyData.list this
    have L7 := L6.pure s7
    have k3 := l3.mono s7.ff
    have hsum : sumL ds ≤ 900000 := by rw [← len_text, b1]; omega
    have hrd : EvD K [] (tCallK0 (sp_read_deeds K) gV_read_deeds_text E0 (tCons (tVar 10) tNil)) [some va, some (.ref p), some v2, some v3, some (.str txt), w5, w6, w7, w8, some (.str more), some (.str s), some v11, w12, some (.int (a : Int)), w14, w15, some v16, w17] F7 H7 (.list (ds.map lawD)) := by
      have := ev_readK (K := K) (M := []) (E := E0) (ta := tVar 10) (σ := [some va, some (.ref p), some v2, some v3, some (.str txt), w5, w6, w7, w8, some (.str more), some (.str s), some v11, w12, some (.int (a : Int)), w14, w15, some v16, w17]) (F := F7) (H := H7) (ev_var rfl (.str s)) hok hnone
      rwa [hds] at this
    have hdt : EvD K [] (tCall (sp_deeds_text K) [] E0 (tCons (tVar 16) tNil)) [some va, some (.ref p), some v2, some v3, some (.str txt), w5, w6, w7, w8, some (.str more), some (.str s), some v11, w12, some (.int (a : Int)), w14, w15, some v16, w17] F7 H7 (.str s) := b1 ▸ ev_dt (ev_var rfl r16) (row_laws b2 (by omega)) (by rw [List.length_map]) hsum
    refine st_if (K := K) (M := []) (b := !true) L7.e (et_not (xTru (ev_same (d := .list [.list (ds.map lawD), .str s]) (ev_lst (ea_cons hrd (ea_cons hdt ea_nil)) (by simp)) (ev_lst (ea_cons (ev_var rfl r16) (ea_cons (ev_var rfl (.str s)) ea_nil)) (by simp)) ?_) rfl)) (fun z => by cases z) fun _ F8 H8 s8 => ?_
    · refine .list (Pl.cons ((pt_laws (n := 4) (fun y hy => (b2 y hy).1) (by omega)).pl) (Pl.one (Pl.tok hs))) (by simp)
    · exact hD F8 H8 _ ((L7.pure s8).le (by omega)) (k3.mono s8.ff) ⟨_, _, _, _, _, _, _, _, _, _, _, _, _, rfl⟩
  · have L6 := L5.pure s6
    have l3 := m3.mono s6.ff
    have l11 := m11.mono s6.ff
    have hint : ∃ i : Int, faultD (.str s) = .int i := by
      have : isNon (numO (readT s).2) = false := hb
      show ∃ i : Int, numO (readT s).2 = .int i
      cases h : (readT s).2 with
      | none => rw [h] at this; cases this
      | some k => exact ⟨_, rfl⟩
    obtain ⟨i, hi⟩ := hint
    rw [hi] at l11
    cases l11.int_of
    refine met_read (K := K) L6 (fun H1 => ev_var rfl (.str s)) hok hi fun F7 H7 v L7 kx rv => ?_
    refine ev_tup (K := K) (M := []) (F := F7) (H := H7) (ds := [.str "line", .int i]) (ea_cons ev_str (ea_cons (ev_var rfl (.int i)) ea_nil)) (by simp) F7 H7 (Sx.refl L7.e) _ fun F8 H8 u s8 ru => ?_
    refine ⟨F8, v, u, .tuple [.str "line", .int i], by simp, s8.fh, rv.mono s8.ff, ru, ?_, fun F9 H9 s9 => ⟨true, rfl, iteF ?_⟩⟩
    · exact .tuple (Pl.cons (.str (by decide +kernel)) (Pl.one .int)) (by simp)
    · exact hD F9 H9 _ (((L7.pure s8).pure s9).le (by omega)) ((((kx_no kx _ _ l3)).mono s8.ff).mono s9.ff) ⟨_, _, _, _, _, _, _, _, _, _, _, _, _, rfl⟩
end
end Sf

/-! deeds told as texts, read from texts: the law's walk -/
namespace Sf
open PySem L2 RZ TL
/-! evaluation, construct by construct -/
local macro_rules | `(tactic| walk_at "rp") => `(tactic| first | assumption | exact .int _ | exact .bl _ | exact .str _ | exact .non | exact Rp.mono (Sx.ff (by assumption)) (by walk_at "rp"))
local macro_rules | `(tactic| walk_at "sc") => `(tactic| first | rfl | assumption | omega | decide | (simp; done) | (simp; omega))
local macro_rules | `(tactic| walk_at "ix") => `(tactic| first | rfl | assumption)
local macro_rules | `(tactic| walk_at "rv") => `(tactic| first
  | exact xAddI | exact xSub | exact xLt | exact xLe | exact xGt | exact xGe | exact xIsN | exact xNotN | exact xEqI | exact xNeI | exact xEqB | exact xNeB | exact xEqLB | exact xEqTB | exact xNeTB
  | exact xMod (by walk_at "sc")
  | exact xDiv (by walk_at "sc")
  | exact xPow (by walk_at "sc")
  | exact xMulI (by walk_at "sc")
  | exact rv_ixt (by walk_at "ix")
  | exact rv_ixl (by walk_at "ix")
  | exact xAddL (by walk_at "sc")
  | exact xAddT (by walk_at "sc"))
local macro_rules | `(tactic| walk_at "rc") => `(tactic| first | exact xLenL | exact xLenT | exact xListL | exact xListT | exact xTupL | exact xTupT | exact xMax2 | exact xInt | exact rc_all | exact rc_any)
local macro_rules | `(tactic| walk_at "ea") => `(tactic| first | exact ea_nil | refine ea_cons (by walk_at "ev") (by walk_at "ea"))
local macro_rules | `(tactic| walk_at "eo") => `(tactic| first | exact eo_none | refine eo_some (by walk_at "ev"))
local macro_rules | `(tactic| walk_at "et") => `(tactic| first
  | ((with_reducible show EvT _ _ (tTest _) _ _ _ _); exact et_test (by walk_at "ev"))
  | ((with_reducible show EvT _ _ (tNot _) _ _ _ _); exact et_not (by walk_at "et"))
  | ((with_reducible show EvT _ _ (tAnd _ _) _ _ _ _); exact et_and (by walk_at "et") (fun hh => by walk_at "et"))
  | ((with_reducible show EvT _ _ (tOr _ _) _ _ _ _); exact et_or (by walk_at "et") (fun hh => by walk_at "et"))
  | ((with_reducible show EvT _ _ (tTru _ _) _ _ _ _); exact xTru (by walk_at "ev") (by walk_at "sc"))
  | ((with_reducible show EvT _ _ tYes _ _ _ _); exact et_yes))
local macro_rules | `(tactic| walk_at "ev") => `(tactic| first
  | ((with_reducible show EvD _ _ (tC _) _ _ _ _); first | exact ev_int | exact ev_bl | exact ev_str | exact ev_non)
  | ((with_reducible show EvD _ _ (tVar _) _ _ _ _); exact ev_var (by rfl) (by walk_at "rp"))
  | ((with_reducible show EvD _ _ (tOp _ _ _) _ _ _ _); exact ev_op (by walk_at "ev") (by walk_at "ev") (by walk_at "rv"))
  | ((with_reducible show EvD _ _ (tUn _ _) _ _ _ _); exact ev_un (by walk_at "ev") xNeg)
  | ((with_reducible show EvD _ _ (tCB _ _) _ _ _ _); exact ev_cb (by walk_at "ea") (by walk_at "rc"))
  | ((with_reducible show EvD _ _ (tTup _) _ _ _ _); exact ev_tup (by walk_at "ea") (by walk_at "sc"))
  | ((with_reducible show EvD _ _ (tLst _) _ _ _ _); exact ev_lst (by walk_at "ea") (by walk_at "sc"))
  | ((with_reducible show EvD _ _ (tSl _ _ _ _) _ _ _ _); first | exact xSlL (by walk_at "ev") (by walk_at "eo") (by walk_at "eo") | exact xSlT (by walk_at "ev") (by walk_at "eo") (by walk_at "eo"))
  | ((with_reducible show EvD _ _ (tNotT _ _) _ _ _ _); exact ev_notT (by walk_at "ev") (by walk_at "sc"))
  | ((with_reducible show EvD _ _ (tAndT _ _ _) _ _ _ _); exact ev_andB (by walk_at "ev") (fun hh => by walk_at "ev"))
  | ((with_reducible show EvD _ _ (tOrT _ _ _) _ _ _ _); exact ev_orB (by walk_at "ev") (fun hh => by walk_at "ev")))

local macro_rules | `(tactic| walk_at "ev") => `(tactic| ((with_reducible show EvD _ _ (tCall (sp_is_number _) _ _ _) _ _ _ _); exact ev_is_number (by walk_at "ea")))
local macro_rules | `(tactic| walk_at "ev") => `(tactic| ((with_reducible show EvD _ _ (tCall (sp_is_name _) _ _ _) _ _ _ _); exact ev_is_name (by walk_at "ea") (by walk_at "sc")))
local macro_rules | `(tactic| walk_at "ev") => `(tactic| ((with_reducible show EvD _ _ (tCall (sp_is_octets _) _ _ _) _ _ _ _); exact ev_is_octets (by walk_at "ea") (by walk_at "sc")))
local macro_rules | `(tactic| walk_at "ev") => `(tactic| ((with_reducible show EvD _ _ (tCall (sp_octet_of _) _ _ _) _ _ _ _); exact ev_octet_of (by walk_at "ea") (by walk_at "sc")))
local macro_rules | `(tactic| walk_at "ev") => `(tactic| ((with_reducible show EvD _ _ (tCall (sp_is_deed _) _ _ _) _ _ _ _); exact ev_is_deed (by walk_at "ea") (by walk_at "sc")))
local macro_rules | `(tactic| walk_at "ev") => `(tactic| ((with_reducible show EvD _ _ (tCall (sp_rest_in _) _ _ _) _ _ _ _); exact ev_rest_in (by walk_at "ea") (by walk_at "sc")))
local macro_rules | `(tactic| walk_at "ev") => `(tactic| ((with_reducible show EvD _ _ (tCall (sp_plain_deed _) _ _ _) _ _ _ _); exact ev_plain_deed (by walk_at "ea") (by walk_at "sc")))
local macro_rules | `(tactic| walk_at "ev") => `(tactic| ((with_reducible show EvD _ _ (tCall (sp_deed_of _) _ _ _) _ _ _ _); exact ev_deed_of (by walk_at "ea") (by walk_at "sc")))
local macro_rules | `(tactic| walk_at "ev") => `(tactic| ((with_reducible show EvD _ _ (tCall (sp_lines_read _) _ _ _) _ _ _ _); exact ev_lines_read (by walk_at "ea") (by walk_at "sc")))
local macro_rules | `(tactic| walk_at "ev") => `(tactic| ((with_reducible show EvD _ _ (tCall (sp_deeds_fault _) _ _ _) _ _ _ _); exact ev_deeds_fault (by walk_at "ea") (by walk_at "sc")))
local macro_rules | `(tactic| walk_at "ev") => `(tactic| ((with_reducible show EvD _ _ (tCall (sp_law_kkeys _) _ _ _) _ _ _ _); exact ev_law_kkeys (by walk_at "ea")))
local macro_rules | `(tactic| walk_at "ev") => `(tactic| ((with_reducible show EvD _ _ (tCall (sp_law_vname _) _ _ _) _ _ _ _); exact ev_law_vname (by walk_at "ea") (by walk_at "sc")))
local macro_rules | `(tactic| walk_at "ev") => `(tactic| ((with_reducible show EvD _ _ (tCall (sp_law_voctet _) _ _ _) _ _ _ _); exact ev_law_voctet (by walk_at "ea") (by walk_at "sc")))
local macro_rules | `(tactic| walk_at "ev") => `(tactic| ((with_reducible show EvD _ _ (tCall (sp_law_vline _) _ _ _) _ _ _ _); exact ev_law_vline (by walk_at "ea") (by walk_at "sc")))
local macro_rules | `(tactic| walk_at "ev") => `(tactic| ((with_reducible show EvD _ _ (tCall (sp_law_vfirst_bad _) _ _ _) _ _ _ _); exact ev_law_vfirst_bad (by walk_at "ea") (by walk_at "sc")))
local macro_rules | `(tactic| walk_at "ev") => `(tactic| ((with_reducible show EvD _ _ (tCall (sp_law_vtold _) _ _ _) _ _ _ _); exact ev_law_vtold (by walk_at "ea") (by walk_at "sc")))
section
variable {K : PySem.W.Frag} {w : World} {F H F' H' F1 H1 F2 H2 : Hp} {M : List Addr} {σ : L2.St} {te ta tb tc : TE} {tt tu : TT} {d x y z : PyData} {D : Ends} {tw tz : TS} {P p q : Addr} {c c' n m : Nat} {Px Py Pz : PyData → Prop}
def Sh0 (va : V) (p : Addr) (σ : L2.St) : Prop := ∃ w2 w3 w4 w5 w6 w7 w8 w9 w10 w11 w12 w13 w14 w15 w16 w17 : Option V, σ = [some va, some (.ref p), w2, w3, w4, w5, w6, w7, w8, w9, w10, w11, w12, w13, w14, w15, w16, w17]
/-! ### the great deeds -/
theorem rep_of {k : Int} {m : Nat} (h : k.toNat = m) : (List.replicate k.toNat [PyData.int 7]).flatten = List.replicate m (.int 7) := by rw [h, flat_rep]
theorem ev_great {k : Int} {m : Nat} (h : k.toNat = m) (hk : -(2 ^ 63) ≤ k ∧ k < 2 ^ 63) (hm : m ≤ 100000) : EvD K M (tTup (tCons (tC (.str "put")) (tCons (tC (.str "f")) (tCons (tOp (rMulU K) (tLst (tCons (tC (.int 7)) tNil)) (tC (.int k))) tNil)))) σ F H (greatD m) :=
  ev_tup (ea_cons ev_str (ea_cons ev_str (ea_cons (EvD.is (ev_op (ev_lst (ea_cons ev_int ea_nil) (by simp)) ev_int (xMulL hk (by rw [h, List.length_singleton]; omega))) (congrArg PyData.list (rep_of h))) ea_nil))) (by simp)
theorem fault_empty : faultD (.str Str.empty) = .none := by
  have e : deedsText [] = Str.empty := by decide +kernel
  have := readT_text (ds := []) (by simp)
  rw [e] at this
  show numO (readT Str.empty).2 = _
  rw [this]; rfl
theorem Pt2 {n : Nat} {a b : PyData} (ha : Pt n a) (hb : Pt n b) : ∀ d, d ∈ [a, b] → Pt n d := fun d hd => by
  rcases List.mem_cons.mp hd with rfl | hd
  · exact ha
  · rw [List.mem_singleton.mp hd]; exact hb
theorem great_row : ∀ F v, Rp K F v (.list [greatD 20000, greatD 20001]) → RowK K F v (.list [greatD 20000, greatD 20001]) [greatD 20000, greatD 20001] [greatDeed] := fun F v rv =>
  ⟨rv, rfl, .list (Pt2 (great_pt (n := 1) (by decide)) (great_pt (n := 1) (by decide))) (by simp), by simp, by simp, fun x hx => by rw [List.mem_singleton.mp hx]; exact great_fit, fun j x y hx hy => by
    match j, hx, hy with
    | 0, hx, hy =>
      cases hx; cases hy
      rw [great_law]
      exact pl_loose great_fit.1 (loose_refl (pt_law (n := 0) great_fit.1))
    | j + 1, _, hy => simp at hy⟩
theorem rd_great {va v3 : V} {i : Int} {txt : Str} {w5 w6 w7 w8 w9 w10 w11 w12 w13 w14 w15 w16 w17 : Option V} (L : LS P p q n F H) (ht : TOk txt)
    (hD : ∀ F' H' σ', LS P p q n F' H' → Sh0 va p σ' → D.nx σ' H') : t_law_great K P D [some va, some (.ref p), some (.int i), some v3, some (.str txt), w5, w6, w7, w8, w9, w10, w11, w12, w13, w14, w15, w16, w17] H := by
  refine q_set (K := K) (M := []) (d := .list [greatD 20000, greatD 20001]) L.e (ev_lst (ea_cons (ev_great (by decide) (by decide) (by decide)) (ea_cons (ev_great (by decide) (by decide) (by decide)) ea_nil)) (by simp)) fun F1 H1 v8 s1 r8 => ?_
  have L1 := L.pure s1
  have last : ∀ F2 H2, LS P p q n F2 H2 → (tIfS (tNot (tTru K (tCall (sp_law_same K) [] E0 (tCons (tLst (tCons (tCall (sp_deeds_fault K) [] E0 (tCons (tC (.non)) tNil)) (tCons (tCall (sp_deeds_fault K) [] E0 (tCons (tC (.int 5)) tNil)) (tCons (tCall (sp_deeds_fault K) [] E0 (tCons (tLst (tCons (tVar 4) tNil)) tNil)) (tCons (tCall (sp_deeds_fault K) [] E0 (tCons (tC (.str "")) tNil)) tNil))))) (tCons (tLst (tCons (tC (.int 0)) (tCons (tC (.int 0)) (tCons (tC (.int 0)) (tCons (tC (.non)) tNil))))) tNil)))))
     (tRet (tC (.bl false)))
     tNext) D [some va, some (.ref p), some (.int i), some v3, some (.str txt), w5, w6, w7, some v8, w9, w10, w11, w12, w13, w14, w15, w16, w17] H2 := fun F2 H2 L2 => by
    refine st_if (K := K) (M := []) (b := !true) L2.e (et_not (xTru (ev_same (d := .list [.int 0, .int 0, .int 0, .none]) (ev_lst (ea_cons (EvD.is (ev_deeds_fault (d := .none) (ea_cons ev_non ea_nil) trivial) rfl) (ea_cons (EvD.is (ev_deeds_fault (d := .int 5) (ea_cons ev_int ea_nil) trivial) rfl) (ea_cons (EvD.is (ev_deeds_fault (d := .list [.str txt]) (ea_cons (ev_lst (ea_cons (ev_var rfl (.str txt)) ea_nil) (by simp)) ea_nil) trivial) rfl) (ea_cons (EvD.is (ev_deeds_fault (d := .str Str.empty) (ea_cons ev_str ea_nil) ⟨⟨by decide +kernel, by decide⟩, by decide⟩) fault_empty) ea_nil)))) (by simp)) (ev_lst (ea_cons ev_int (ea_cons ev_int (ea_cons ev_int (ea_cons ev_non ea_nil)))) (by simp)) ?_) rfl)) (fun z => by cases z) fun _ F3 H3 s3 => ?_
    · exact .list (Pl.cons .int (Pl.cons .int (Pl.cons .int (Pl.one .non)))) (by simp)
    · exact hD F3 H3 _ (L2.pure s3) ⟨_, _, _, _, _, _, _, _, _, _, _, _, _, _, _, _, rfl⟩
  refine et_test (K := K) (M := []) (F := F1) (H := H1) (b := decide (i = 0)) (ev_op (ev_var rfl (.int i)) ev_int xEqI) F1 H1 (Sx.refl L1.e) _ fun F2 H2 s2 => ?_
  have L2 := L1.pure s2
  have q8 := r8.mono s2.ff
  cases decide (i = 0) with
  | false => exact last F2 H2 L2
  | true =>
    refine iteT ?_
    have hsum : sumL [greatDeed] ≤ 900000 := by rw [← len_text, great_text]; decide
    have hcut : cut [greatD 20000, greatD 20001] none (some 1) = [greatDeed].map lawD := by
      rw [show (1 : Int) = ((1 : Nat) : Int) from rfl, cut_take]
      show [greatD 20000] = [lawD greatDeed]
      rw [great_law]
    have hlen : EvD K [] (tCB (rLen K) (tCons (tCall (sp_deeds_text K) [] E0 (tCons (tSl (rSlU K) (tVar 8) tNoPart (tPart (tC (.int 1)))) tNil)) tNil)) [some va, some (.ref p), some (.int i), some v3, some (.str txt), w5, w6, w7, some v8, w9, w10, w11, w12, w13, w14, w15, w16, w17] F2 H2 (.int 40006) :=
      EvD.is (ev_cb (ea_cons (ev_dt (ds := [greatDeed]) (EvD.is (xSlL (ev_var rfl q8) eo_none (eo_some ev_int)) (congrArg PyData.list hcut)) (row_laws (fun y hy => by rw [List.mem_singleton.mp hy]; exact great_fit) (by simp)) rfl hsum) ea_nil) (xLenS (by rw [great_text]; decide))) (by rw [great_text]; rfl)
    refine hlen F2 H2 (Sx.refl L2.e) _ fun F3 H3 v s3 rv => ?_
    have L3 := L2.pure s3
    have p8 := q8.mono s3.ff
    refine met_row (K := K) L3 (fun H1 => ev_var rfl (rp_noT p8)) great_row (x := greatD 20001) rfl great_no fun F4 H4 u L4 kx ru => ?_
    have rv4 := kx_no kx _ _ rv
    refine ⟨(by show 2 ≤ sizeLine; decide), fun l hl => ?_⟩
    have s5 := Sx.new (M := []) L4.e (.lst [v, u]) hl
    have L5 := L4.pure s5
    have r5 : Rp K (upd F4 l (.lst [v, u])) (.ref l) (.list [.int 40006, .tuple [.str "deed", .int 1]]) := .lst upd_same (.cons (rv4.mono s5.ff) (.one (ru.mono s5.ff)))
    refine ev_lst (K := K) (M := []) (F := upd F4 l (.lst [v, u])) (H := upd H4 l (.lst [v, u])) (ds := [.int 40006, .tuple [.str "deed", .int 1]]) (ea_cons ev_int (ea_cons (ev_tup (ea_cons ev_str (ea_cons ev_int ea_nil)) (by simp)) ea_nil)) (by simp) _ _ (Sx.refl L5.e) _ fun F6 H6 u6 s6 ru6 => ?_
    refine ⟨F6, .ref l, u6, _, by rfl, s6.fh, r5.mono s6.ff, ru6, ?_, fun F7 H7 s7 => ⟨true, rfl, iteF (last F7 H7 ((L5.pure s6).pure s7))⟩⟩
    exact .list (Pl.cons .int (Pl.one (.tuple (Pl.cons (.str (by decide +kernel)) (Pl.one .int)) (by simp)))) (by simp)
end
end Sf

/-! deeds told as texts, read from texts: the law's walk -/
namespace Sf
open PySem L2 RZ TL
/-! evaluation, construct by construct -/
local macro_rules | `(tactic| walk_at "rp") => `(tactic| first | assumption | exact .int _ | exact .bl _ | exact .str _ | exact .non | exact Rp.mono (Sx.ff (by assumption)) (by walk_at "rp"))
local macro_rules | `(tactic| walk_at "sc") => `(tactic| first | rfl | assumption | omega | decide | (simp; done) | (simp; omega))
local macro_rules | `(tactic| walk_at "ix") => `(tactic| first | rfl | assumption)
local macro_rules | `(tactic| walk_at "rv") => `(tactic| first
  | exact xAddI | exact xSub | exact xLt | exact xLe | exact xGt | exact xGe | exact xIsN | exact xNotN | exact xEqI | exact xNeI | exact xEqB | exact xNeB | exact xEqLB | exact xEqTB | exact xNeTB
  | exact xMod (by walk_at "sc")
  | exact xDiv (by walk_at "sc")
  | exact xPow (by walk_at "sc")
  | exact xMulI (by walk_at "sc")
  | exact rv_ixt (by walk_at "ix")
  | exact rv_ixl (by walk_at "ix")
  | exact xAddL (by walk_at "sc")
  | exact xAddT (by walk_at "sc"))
local macro_rules | `(tactic| walk_at "rc") => `(tactic| first | exact xLenL | exact xLenT | exact xListL | exact xListT | exact xTupL | exact xTupT | exact xMax2 | exact xInt | exact rc_all | exact rc_any)
local macro_rules | `(tactic| walk_at "ea") => `(tactic| first | exact ea_nil | refine ea_cons (by walk_at "ev") (by walk_at "ea"))
local macro_rules | `(tactic| walk_at "eo") => `(tactic| first | exact eo_none | refine eo_some (by walk_at "ev"))
local macro_rules | `(tactic| walk_at "et") => `(tactic| first
  | ((with_reducible show EvT _ _ (tTest _) _ _ _ _); exact et_test (by walk_at "ev"))
  | ((with_reducible show EvT _ _ (tNot _) _ _ _ _); exact et_not (by walk_at "et"))
  | ((with_reducible show EvT _ _ (tAnd _ _) _ _ _ _); exact et_and (by walk_at "et") (fun hh => by walk_at "et"))
  | ((with_reducible show EvT _ _ (tOr _ _) _ _ _ _); exact et_or (by walk_at "et") (fun hh => by walk_at "et"))
  | ((with_reducible show EvT _ _ (tTru _ _) _ _ _ _); exact xTru (by walk_at "ev") (by walk_at "sc"))
  | ((with_reducible show EvT _ _ tYes _ _ _ _); exact et_yes))
local macro_rules | `(tactic| walk_at "ev") => `(tactic| first
  | ((with_reducible show EvD _ _ (tC _) _ _ _ _); first | exact ev_int | exact ev_bl | exact ev_str | exact ev_non)
  | ((with_reducible show EvD _ _ (tVar _) _ _ _ _); exact ev_var (by rfl) (by walk_at "rp"))
  | ((with_reducible show EvD _ _ (tOp _ _ _) _ _ _ _); exact ev_op (by walk_at "ev") (by walk_at "ev") (by walk_at "rv"))
  | ((with_reducible show EvD _ _ (tUn _ _) _ _ _ _); exact ev_un (by walk_at "ev") xNeg)
  | ((with_reducible show EvD _ _ (tCB _ _) _ _ _ _); exact ev_cb (by walk_at "ea") (by walk_at "rc"))
  | ((with_reducible show EvD _ _ (tTup _) _ _ _ _); exact ev_tup (by walk_at "ea") (by walk_at "sc"))
  | ((with_reducible show EvD _ _ (tLst _) _ _ _ _); exact ev_lst (by walk_at "ea") (by walk_at "sc"))
  | ((with_reducible show EvD _ _ (tSl _ _ _ _) _ _ _ _); first | exact xSlL (by walk_at "ev") (by walk_at "eo") (by walk_at "eo") | exact xSlT (by walk_at "ev") (by walk_at "eo") (by walk_at "eo"))
  | ((with_reducible show EvD _ _ (tNotT _ _) _ _ _ _); exact ev_notT (by walk_at "ev") (by walk_at "sc"))
  | ((with_reducible show EvD _ _ (tAndT _ _ _) _ _ _ _); exact ev_andB (by walk_at "ev") (fun hh => by walk_at "ev"))
  | ((with_reducible show EvD _ _ (tOrT _ _ _) _ _ _ _); exact ev_orB (by walk_at "ev") (fun hh => by walk_at "ev")))

local macro_rules | `(tactic| walk_at "ev") => `(tactic| ((with_reducible show EvD _ _ (tCall (sp_is_number _) _ _ _) _ _ _ _); exact ev_is_number (by walk_at "ea")))
local macro_rules | `(tactic| walk_at "ev") => `(tactic| ((with_reducible show EvD _ _ (tCall (sp_is_name _) _ _ _) _ _ _ _); exact ev_is_name (by walk_at "ea") (by walk_at "sc")))
local macro_rules | `(tactic| walk_at "ev") => `(tactic| ((with_reducible show EvD _ _ (tCall (sp_is_octets _) _ _ _) _ _ _ _); exact ev_is_octets (by walk_at "ea") (by walk_at "sc")))
local macro_rules | `(tactic| walk_at "ev") => `(tactic| ((with_reducible show EvD _ _ (tCall (sp_octet_of _) _ _ _) _ _ _ _); exact ev_octet_of (by walk_at "ea") (by walk_at "sc")))
local macro_rules | `(tactic| walk_at "ev") => `(tactic| ((with_reducible show EvD _ _ (tCall (sp_is_deed _) _ _ _) _ _ _ _); exact ev_is_deed (by walk_at "ea") (by walk_at "sc")))
local macro_rules | `(tactic| walk_at "ev") => `(tactic| ((with_reducible show EvD _ _ (tCall (sp_rest_in _) _ _ _) _ _ _ _); exact ev_rest_in (by walk_at "ea") (by walk_at "sc")))
local macro_rules | `(tactic| walk_at "ev") => `(tactic| ((with_reducible show EvD _ _ (tCall (sp_plain_deed _) _ _ _) _ _ _ _); exact ev_plain_deed (by walk_at "ea") (by walk_at "sc")))
local macro_rules | `(tactic| walk_at "ev") => `(tactic| ((with_reducible show EvD _ _ (tCall (sp_deed_of _) _ _ _) _ _ _ _); exact ev_deed_of (by walk_at "ea") (by walk_at "sc")))
local macro_rules | `(tactic| walk_at "ev") => `(tactic| ((with_reducible show EvD _ _ (tCall (sp_lines_read _) _ _ _) _ _ _ _); exact ev_lines_read (by walk_at "ea") (by walk_at "sc")))
local macro_rules | `(tactic| walk_at "ev") => `(tactic| ((with_reducible show EvD _ _ (tCall (sp_deeds_fault _) _ _ _) _ _ _ _); exact ev_deeds_fault (by walk_at "ea") (by walk_at "sc")))
local macro_rules | `(tactic| walk_at "ev") => `(tactic| ((with_reducible show EvD _ _ (tCall (sp_law_kkeys _) _ _ _) _ _ _ _); exact ev_law_kkeys (by walk_at "ea")))
local macro_rules | `(tactic| walk_at "ev") => `(tactic| ((with_reducible show EvD _ _ (tCall (sp_law_vname _) _ _ _) _ _ _ _); exact ev_law_vname (by walk_at "ea") (by walk_at "sc")))
local macro_rules | `(tactic| walk_at "ev") => `(tactic| ((with_reducible show EvD _ _ (tCall (sp_law_voctet _) _ _ _) _ _ _ _); exact ev_law_voctet (by walk_at "ea") (by walk_at "sc")))
local macro_rules | `(tactic| walk_at "ev") => `(tactic| ((with_reducible show EvD _ _ (tCall (sp_law_vline _) _ _ _) _ _ _ _); exact ev_law_vline (by walk_at "ea") (by walk_at "sc")))
local macro_rules | `(tactic| walk_at "ev") => `(tactic| ((with_reducible show EvD _ _ (tCall (sp_law_vfirst_bad _) _ _ _) _ _ _ _); exact ev_law_vfirst_bad (by walk_at "ea") (by walk_at "sc")))
local macro_rules | `(tactic| walk_at "ev") => `(tactic| ((with_reducible show EvD _ _ (tCall (sp_law_vtold _) _ _ _) _ _ _ _); exact ev_law_vtold (by walk_at "ea") (by walk_at "sc")))
section
variable {K : PySem.W.Frag} {w : World} {F H F' H' F1 H1 F2 H2 : Hp} {M : List Addr} {σ : L2.St} {te ta tb tc : TE} {tt tu : TT} {d x y z : PyData} {D : Ends} {tw tz : TS} {P p q : Addr} {c c' n m : Nat} {Px Py Pz : PyData → Prop}
/-! ### odd things among the deeds -/
theorem en_odds1 : EvN K M (tLst (tCons (tC (.non)) (tCons (tC (.int 5)) (tCons (tC (.str "put")) (tCons (tTup (tCons (tC (.str "put")) (tCons (tC (.str "f")) tNil))) (tCons (tTup (tCons (tC (.str "drop")) tNil)) (tCons (tTup (tCons (tC (.str "drop")) (tCons (tC (.str "f")) (tCons (tC (.str "g")) tNil)))) (tCons (tTup (tCons (tC (.str "put")) (tCons (tC (.str "f")) (tCons (tLst tNil) tNil)))) (tCons (tTup (tCons (tC (.str "put")) (tCons (tC (.str "f")) (tCons (tLst (tCons (tC (.int 256)) tNil)) tNil)))) (tCons (tTup (tCons (tC (.str "chain")) (tCons (tC (.str "f")) (tCons (tLst tNil) tNil)))) (tCons (tTup (tCons (tC (.str "give")) (tCons (tC (.str "f")) tNil))) tNil))))))))))) σ F H odds1 := by
  refine en_lst (ds := odds1) ?_ (by decide)
  unfold odds1
  walk_at "ea"
theorem en_odds2 : EvN K M (tLst (tCons (tTup (tCons (tC (.str "chain")) (tCons (tC (.str "f")) (tCons (tOp (rMulU K) (tLst (tCons (tC (.str "a")) tNil)) (tC (.int 5))) tNil)))) (tCons (tTup (tCons (tC (.str "chain")) (tCons (tC (.str "f")) (tCons (tC (.str "gg")) tNil)))) (tCons (tTup (tCons (tC (.str "put")) (tCons (tC (.str "read")) (tCons (tLst (tCons (tC (.int 1)) tNil)) tNil)))) (tCons (tTup (tCons (tC (.str "chain")) (tCons (tC (.str "f")) (tCons (tLst (tCons (tC (.str "a")) (tCons (tC (.str "start")) tNil))) tNil)))) (tCons (tTup (tCons (tC (.str "exchange")) (tCons (tC (.str "f")) (tCons (tLst (tCons (tUn rNegI (tC (.int 1))) tNil)) tNil)))) tNil)))))) σ F H odds2 := by
  refine en_lst (ds := odds2) ?_ (by decide)
  unfold odds2
  refine ea_cons (ev_tup (ea_cons ev_str (ea_cons ev_str (ea_cons (EvD.is (ev_op (ev_lst (ds := [.str aS]) (ea_cons ev_str ea_nil) (by simp)) ev_int (xMulL (by decide) (by decide))) rfl) ea_nil))) (by simp)) ?_
  refine ea_cons (ev_tup (ea_cons ev_str (ea_cons ev_str (ea_cons ev_str ea_nil))) (by simp)) ?_
  refine ea_cons (ev_tup (ea_cons ev_str (ea_cons ev_str (ea_cons (ev_lst (ea_cons ev_int ea_nil) (by simp)) ea_nil))) (by simp)) ?_
  refine ea_cons (ev_tup (ea_cons ev_str (ea_cons ev_str (ea_cons (ev_lst (ea_cons ev_str (ea_cons ev_str ea_nil)) (by simp)) ea_nil))) (by simp)) ?_
  exact ea_cons (ev_tup (ea_cons ev_str (ea_cons ev_str (ea_cons (ev_lst (ea_cons (ev_un ev_int xNeg) ea_nil) (by simp)) ea_nil))) (by simp)) ea_nil
theorem no_flat {v : V} {d : PyData} (h : Rp K F v d) (hd : rowD d = none) : NoRow K F v := by
  refine ⟨typeD d, fun H' e' => tyx_of e' (rp_noT h), (row_kit d).1, ?_⟩
  rw [(row_kit d).2, row_no hd]
theorem rd_odds {va v3 : V} {i : Int} {txt : Str} {ds : List Deed} {w5 w6 w7 w8 w9 w10 w11 w12 w13 w14 w15 w16 w17 : Option V} (L : LS P p q n F H) (hn : n + 3 ≤ 1000000000) (ht : TOk txt) (r3 : Rp K F v3 (.list (ds.map lawD))) (hg : ∀ y ∈ ds, FitDeed y) (hl : ds.length ≤ 10)
    (hD : ∀ F' H' σ', LS P p q (n + 3) F' H' → Sh0 va p σ' → D.nx σ' H') : t_law_odds K P D [some va, some (.ref p), some (.int i), some v3, some (.str txt), w5, w6, w7, w8, w9, w10, w11, w12, w13, w14, w15, w16, w17] H := by
  refine q_setN (K := K) (M := []) L.e en_odds1 fun F1 H1 p6 vs s1 n6 f6 h6 r6 => ?_
  refine ⟨.ref p6, rfl, .inl ⟨rfl, vs, .inl (.inl h6)⟩, ?_⟩
  refine en_odds2 (K := K) (M := []) (F := F1) (H := H1) F1 H1 (Sx.refl s1.fh) _ fun F2 H2 b zs s2 nb fb hb rb => ?_
  have h62 := s2.hh _ _ (by simp) h6
  have f62 := s2.sep _ f6 (by rw [h6]; simp)
  have s12 := s1.trans s2
  refine ⟨p6, b, vs, zs, rfl, rfl, h62, hb, by rw [r6.length, rb.length]; decide, ?_⟩
  have s3 : Sx [] F H (upd F2 p6 (.lst (vs ++ zs))) (upd H2 p6 (.lst (vs ++ zs))) := Sx.fix (Sx.put s12 _ (.inr n6) f62) n6 upd_same f62
  have L3 := L.pure s3
  have ro : Rp K (upd F2 p6 (.lst (vs ++ zs))) (.ref p6) (.list (odds1 ++ odds2)) := .lst upd_same (((r6.mono s2.ff).append rb).mono (fix_same f62))
  have q3 := r3.mono s3.ff
  generalize upd F2 p6 (.lst (vs ++ zs)) = F3 at s3 L3 ro q3
  generalize upd H2 p6 (.lst (vs ++ zs)) = H3 at s3 L3
  -- odd, at, none
  refine es_pick (K := K) (p := p) (q := q) (F := F3) (H := H3) (ds := odds1 ++ odds2) rfl (ev_var rfl ro) (by decide) (by decide) F3 H3 n (Sx.refl L3.e) L3.st (by omega) _ fun F4 H4 v12 d12 s4 st4 hd12 r12 => ?_
  have L4 := L3.draw s4 st4
  have o3 := q3.mono s4.ff
  refine es_below (K := K) (p := p) (q := q) (F := F4) (H := H4) (m := ds.length + 1) rfl (EvD.is (ev_op (ev_cb (ea_cons (ev_var rfl o3) ea_nil) xLenL) ev_int xAddI) (by rw [List.length_map]; rfl)) (by omega) (by omega) F4 H4 (n + 1) (Sx.refl L4.e) L4.st (by omega) _ fun F5 H5 v13 d13 s5 st5 ⟨r, hr, hd13⟩ r13 => ?_
  subst hd13
  cases r13.int_of
  have L5 := L4.draw s5 st5
  have m3 := o3.mono s5.ff
  have m12 := r12.mono s5.ff
  refine ⟨.ref p, rfl, fun pd hpd => ⟨(by show 4 ≤ sizeLine; decide), fun l hl' => ?_⟩⟩
  have s6 := Sx.new (M := []) L5.e (.dK []) hpd
  have L6 := L5.pure s6
  have s7 := Sx.new (M := []) L6.e (.lst [.non, .int 5, .str "", .ref pd]) hl'
  have L7 := L6.pure s7
  have hne : pd ≠ l := fun z => by rw [← z, upd_same] at hl'; cases hl'
  have hdk : (upd (upd F5 pd (.dK [])) l (.lst [.non, .int 5, .str "", .ref pd])) pd = some (.dK []) := by rw [upd_ne hne, upd_same]
  have hls : (upd (upd F5 pd (.dK [])) l (.lst [.non, .int 5, .str "", .ref pd])) l = some (.lst [.non, .int 5, .str "", .ref pd]) := upd_same
  have k3 := (m3.mono s6.ff).mono s7.ff
  have k12 := (m12.mono s6.ff).mono s7.ff
  generalize upd (upd F5 pd (.dK [])) l (.lst [.non, .int 5, .str "", .ref pd]) = F7 at s7 L7 hdk hls k3 k12
  generalize upd (upd H5 pd (.dK [])) l (.lst [.non, .int 5, .str "", .ref pd]) = H7 at s7 L7
  refine ⟨p, q, l, n + 1 + 1, _, F7, rfl, L7.e, L7.st, hls, by simp, by simp, by omega, fun F8 H8 j x s8 st8 hx => ?_⟩
  have L8 := L7.draw s8 st8
  have hno : NoRow K F8 x := by
    match j, hx with
    | 0, hx => cases hx; exact no_flat .non rfl
    | 1, hx => cases hx; exact no_flat (.int 5) rfl
    | 2, hx => cases hx; exact no_flat (.str _) rfl
    | 3, hx =>
      cases hx
      exact ⟨"dict", fun H' e' => .base (.dK (e' _ _ (noT_of (s8.ff _ _ hdk) fun ps z => by cases z))), (row_kit (.dict [])).1, (row_kit (.dict [])).2⟩
    | j + 4, hx => simp at hx
  have i3 := k3.mono s8.ff
  have i12 := k12.mono s8.ff
  refine ⟨(by show 3 ≤ sizeLine; decide), fun t ht' => ?_⟩
  have s9 := Sx.new (M := []) L8.e (.tup [v12, .int (r : Int), x]) ht'
  have L9 := L8.pure s9
  have h3 := i3.mono s9.ff
  have h12 := i12.mono s9.ff
  have no9 := hno.mono (noT_mono s9.ff)
  refine ⟨t, _, rfl, .inl (.inl upd_same), rfl, v12, _, rfl, .int (r : Int), _, rfl, x, _, rfl, rfl, ?_⟩
  generalize upd F8 t (.tup [v12, .int (r : Int), x]) = F9 at s9 L9 h3 h12 no9
  generalize upd H8 t (.tup [v12, .int (r : Int), x]) = H9 at s9 L9
  -- found
  have hrl : (ds.take r).length = r := by rw [List.length_take]; omega
  have hodd : d12 ∈ odds1 ++ odds2 := hd12
  have hrow : ∀ F v, Rp K F v (.list ((ds.take r).map lawD ++ [d12] ++ (ds.drop r).map lawD)) → RowK K F v (.list ((ds.take r).map lawD ++ [d12] ++ (ds.drop r).map lawD)) ((ds.take r).map lawD ++ [d12] ++ (ds.drop r).map lawD) (ds.take r) := fun F v rv =>
    ⟨rv, rfl, .list (fun y hy => by
      rcases List.mem_append.mp hy with hy | hy
      · rcases List.mem_append.mp hy with hy | hy
        · obtain ⟨y, hy2, rfl⟩ := List.mem_map.mp hy; exact pt_law (n := 1) (hg y (List.mem_of_mem_take hy2)).1
        · rw [List.mem_singleton.mp hy]; exact odd_pt (n := 1) hodd
      · obtain ⟨y, hy2, rfl⟩ := List.mem_map.mp hy; exact pt_law (n := 1) (hg y (List.mem_of_mem_drop hy2)).1) (by simp <;> omega), by simp <;> omega, by omega, fun y hy => hg y (List.mem_of_mem_take hy), fun j a y ha hy => by
        have hj : j < (ds.take r).length := by
          rcases Nat.lt_or_ge j (ds.take r).length with z | z
          · exact z
          · rw [List.getElem?_eq_none z] at hy; cases hy
        rw [List.append_assoc, List.getElem?_append_left (by rw [List.length_map]; exact hj), List.getElem?_map, hy] at ha
        cases ha
        have hgy := (hg y (List.mem_of_mem_take (List.mem_of_getElem? hy))).1
        exact pl_loose hgy (loose_refl (pt_law (n := 0) hgy))⟩
  have hat : ((ds.take r).map lawD ++ [d12] ++ (ds.drop r).map lawD)[(ds.take r).length]? = some d12 := by
    rw [List.append_assoc, List.getElem?_append_right (by rw [List.length_map]; exact Nat.le_refl _), List.length_map, Nat.sub_self]; rfl
  refine met_row (K := K) L9 (d := .list ((ds.take r).map lawD ++ [d12] ++ (ds.drop r).map lawD)) (fun H1 => ev_op (ev_op (xTakeL (k := r) (ev_var rfl (rp_noT h3)) (eo_some (ev_var rfl (.int (r : Int))))) (ev_lst (ea_cons (ev_var rfl (rp_noT h12)) ea_nil) (by simp)) (xAddL (by simp; omega))) (xDropL (k := r) (ev_var rfl (rp_noT h3)) (eo_some (ev_var rfl (.int (r : Int))))) (xAddL (by simp; omega))) hrow hat (odd_no hodd) fun F10 H10 u1 L10 e10 ru1 => ?_
  rw [hrl] at ru1
  have no10 := no9.mono (by have := noT_mono e10; rwa [noT_noT] at this)
  have g3 := kx_no e10 _ _ h3
  refine met_no (K := K) L10 rfl no10 fun F11 H11 u2 L11 e11 ru2 => ?_
  have qu1 := kx_no e11 _ _ ru1
  have f3 := kx_no e11 _ _ g3
  refine ⟨(by show 2 ≤ sizeLine; decide), fun l2 hl2 => ?_⟩
  have s12' := Sx.new (M := []) L11.e (.lst [u1, u2]) hl2
  have L12 := L11.pure s12'
  have rf : Rp K (upd F11 l2 (.lst [u1, u2])) (.ref l2) (.list [.tuple [.str "deed", .int (r : Int)], .tuple [.str "deed", .int 0]]) := .lst upd_same (.cons (qu1.mono s12'.ff) (.one (ru2.mono s12'.ff)))
  have e3 := f3.mono s12'.ff
  generalize upd F11 l2 (.lst [u1, u2]) = F12 at s12' L12 rf e3
  generalize upd H11 l2 (.lst [u1, u2]) = H12 at s12' L12
  refine q_when (K := K) (M := []) (b := !true) L12.e (et_not (xTru (ev_same (d := .list [.tuple [.str "deed", .int (r : Int)], .tuple [.str "deed", .int 0]]) (ev_var rfl rf) (ev_lst (ea_cons (ev_tup (ea_cons ev_str (ea_cons (ev_var rfl (.int (r : Int))) ea_nil)) (by simp)) (ea_cons (ev_tup (ea_cons ev_str (ea_cons ev_int ea_nil)) (by simp)) ea_nil)) (by simp)) ?_) rfl)) (fun z => by cases z) fun _ F13 H13 s13 => ?_
  · have hdd : ∀ k : Int, Pl 7 (.tuple [.str "deed", .int k]) := fun k => .tuple (Pl.cons (.str (by decide +kernel)) (Pl.one .int)) (by simp)
    exact .list (Pl.cons (hdd _) (Pl.one (hdd _))) (by simp)
  · exact rd_great (L12.pure s13) ht fun F' H' σ' L' h' => hD F' H' σ' (L'.le (by omega)) h'
/-! ### a turn -/
theorem es_vdeed {i : Nat} {E : XK} (h : σ[i]? = some (some (.ref p))) : EvS K p q (tCall (sp_law_vdeed K) [] E (tCons (tVar i) tNil)) σ F H 9 (fun d => ∃ y, LittleDeed y ∧ d = lawD y) := fun F1 H1 n s st hn Q k =>
  ⟨.ref p, h, p, q, n, F1, by rw [List.append_nil], s.fh, st, hn, fun F' H' v y s3 st3 hy rv => k F' H' v _ s3 st3 ⟨y, hy, rfl⟩ rv⟩
theorem little_all {ds : List PyData} (h : ∀ x ∈ ds, ∃ y, LittleDeed y ∧ x = lawD y) : ∃ ys : List Deed, ds = ys.map lawD ∧ ∀ y ∈ ys, LittleDeed y := by
  induction ds with
  | nil => exact ⟨[], rfl, by simp⟩
  | cons a r ih =>
    obtain ⟨y, hy, rfl⟩ := h a (by simp)
    obtain ⟨ys, rfl, h2⟩ := ih fun x hx => h x (List.mem_cons_of_mem _ hx)
    exact ⟨y :: ys, rfl, fun z hz => by rcases List.mem_cons.mp hz with rfl | hz; exact hy; exact h2 z hz⟩
theorem es_dtl {E E' : XK} {ds : List Deed} (h1 : σ[1]? = some (some (.ref p))) (h : EvD K [p, q] te σ F H (.list (ds.map lawD))) (hg : ∀ y ∈ ds, LittleDeed y) (hl : ds.length ≤ 4) : EvS K p q (tCall (sp_deeds_text K) [] E (tCons (tCall (sp_law_loose K) [] E' (tCons (tVar 1) (tCons te tNil))) tNil)) σ F H 17 (fun x => x = .str (deedsText ds)) := fun F1 H1 n s st hn Q k => by
  have hpt := pt_laws (n := 5) (fun y hy => (hg y hy).1) (show ds.length ≤ 1000000 by omega)
  have hc := cst_laws hl
  refine (es_loose (E := E') h1 h hpt.pl).weak hc (fun _ h => h) F1 H1 n s st hn _ fun F2 H2 v d s2 st2 hd rv => ?_
  have ht4 := pt_laws (n := 1) (fun y hy => (hg y hy).1) (show ds.length ≤ 1000000 by omega)
  obtain ⟨es, e1, e2, e3⟩ := loose_rw hd rfl
  rw [List.length_map] at e2
  have R : RowK K F2 v d es ds := ⟨rv, e1, pt_loose ht4 hd, by omega, by omega, fun y hy => ⟨(hg y hy).1, by have := (hg y hy).2; omega⟩, fun j x y hx hy => pl_loose (hg y (List.mem_of_getElem? hy)).1 (e3 j _ _ (by rw [List.getElem?_map, hy]; rfl) hx)⟩
  have hs : sumL ds ≤ 900000 := by rw [← len_text]; have := text_len hg (by omega); omega
  exact ⟨v, F2, by rw [List.append_nil], s2.fh, .inl ⟨d, es, ds, R, e2.symm, hs, fun F' H' u s3 ru => k F' H' u _ (s2.trans s3.up) (st2.pure s3) rfl ru⟩⟩
theorem rd_turn {va : V} {i : Int} {w3 w4 w5 w6 w7 w8 w9 w10 w11 w12 w13 w14 w15 w16 w17 : Option V} (L : LS P p q n F H) (hn : n + 100 ≤ 1000000000)
    (hD : ∀ F' H' σ', LS P p q (n + 100) F' H' → Sh0 va p σ' → D.nx σ' H') : t_law_turn K P D [some va, some (.ref p), some (.int i), w3, w4, w5, w6, w7, w8, w9, w10, w11, w12, w13, w14, w15, w16, w17] H := by
  refine qs_set (K := K) (n := n) (c := 1 + 0 + 9 * 4) L.e L.st (es_lcR (B := 4) (Pm := fun _ => True) (Pg := fun d => ∃ y, LittleDeed y ∧ d = lawD y) (esa_cons (Pr := fun ds => ds = []) (es_below (m := 5) rfl ev_int (by decide) (by decide)) esa_nil (fun x ds ⟨r, hr, hx⟩ hd => ⟨r, by omega, trivial, by rw [hx, hd]⟩)) (by decide) (fun _ => rfl) fun F1 H1 v s1 => es_vdeed rfl) (by omega) fun F1 H1 v3 d3 s1 st1 ⟨xs, m, hd3, hm, _, hlen, hxs⟩ r3 => ?_
  subst hd3
  obtain ⟨ds, rfl, hg⟩ := little_all hxs
  rw [List.length_map] at hlen
  have hl4 : ds.length ≤ 4 := by omega
  have L1 := L.draw s1 st1
  have hgood : ∀ y ∈ ds, GoodDeed y := fun y hy => (hg y hy).1
  have hfit : ∀ y ∈ ds, FitDeed y := fun y hy => ⟨(hg y hy).1, by have := (hg y hy).2; omega⟩
  have htok := text_tok hg (by omega)
  have htl := text_len hg (by omega)
  have hread := readT_text hgood
  have hnone : (readT (deedsText ds)).2 = none := by rw [hread]
  have hfst : (readT (deedsText ds)).1 = ds := by rw [hread]
  have hok : TxtOk (.str (deedsText ds)) := ⟨htok, by omega⟩
  refine q_set (K := K) (M := []) (d := .str (deedsText ds)) L1.e (ev_law_vtold (ea_cons (ev_var rfl r3) ea_nil) ⟨hg, by omega⟩) fun F2 H2 v4 s2 r4 => ?_
  have L2 := L1.pure s2
  have q3 := r3.mono s2.ff
  cases r4.str_of
  have hpl : Pl 8 (.list [.str (deedsText ds), .list (ds.map lawD), .none]) := .list (Pl.cons (Pl.tok htok) (Pl.cons (pt_laws (n := 4) hgood (by omega)).pl (Pl.one .non))) (by simp)
  refine qs_if (K := K) (c := 17 + 0 + 0) (Pb := fun b => (!b) = true) L2.e L2.st ((est_not (Pb := fun b => b = true) (est_tru (EvS.weak (es_same (d := .list [.str (deedsText ds), .list (ds.map lawD), .none]) (c := 17 + 0) (EvS.weak (es_lst (Pr := fun l => l = [.str (deedsText ds), .list (ds.map lawD), .none]) (esa_cons (es_dtl (ds := ds) rfl (ev_var rfl q3) hg hl4) (esa_d (ea_cons (EvD.is (ev_read (ev_var rfl (.str _)) hok hnone) (by rw [hfst])) (ea_cons (EvD.is (ev_deeds_fault (ea_cons (ev_var rfl (.str _)) ea_nil) hok) (show numO (readT (deedsText ds)).2 = .none by rw [hnone]; rfl)) ea_nil))) (fun x l hx hl => by rw [hx, hl])) (fun l hl => by rw [hl]; simp)) (Nat.le_refl _) fun d ⟨l, hl, e⟩ => by rw [e, hl]) (c' := 0) (es_d (ev_lst (ea_cons (ev_var rfl (.str _)) (ea_cons (ev_var rfl q3) (ea_cons ev_non ea_nil))) (by simp))) hpl) (Nat.le_refl _) fun d hd => ⟨true, by rw [hd]; rfl, rfl⟩)))) (by omega) (fun z => by cases z) fun _ F3 H3 s3 st3 => ?_
  have L3 := L2.draw s3 st3
  have o3 := q3.mono s3.ff
  have how : EvOw K [] (tLst (tCons (tCall (sp_read_deeds K) [] E0 (tCons (tVar 4) tNil)) (tCons (tCall (sp_read_deeds K) [] E0 (tCons (tVar 4) tNil)) tNil))) [some va, some (.ref p), some (.int i), some v3, some (.str (deedsText ds)), w5, w6, w7, w8, w9, w10, w11, w12, w13, w14, w15, w16, w17] F3 H3 (.list [.list (ds.map lawD), .list (ds.map lawD)]) := by
    have := ow_lst2 (K := K) (M := []) (ow_read (K := K) (M := []) (E := E0) (ta := tVar 4) (σ := [some va, some (.ref p), some (.int i), some v3, some (.str (deedsText ds)), w5, w6, w7, w8, w9, w10, w11, w12, w13, w14, w15, w16, w17]) (F := F3) (H := H3) (ev_var rfl (.str _)) hok hnone) (ow_read (E := E0) (ta := tVar 4) (ev_var rfl (.str _)) hok hnone)
    rwa [hfst] at this
  have hcl : Clean 8 (.list [.list (ds.map lawD), .list (ds.map lawD)]) := by
    have h1 : Clean 7 (.list (ds.map lawD)) := .list (fun x hx => by obtain ⟨y, hy, rfl⟩ := List.mem_map.mp hx; exact clean_law (n := 4) (hgood y hy)) (by rw [List.length_map]; omega)
    refine .list (fun x hx => ?_) (by simp)
    rcases List.mem_cons.mp hx with rfl | hx
    · exact h1
    · rw [List.mem_singleton.mp hx]; exact h1
  refine q_when (K := K) (M := []) (b := !true) L3.e (et_not (ev_apart (i := 0) (j := 0) (D := D) L3.e how hcl)) (fun z => by cases z) fun _ F4 H4 s4 => ?_
  have L4 := L3.pure s4
  have n3 := o3.mono s4.ff
  refine ⟨6, rfl, by omega, by omega, for_range (lo := 0) (n := (6 : Int).toNat) (fun j σ' H' => ∃ F', LS P p q (n + 54 + 3 * j) F' H' ∧ Rp K F' v3 (.list (ds.map lawD)) ∧ ShL va (.int i) v3 (.str (deedsText ds)) p σ') ⟨F4, L4.le (by omega), n3, ⟨_, _, _, _, _, _, _, _, _, _, _, _, _, rfl⟩⟩ (fun j σ' H' hj ⟨F', L', r', h'⟩ => ?_) (fun σ' H' ⟨F', L', r', h'⟩ => ?_)⟩
  · obtain ⟨w5, w6, w7, w8, w9, w10, w11, w12, w13, w14, w15, w16, w17, rfl⟩ := h'
    have hj6 : j < 6 := hj
    exact rd_look L' (by omega) htok (by omega) r' fun F' H' σ' L' r' h' => ⟨F', L'.le (by omega), r', h'⟩
  · obtain ⟨w5, w6, w7, w8, w9, w10, w11, w12, w13, w14, w15, w16, w17, rfl⟩ := h'
    have e6 : (6 : Int).toNat = 6 := rfl
    rw [e6] at L'
    exact rd_odds L' (by omega) htok r' hfit (by omega) fun F' H' σ' L' h' => hD F' H' σ' (L'.le (by omega)) h'
def sp_law (P : Addr) (K : PySem.W.Frag) : Sp := fun vs H Q _ => ∃ (a : Addr) (ns : List Int), vs = [.ref a] ∧ SqL K H a (ns.map .int) ∧ LamX.Tabs [(P, lamQ)] H ∧ ∀ H', Q (.bl true) H'
theorem len_law {vs : List V} {Q : VK} {E : XK} (h : sp_law P K vs H Q E) : vs.length = ["script"].length := by
  obtain ⟨a, ns, rfl, _⟩ := h
  rfl
theorem rd_law {vs : List V} {Q : VK} {E : XK} (h : sp_law P K vs H Q E) : t_law K P { nx := fun _ H' => Q .non H', rt := Q } (L2.start N_law vs) H := by
  obtain ⟨a, ns, rfl, hs, ht, k⟩ := h
  have e0 : Same (fun _ => none) H := fun l o h => by cases h
  refine ⟨.ref a, rfl, a, ns, fun _ => none, rfl, e0, hs, fun H' p q s n1 n2 st => ?_⟩
  have L : LS P p q 0 (fun _ => none) H' := ⟨s.fh, st, tabs_keep (fun b o _ h => s.hh b o (by simp) h) ht⟩
  refine ⟨6, rfl, by omega, by omega, for_range (lo := 0) (n := (6 : Int).toNat) (fun j σ' H' => ∃ F', LS P p q (100 * j) F' H' ∧ Sh0 (.ref a) p σ') ⟨_, L, ⟨_, _, _, _, _, _, _, _, _, _, _, _, _, _, _, _, rfl⟩⟩ (fun j σ' H' hj ⟨F', L', h'⟩ => ?_) (fun σ' H' ⟨F', L', h'⟩ => ?_)⟩
  · obtain ⟨w2, w3, w4, w5, w6, w7, w8, w9, w10, w11, w12, w13, w14, w15, w16, w17, rfl⟩ := h'
    have hj6 : j < 6 := hj
    exact rd_turn L' (by omega) fun F' H' σ' L' h' => ⟨F', L'.le (by omega), h'⟩
  · exact k _
end
end Sf

set_option maxHeartbeats 4000000
namespace K39
open PySem L2
def topS (i : Nat) : Stmt := PySem.Challenge.pw_swornfilters_k39_whole_texts_of_deeds_li.main.body.getD i (.Pass ⟨0, 0, 0, 0⟩)
abbrev s_is_row : Stmt := topS 8
theorem sc_is_row : FnScope ["thing"] ["thing"] (defScope s_is_row) := ⟨rfl, rfl, rfl, by decide +kernel, rfl, by decide +kernel, by decide +kernel⟩
abbrev s_is_number : Stmt := topS 9
theorem sc_is_number : FnScope ["thing", "low", "high"] ["thing", "low", "high"] (defScope s_is_number) := ⟨rfl, rfl, rfl, by decide +kernel, rfl, by decide +kernel, by decide +kernel⟩
abbrev s_is_name : Stmt := topS 10
theorem sc_is_name : FnScope ["thing", "sign"] ["thing"] (defScope s_is_name) := ⟨rfl, rfl, rfl, by decide +kernel, rfl, by decide +kernel, by decide +kernel⟩
abbrev s_is_octets : Stmt := topS 12
theorem sc_is_octets : FnScope ["thing", "one"] ["thing"] (defScope s_is_octets) := ⟨rfl, rfl, rfl, by decide +kernel, rfl, by decide +kernel, by decide +kernel⟩
abbrev s_is_deed : Stmt := topS 15
theorem sc_is_deed : FnScope ["thing"] ["thing"] (defScope s_is_deed) := ⟨rfl, rfl, rfl, by decide +kernel, rfl, by decide +kernel, by decide +kernel⟩
abbrev s_octet_of : Stmt := topS 20
theorem sc_octet_of : FnScope ["word", "sign"] ["word"] (defScope s_octet_of) := ⟨rfl, rfl, rfl, by decide +kernel, rfl, by decide +kernel, by decide +kernel⟩
abbrev s_rest_in : Stmt := topS 21
theorem sc_rest_in : FnScope ["word", "thing", "good", "one"] ["word", "thing"] (defScope s_rest_in) := ⟨rfl, rfl, rfl, by decide +kernel, rfl, by decide +kernel, by decide +kernel⟩
abbrev s_plain_deed : Stmt := topS 22
theorem sc_plain_deed : FnScope ["thing", "rest"] ["thing"] (defScope s_plain_deed) := ⟨rfl, rfl, rfl, by decide +kernel, rfl, by decide +kernel, by decide +kernel⟩
abbrev s_deeds_text : Stmt := topS 23
theorem sc_deeds_text : FnScope ["deeds", "lines", "index", "thing", "deed", "words", "one"] ["deeds"] (defScope s_deeds_text) := ⟨rfl, rfl, rfl, by decide +kernel, rfl, by decide +kernel, by decide +kernel⟩
abbrev s_deed_of : Stmt := topS 24
theorem sc_deed_of : FnScope ["line", "words", "rest", "word"] ["line"] (defScope s_deed_of) := ⟨rfl, rfl, rfl, by decide +kernel, rfl, by decide +kernel, by decide +kernel⟩
abbrev s_lines_read : Stmt := topS 25
theorem sc_lines_read : FnScope ["text", "found", "lines", "number", "line", "deed"] ["text"] (defScope s_lines_read) := ⟨rfl, rfl, rfl, by decide +kernel, rfl, by decide +kernel, by decide +kernel⟩
abbrev s_deeds_fault : Stmt := topS 26
theorem sc_deeds_fault : FnScope ["text"] ["text"] (defScope s_deeds_fault) := ⟨rfl, rfl, rfl, by decide +kernel, rfl, by decide +kernel, by decide +kernel⟩
abbrev s_read_deeds : Stmt := topS 27
theorem sc_read_deeds : FnScope ["text", "found", "number", "deed", "one"] ["text"] (defScope s_read_deeds) := ⟨rfl, rfl, rfl, by decide +kernel, rfl, by decide +kernel, by decide +kernel⟩
abbrev s_law_start : Stmt := topS 29
theorem sc_law_start : FnScope ["script"] ["script"] (defScope s_law_start) := ⟨rfl, rfl, rfl, by decide +kernel, rfl, by decide +kernel, by decide +kernel⟩
abbrev s_law_below : Stmt := topS 30
theorem sc_law_below : FnScope ["stream", "many", "mixed", "cell", "digit"] ["stream", "many"] (defScope s_law_below) := ⟨rfl, rfl, rfl, by decide +kernel, rfl, by decide +kernel, by decide +kernel⟩
abbrev s_law_pick : Stmt := topS 31
theorem sc_law_pick : FnScope ["stream", "some"] ["stream", "some"] (defScope s_law_pick) := ⟨rfl, rfl, rfl, by decide +kernel, rfl, by decide +kernel, by decide +kernel⟩
abbrev s_law_mixed : Stmt := topS 32
theorem sc_law_mixed : FnScope ["stream", "some", "left", "k"] ["stream", "some"] (defScope s_law_mixed) := ⟨rfl, rfl, rfl, by decide +kernel, rfl, by decide +kernel, by decide +kernel⟩
abbrev s_law_same : Stmt := topS 33
theorem sc_law_same : FnScope ["found", "due", "x", "y"] ["found", "due"] (defScope s_law_same) := ⟨rfl, rfl, rfl, by decide +kernel, rfl, by decide +kernel, by decide +kernel⟩
abbrev s_law_loose : Stmt := topS 34
theorem sc_law_loose : FnScope ["stream", "thing", "found", "part", "key"] ["stream", "thing"] (defScope s_law_loose) := ⟨rfl, rfl, rfl, by decide +kernel, rfl, by decide +kernel, by decide +kernel⟩
abbrev s_law_spoilt : Stmt := topS 35
theorem sc_law_spoilt : FnScope ["thing", "key", "part"] ["thing"] (defScope s_law_spoilt) := ⟨rfl, rfl, rfl, by decide +kernel, rfl, by decide +kernel, by decide +kernel⟩
abbrev s_law_is_once : Stmt := topS 36
theorem sc_law_is_once : FnScope ["thing", "many", "key", "part"] ["thing"] (defScope s_law_is_once) := ⟨rfl, rfl, rfl, by decide +kernel, rfl, by decide +kernel, by decide +kernel⟩
abbrev s_law_apart : Stmt := topS 37
theorem sc_law_apart : FnScope ["thing"] ["thing"] (defScope s_law_apart) := ⟨rfl, rfl, rfl, by decide +kernel, rfl, by decide +kernel, by decide +kernel⟩
abbrev s_law_kkeys : Stmt := topS 38
theorem sc_law_kkeys : FnScope ["keys"] [] (defScope s_law_kkeys) := ⟨rfl, rfl, rfl, by decide +kernel, rfl, by decide +kernel, by decide +kernel⟩
abbrev s_law_vname : Stmt := topS 39
theorem sc_law_vname : FnScope ["word", "letters", "good", "sign"] ["word"] (defScope s_law_vname) := ⟨rfl, rfl, rfl, by decide +kernel, rfl, by decide +kernel, by decide +kernel⟩
abbrev s_law_voctet : Stmt := topS 40
theorem sc_law_voctet : FnScope ["word", "sign"] ["word"] (defScope s_law_voctet) := ⟨rfl, rfl, rfl, by decide +kernel, rfl, by decide +kernel, by decide +kernel⟩
abbrev s_law_vline : Stmt := topS 41
theorem sc_law_vline : FnScope ["line", "words", "word"] ["line"] (defScope s_law_vline) := ⟨rfl, rfl, rfl, by decide +kernel, rfl, by decide +kernel, by decide +kernel⟩
abbrev s_law_vfirst_bad : Stmt := topS 42
theorem sc_law_vfirst_bad : FnScope ["text", "lines", "at", "line"] ["text"] (defScope s_law_vfirst_bad) := ⟨rfl, rfl, rfl, by decide +kernel, rfl, by decide +kernel, by decide +kernel⟩
abbrev s_law_vdeed : Stmt := topS 43
theorem sc_law_vdeed : FnScope ["stream", "word", "name", "octet", "link"] ["stream"] (defScope s_law_vdeed) := ⟨rfl, rfl, rfl, by decide +kernel, rfl, by decide +kernel, by decide +kernel⟩
abbrev s_law_vtold : Stmt := topS 44
theorem sc_law_vtold : FnScope ["deeds", "lines", "deed", "line", "one"] ["deeds"] (defScope s_law_vtold) := ⟨rfl, rfl, rfl, by decide +kernel, rfl, by decide +kernel, by decide +kernel⟩
abbrev s_law_vmet : Stmt := topS 45
theorem sc_law_vmet : FnScope ["run", "e"] ["run"] (defScope s_law_vmet) := ⟨rfl, rfl, rfl, by decide +kernel, rfl, by decide +kernel, by decide +kernel⟩
abbrev s_law : Stmt := topS 46
theorem sc_law : FnScope ["script", "stream", "turn", "deeds", "text", "look", "odds", "found", "great", "more", "bent", "due", "odd", "at", "none", "deed", "plain", "line"] ["script"] (defScope s_law) := ⟨rfl, rfl, rfl, by decide +kernel, rfl, by decide +kernel, by decide +kernel⟩
abbrev s_init_BadDeed : Stmt := (match topS 2 with | .ClassDef _ _ _ b _ _ _ _ _ _ _ => b | _ => []).getD 0 (.Pass ⟨0, 0, 0, 0⟩)
theorem sc_init_BadDeed : FnScope ["self", "index"] ["self", "index"] (defScope s_init_BadDeed) := ⟨rfl, rfl, rfl, by decide +kernel, rfl, by decide +kernel, by decide +kernel⟩
abbrev s_init_BadLine : Stmt := (match topS 3 with | .ClassDef _ _ _ b _ _ _ _ _ _ _ => b | _ => []).getD 0 (.Pass ⟨0, 0, 0, 0⟩)
theorem sc_init_BadLine : FnScope ["self", "line"] ["self", "line"] (defScope s_init_BadLine) := ⟨rfl, rfl, rfl, by decide +kernel, rfl, by decide +kernel, by decide +kernel⟩
/-- what the top has left -/
structure Txt (w : World) (K : PySem.W.Frag) (mg : Str → Option Value) where
  a_is_row : Addr
  d_is_row : FuncData
  F_is_row : Fun K "is_row" "is_row" s_is_row a_is_row d_is_row
  g_is_row : mg "is_row" = some (.ref a_is_row)
  b_is_row : Binds K d_is_row ["thing"] []
  a_is_number : Addr
  d_is_number : FuncData
  F_is_number : Fun K "is_number" "is_number" s_is_number a_is_number d_is_number
  g_is_number : mg "is_number" = some (.ref a_is_number)
  b_is_number : Binds K d_is_number ["thing", "low", "high"] []
  a_is_name : Addr
  d_is_name : FuncData
  F_is_name : Fun K "is_name" "is_name" s_is_name a_is_name d_is_name
  g_is_name : mg "is_name" = some (.ref a_is_name)
  b_is_name : Binds K d_is_name ["thing"] []
  a_is_octets : Addr
  d_is_octets : FuncData
  F_is_octets : Fun K "is_octets" "is_octets" s_is_octets a_is_octets d_is_octets
  g_is_octets : mg "is_octets" = some (.ref a_is_octets)
  b_is_octets : Binds K d_is_octets ["thing"] []
  a_is_deed : Addr
  d_is_deed : FuncData
  F_is_deed : Fun K "is_deed" "is_deed" s_is_deed a_is_deed d_is_deed
  g_is_deed : mg "is_deed" = some (.ref a_is_deed)
  b_is_deed : Binds K d_is_deed ["thing"] []
  a_octet_of : Addr
  d_octet_of : FuncData
  F_octet_of : Fun K "octet_of" "octet_of" s_octet_of a_octet_of d_octet_of
  g_octet_of : mg "octet_of" = some (.ref a_octet_of)
  b_octet_of : Binds K d_octet_of ["word"] []
  a_rest_in : Addr
  d_rest_in : FuncData
  F_rest_in : Fun K "rest_in" "rest_in" s_rest_in a_rest_in d_rest_in
  g_rest_in : mg "rest_in" = some (.ref a_rest_in)
  b_rest_in : Binds K d_rest_in ["word", "thing"] []
  a_plain_deed : Addr
  d_plain_deed : FuncData
  F_plain_deed : Fun K "plain_deed" "plain_deed" s_plain_deed a_plain_deed d_plain_deed
  g_plain_deed : mg "plain_deed" = some (.ref a_plain_deed)
  b_plain_deed : Binds K d_plain_deed ["thing"] []
  a_deeds_text : Addr
  d_deeds_text : FuncData
  F_deeds_text : Fun K "deeds_text" "deeds_text" s_deeds_text a_deeds_text d_deeds_text
  g_deeds_text : mg "deeds_text" = some (.ref a_deeds_text)
  b_deeds_text : Binds K d_deeds_text ["deeds"] []
  a_deed_of : Addr
  d_deed_of : FuncData
  F_deed_of : Fun K "deed_of" "deed_of" s_deed_of a_deed_of d_deed_of
  g_deed_of : mg "deed_of" = some (.ref a_deed_of)
  b_deed_of : Binds K d_deed_of ["line"] []
  a_lines_read : Addr
  d_lines_read : FuncData
  F_lines_read : Fun K "lines_read" "lines_read" s_lines_read a_lines_read d_lines_read
  g_lines_read : mg "lines_read" = some (.ref a_lines_read)
  b_lines_read : Binds K d_lines_read ["text"] []
  a_deeds_fault : Addr
  d_deeds_fault : FuncData
  F_deeds_fault : Fun K "deeds_fault" "deeds_fault" s_deeds_fault a_deeds_fault d_deeds_fault
  g_deeds_fault : mg "deeds_fault" = some (.ref a_deeds_fault)
  b_deeds_fault : Binds K d_deeds_fault ["text"] []
  a_read_deeds : Addr
  d_read_deeds : FuncData
  F_read_deeds : Fun K "read_deeds" "read_deeds" s_read_deeds a_read_deeds d_read_deeds
  g_read_deeds : mg "read_deeds" = some (.ref a_read_deeds)
  b_read_deeds : Binds K d_read_deeds ["text"] []
  a_law_start : Addr
  d_law_start : FuncData
  F_law_start : Fun K "_law_start" "_law_start" s_law_start a_law_start d_law_start
  g_law_start : mg "_law_start" = some (.ref a_law_start)
  b_law_start : Binds K d_law_start ["script"] []
  a_law_below : Addr
  d_law_below : FuncData
  F_law_below : Fun K "_law_below" "_law_below" s_law_below a_law_below d_law_below
  g_law_below : mg "_law_below" = some (.ref a_law_below)
  b_law_below : Binds K d_law_below ["stream", "many"] []
  a_law_pick : Addr
  d_law_pick : FuncData
  F_law_pick : Fun K "_law_pick" "_law_pick" s_law_pick a_law_pick d_law_pick
  g_law_pick : mg "_law_pick" = some (.ref a_law_pick)
  b_law_pick : Binds K d_law_pick ["stream", "some"] []
  a_law_mixed : Addr
  d_law_mixed : FuncData
  F_law_mixed : Fun K "_law_mixed" "_law_mixed" s_law_mixed a_law_mixed d_law_mixed
  g_law_mixed : mg "_law_mixed" = some (.ref a_law_mixed)
  b_law_mixed : Binds K d_law_mixed ["stream", "some"] []
  a_law_same : Addr
  d_law_same : FuncData
  F_law_same : Fun K "_law_same" "_law_same" s_law_same a_law_same d_law_same
  g_law_same : mg "_law_same" = some (.ref a_law_same)
  b_law_same : Binds K d_law_same ["found", "due"] []
  a_law_loose : Addr
  d_law_loose : FuncData
  F_law_loose : Fun K "_law_loose" "_law_loose" s_law_loose a_law_loose d_law_loose
  g_law_loose : mg "_law_loose" = some (.ref a_law_loose)
  b_law_loose : Binds K d_law_loose ["stream", "thing"] []
  a_law_spoilt : Addr
  d_law_spoilt : FuncData
  F_law_spoilt : Fun K "_law_spoilt" "_law_spoilt" s_law_spoilt a_law_spoilt d_law_spoilt
  g_law_spoilt : mg "_law_spoilt" = some (.ref a_law_spoilt)
  b_law_spoilt : Binds K d_law_spoilt ["thing"] []
  a_law_is_once : Addr
  d_law_is_once : FuncData
  F_law_is_once : Fun K "_law_is_once" "_law_is_once" s_law_is_once a_law_is_once d_law_is_once
  g_law_is_once : mg "_law_is_once" = some (.ref a_law_is_once)
  b_law_is_once : Binds K d_law_is_once ["thing"] []
  a_law_apart : Addr
  d_law_apart : FuncData
  F_law_apart : Fun K "_law_apart" "_law_apart" s_law_apart a_law_apart d_law_apart
  g_law_apart : mg "_law_apart" = some (.ref a_law_apart)
  b_law_apart : Binds K d_law_apart ["thing"] []
  a_law_kkeys : Addr
  d_law_kkeys : FuncData
  F_law_kkeys : Fun K "_law_kkeys" "_law_kkeys" s_law_kkeys a_law_kkeys d_law_kkeys
  g_law_kkeys : mg "_law_kkeys" = some (.ref a_law_kkeys)
  b_law_kkeys : Binds K d_law_kkeys [] []
  a_law_vname : Addr
  d_law_vname : FuncData
  F_law_vname : Fun K "_law_vname" "_law_vname" s_law_vname a_law_vname d_law_vname
  g_law_vname : mg "_law_vname" = some (.ref a_law_vname)
  b_law_vname : Binds K d_law_vname ["word"] []
  a_law_voctet : Addr
  d_law_voctet : FuncData
  F_law_voctet : Fun K "_law_voctet" "_law_voctet" s_law_voctet a_law_voctet d_law_voctet
  g_law_voctet : mg "_law_voctet" = some (.ref a_law_voctet)
  b_law_voctet : Binds K d_law_voctet ["word"] []
  a_law_vline : Addr
  d_law_vline : FuncData
  F_law_vline : Fun K "_law_vline" "_law_vline" s_law_vline a_law_vline d_law_vline
  g_law_vline : mg "_law_vline" = some (.ref a_law_vline)
  b_law_vline : Binds K d_law_vline ["line"] []
  a_law_vfirst_bad : Addr
  d_law_vfirst_bad : FuncData
  F_law_vfirst_bad : Fun K "_law_vfirst_bad" "_law_vfirst_bad" s_law_vfirst_bad a_law_vfirst_bad d_law_vfirst_bad
  g_law_vfirst_bad : mg "_law_vfirst_bad" = some (.ref a_law_vfirst_bad)
  b_law_vfirst_bad : Binds K d_law_vfirst_bad ["text"] []
  a_law_vdeed : Addr
  d_law_vdeed : FuncData
  F_law_vdeed : Fun K "_law_vdeed" "_law_vdeed" s_law_vdeed a_law_vdeed d_law_vdeed
  g_law_vdeed : mg "_law_vdeed" = some (.ref a_law_vdeed)
  b_law_vdeed : Binds K d_law_vdeed ["stream"] []
  a_law_vtold : Addr
  d_law_vtold : FuncData
  F_law_vtold : Fun K "_law_vtold" "_law_vtold" s_law_vtold a_law_vtold d_law_vtold
  g_law_vtold : mg "_law_vtold" = some (.ref a_law_vtold)
  b_law_vtold : Binds K d_law_vtold ["deeds"] []
  a_law_vmet : Addr
  d_law_vmet : FuncData
  F_law_vmet : Fun K "_law_vmet" "_law_vmet" s_law_vmet a_law_vmet d_law_vmet
  g_law_vmet : mg "_law_vmet" = some (.ref a_law_vmet)
  b_law_vmet : Binds K d_law_vmet ["run"] []
  a_law : Addr
  d_law : FuncData
  F_law : Fun K "law" "law" s_law a_law d_law
  g_law : mg "law" = some (.ref a_law)
  b_law : Binds K d_law ["script"] []
  c_BadDeed : Addr
  fi_BadDeed : Addr
  di_BadDeed : FuncData
  FI_BadDeed : Fun K "__init__" "BadDeed.__init__" s_init_BadDeed fi_BadDeed di_BadDeed
  g_BadDeed : mg "BadDeed" = some (.ref c_BadDeed)
  bi_BadDeed : Binds K di_BadDeed ["self", "index"] []
  x_BadDeed : Sf.ExT K "BadDeed" "index" c_BadDeed fi_BadDeed
  c_BadLine : Addr
  fi_BadLine : Addr
  di_BadLine : FuncData
  FI_BadLine : Fun K "__init__" "BadLine.__init__" s_init_BadLine fi_BadLine di_BadLine
  g_BadLine : mg "BadLine" = some (.ref c_BadLine)
  bi_BadLine : Binds K di_BadLine ["self", "line"] []
  x_BadLine : Sf.ExT K "BadLine" "line" c_BadLine fi_BadLine
  t_LETTERS : Tok
  g_LETTERS : mg "LETTERS" = some (.str "abcdefghijklmnopqrstuvwxyz" t_LETTERS)
  t_FIGURES_signs : Tok
  g_FIGURES_signs : mg "FIGURES_signs" = some (.str "0123456789" t_FIGURES_signs)
  a_KEYS : Addr
  g_KEYS : mg "KEYS" = some (.ref a_KEYS)
  q_KEYS : ∀ F : Hp, Sf.Rp K F (.ref a_KEYS) (.tuple [(.str "signs"), (.str "kind"), (.str "filter"), (.str "from"), (.str "to"), (.str "height"), (.str "start"), (.str "at"), (.str "read"), (.str "when"), (.str "nought"), (.str "above"), (.str "up"), (.str "down"), (.str "write"), (.str "same"), (.str "go"), (.str "end"), (.str "pipe"), (.str "then")])
  a_SIZES : Addr
  g_SIZES : mg "SIZES" = some (.ref a_SIZES)
  q_SIZES : Sf.KdI K w a_SIZES [("put", 3), ("drop", 2), ("exchange", 3), ("chain", 3)]
  t_MOST : Tok
  g_MOST : mg "MOST" = some (.int 20000 t_MOST)
  t_LINKS : Tok
  g_LINKS : mg "LINKS" = some (.int 4 t_LINKS)
  t_FIGURES_deedtexts : Tok
  g_FIGURES_deedtexts : mg "FIGURES_deedtexts" = some (.str "0123456789" t_FIGURES_deedtexts)
  n_all : mg "all" = none
  n_bool : mg "bool" = none
  n_dict : mg "dict" = none
  n_enumerate : mg "enumerate" = none
  n_int : mg "int" = none
  n_isinstance : mg "isinstance" = none
  n_len : mg "len" = none
  n_list : mg "list" = none
  n_range : mg "range" = none
  n_str : mg "str" = none
  n_tuple : mg "tuple" = none
  n_zip : mg "zip" = none
end K39

set_option maxHeartbeats 8000000
namespace K39
open PySem L2 RZ Sf
section
variable {P : Program} {w : World} {K : PySem.W.Frag} {mg : Str → Option Value} {base : Heap}
theorem ok_init_BadDeed (T : Txt w K mg) : FnOk P w K mg base CX0 1 T.fi_BadDeed T.di_BadDeed ["self", "index"] (Sf.sp_exi K T.c_BadDeed "index") := by
  refine T.FI_BadDeed.ok sc_init_BadDeed (fun vs H Q E h => ?_) (fun cdv A outer s H vs Q E hr h => ⟨Sf.t_exi K "index", pss_one (ps_ost (pv 0) (pv 1)), Sf.rd_exi T.x_BadDeed h rfl⟩)
  obtain ⟨a, v, rfl, _⟩ := h
  rfl
theorem ok_init_BadLine (T : Txt w K mg) : FnOk P w K mg base CX0 1 T.fi_BadLine T.di_BadLine ["self", "line"] (Sf.sp_exi K T.c_BadLine "line") := by
  refine T.FI_BadLine.ok sc_init_BadLine (fun vs H Q E h => ?_) (fun cdv A outer s H vs Q E hr h => ⟨Sf.t_exi K "line", pss_one (ps_ost (pv 0) (pv 1)), Sf.rd_exi T.x_BadLine h rfl⟩)
  obtain ⟨a, v, rfl, _⟩ := h
  rfl
theorem ok_law_start (T : Txt w K mg) : FnOk P w K mg base CX0 1 T.a_law_start T.d_law_start ["script"] (sp_law_start K) := by
  refine T.F_law_start.ok sc_law_start (fun vs H Q E h => len_law_start h) (fun cdv A outer s H vs Q E hr h => ⟨t_law_start K, (pss_one (ps_ret (pe_lst (pa_cons (pe_callTy call_list_of (by rfl) T.n_list (by decide +kernel) (pa_cons (pv 0) pa_nil)) (pa_cons pe_int (pa_cons pe_int (pa_cons pe_int pa_nil))))))), rd_law_start h⟩)
theorem ok_law_below (T : Txt w K mg) : FnOk P w K mg base CX0 1 T.a_law_below T.d_law_below ["stream", "many"] (sp_law_below K) := by
  refine T.F_law_below.ok sc_law_below (fun vs H Q E h => len_law_below h) (fun cdv A outer s H vs Q E hr h => ⟨t_law_below K, (pss_cons (ps_asg (pe_op oAdd (pe_ix ix_seq (pv 0) pe_int (fun _ _ => rfl)) pe_int) (pg_sub (pv 0) pe_int set_list))
  (pss_cons (ps_while PassesOwn.never (PW.pt (pw_and (pt_cmpR (op_eqD hr.units) (pe_ix ix_seq (pv 0) pe_int (fun _ _ => rfl)) pe_int (nomark _)) (pw_and1 (pt_cmpR (op_neD hr.units) (pe_ix ix_seq (pv 0) pe_int (fun _ _ => rfl)) (pe_lst pa_nil) (nomark _)))))
   (pss_cons (ps_set (i := 3) sc_law_below.nd rfl (Or.inl rfl) (pe_bm PySem.F.plainAttrs_list PySem.F.slot_list_pop PySem.F.type_list_pop mt_popAt (pe_ix ix_seq (pv 0) pe_int (fun _ _ => rfl)) (pa_cons pe_int pa_nil)))
    (pss_cons (ps_asg (pe_op op_mod (pe_callTy call_int1 (by rfl) T.n_int (by decide +kernel) (pa_cons (pe_op oAdd (pe_op oAdd (pe_op oMul (pe_ix ix_seq (pv 0) pe_int (fun _ _ => rfl)) pe_int) (pv 3)) pe_int) pa_nil)) pe_int) (pg_sub (pv 0) pe_int set_list))
    (pss_one (ps_asg (pe_ifExp (pt_cmpR op_ge (pv 3) (pe_op op_pow pe_int pe_int) (nomark _)) (pv 3) pe_int) (pg_sub (pv 0) pe_int set_list))))))
  (pss_cons (ps_if (pt_cmpR op_gt (pe_ix ix_seq (pv 0) pe_int (fun _ _ => rfl)) pe_int (nomark _))
   (pss_cons (ps_set (i := 4) sc_law_below.nd rfl (Or.inl rfl) (pe_op op_mod (pe_callTy call_int1 (by rfl) T.n_int (by decide +kernel) (pa_cons (pe_ix ix_seq (pv 0) pe_int (fun _ _ => rfl)) pa_nil)) (pv 1)))
    (pss_cons (ps_asg (pe_op op_fdiv (pe_ix ix_seq (pv 0) pe_int (fun _ _ => rfl)) (pv 1)) (pg_sub (pv 0) pe_int set_list))
    (pss_one (ps_ret (pv 4)))))
   pss_nil)
  (pss_cons (ps_set (i := 2) sc_law_below.nd rfl (Or.inl rfl) (pe_op op_mod (pe_callTy call_int1 (by rfl) T.n_int (by decide +kernel) (pa_cons (pe_op op_pow (pe_op oAdd (pe_op oAdd (pe_ix ix_seq (pv 0) pe_int (fun _ _ => rfl)) (pe_op oMul pe_int (pe_ix ix_seq (pv 0) pe_int (fun _ _ => rfl)))) pe_int) pe_int) pa_nil)) pe_int))
  (pss_one (ps_ret (pe_op op_mod (pe_op op_mod (pe_callTy call_int1 (by rfl) T.n_int (by decide +kernel) (pa_cons (pe_op op_pow (pe_op oAdd (pe_op oAdd (pe_op oMul (pv 2) pe_int) (pe_op oMul pe_int (pe_ix ix_seq (pv 0) pe_int (fun _ _ => rfl)))) pe_int) pe_int) pa_nil)) pe_int) (pv 1)))))))), rd_law_below h⟩)
theorem okn_law_same (T : Txt w K mg) : ∀ n, FnOk P w K mg base CX0 (1 + 1 + n) T.a_law_same T.d_law_same ["found", "due"] (spn_law_same n K)
  | 0 => by
    have GR : FnOk P w K mg base CX0 1 T.a_law_same T.d_law_same ["found", "due"] (rc_law_same 0 K) := T.F_law_same.ok sc_law_same (fun _ _ _ _ h => h.elim) (fun _ _ _ _ _ _ _ _ _ h => h.elim)
    refine T.F_law_same.ok (k := 1) sc_law_same (fun vs H Q E h => len_law_same h) (fun cdv A outer s H vs Q E hr h => ⟨t_law_same K (rc_law_same 0 K), (pss_cons (ps_if (pt_truth (pe_callB call_isiT (by rfl) T.n_isinstance (by decide +kernel) (pa_cons (pv 1) (pa_cons (pe_tup (pa_cons (pe_bltn (by rfl) T.n_list (by decide +kernel) rfl) (pa_cons (pe_bltn (by rfl) T.n_tuple (by decide +kernel) rfl) pa_nil))) pa_nil))) (by intro _; rfl))
   (pss_cons (ps_if (PW.pt (pw_or (pt_cmpR (op_neD hr.units) (pe_callB call_isi (by rfl) T.n_isinstance (by decide +kernel) (pa_cons (pv 0) (pa_cons (pe_bltn (by rfl) T.n_list (by decide +kernel) rfl) pa_nil))) (pe_callB call_isi (by rfl) T.n_isinstance (by decide +kernel) (pa_cons (pv 1) (pa_cons (pe_bltn (by rfl) T.n_list (by decide +kernel) rfl) pa_nil))) (nomark _)) (pw_or1 (pt_cmpR (op_neD hr.units) (pe_callB call_isi (by rfl) T.n_isinstance (by decide +kernel) (pa_cons (pv 0) (pa_cons (pe_bltn (by rfl) T.n_tuple (by decide +kernel) rfl) pa_nil))) (pe_callB call_isi (by rfl) T.n_isinstance (by decide +kernel) (pa_cons (pv 1) (pa_cons (pe_bltn (by rfl) T.n_tuple (by decide +kernel) rfl) pa_nil))) (nomark _)))))
     (pss_one (ps_ret pe_bl))
     pss_nil)
    (pss_one (ps_ret (pe_andT (pe_cmpR (op_eqD hr.units) (pe_callB call_len (by rfl) T.n_len (by decide +kernel) (pa_cons (pv 0) pa_nil)) (pe_callB call_len (by rfl) T.n_len (by decide +kernel) (pa_cons (pv 1) pa_nil)) (nomark _)) (pe_one (pe_callB (cr_all rfl) (by rfl) T.n_all (by decide +kernel) (pa_cons (pe_lc (own := [("x", 2), ("y", 3)]) rfl sc_law_same.nd (pi_zipA (by rfl) T.n_zip (pa_cons (pv 0) (pa_cons (pv 1) pa_nil))) (blkOk_by (N := N_law_same) (sc := defScope s_law_same) (by decide +kernel)) (fun _ _ _ _ _ => (pg_tup (by rfl) (pgs_cons (pg_name (i := 2) sc_law_same.nd rfl (Or.inl rfl)) (pgs_cons (pg_name (i := 3) sc_law_same.nd rfl (Or.inl rfl)) pgs_nil)))) (fun _ _ _ _ _ => pts_nil) (fun _ _ _ _ _ => (pe_call GR (hr.mono (by omega)) (by rfl) T.g_law_same T.F_law_same.kp T.b_law_same .nil pass0 (pa_cons (pv 2) (pa_cons (pv 3) pa_nil))))) pa_nil)))))))
   pss_nil)
  (pss_cons (ps_if (pt_truth (pe_callB call_isi (by rfl) T.n_isinstance (by decide +kernel) (pa_cons (pv 1) (pa_cons (pe_bltn (by rfl) T.n_dict (by decide +kernel) rfl) pa_nil))) (by intro _; rfl))
   (pss_one ps_never)
   pss_nil)
  (pss_cons (ps_if (pt_truth (pe_callB call_isi (by rfl) T.n_isinstance (by decide +kernel) (pa_cons (pv 1) (pa_cons (pe_bltn (by rfl) T.n_int (by decide +kernel) rfl) pa_nil))) (by intro _; rfl))
   (pss_one (ps_ret (pe_andT (pe_callB call_isi (by rfl) T.n_isinstance (by decide +kernel) (pa_cons (pv 0) (pa_cons (pe_bltn (by rfl) T.n_int (by decide +kernel) rfl) pa_nil))) (pe_andT (pe_cmpR (op_eqD hr.units) (pe_callB call_isi (by rfl) T.n_isinstance (by decide +kernel) (pa_cons (pv 0) (pa_cons (pe_bltn (by rfl) T.n_bool (by decide +kernel) rfl) pa_nil))) (pe_callB call_isi (by rfl) T.n_isinstance (by decide +kernel) (pa_cons (pv 1) (pa_cons (pe_bltn (by rfl) T.n_bool (by decide +kernel) rfl) pa_nil))) (nomark _)) (pe_one (pe_cmpR (op_eqD hr.units) (pv 0) (pv 1) (nomark _)))))))
   pss_nil)
  (pss_cons (ps_if (pt_cmpR op_isN (pv 1) pe_non (nomark _))
   (pss_one (ps_ret (pe_cmpR op_isN (pv 0) pe_non (nomark _))))
   pss_nil)
  (pss_cons (ps_if (pt_truth (pe_callB call_isi (by rfl) T.n_isinstance (by decide +kernel) (pa_cons (pv 1) (pa_cons (pe_bltn (by rfl) T.n_str (by decide +kernel) rfl) pa_nil))) (by intro _; rfl))
   (pss_one (ps_ret (pe_andT (pe_callB call_isi (by rfl) T.n_isinstance (by decide +kernel) (pa_cons (pv 0) (pa_cons (pe_bltn (by rfl) T.n_str (by decide +kernel) rfl) pa_nil))) (pe_one (pe_cmpR (op_eqD hr.units) (pv 0) (pv 1) (nomark _))))))
   pss_nil)
  (pss_one ps_never)))))), rd_law_same 0 h⟩)
  | n + 1 => by
    have GR : FnOk P w K mg base CX0 (1 + 1 + n) T.a_law_same T.d_law_same ["found", "due"] (rc_law_same (n + 1) K) := okn_law_same T n
    refine T.F_law_same.ok (k := 1 + 1 + n) sc_law_same (fun vs H Q E h => len_law_same h) (fun cdv A outer s H vs Q E hr h => ⟨t_law_same K (rc_law_same (n + 1) K), (pss_cons (ps_if (pt_truth (pe_callB call_isiT (by rfl) T.n_isinstance (by decide +kernel) (pa_cons (pv 1) (pa_cons (pe_tup (pa_cons (pe_bltn (by rfl) T.n_list (by decide +kernel) rfl) (pa_cons (pe_bltn (by rfl) T.n_tuple (by decide +kernel) rfl) pa_nil))) pa_nil))) (by intro _; rfl))
   (pss_cons (ps_if (PW.pt (pw_or (pt_cmpR (op_neD hr.units) (pe_callB call_isi (by rfl) T.n_isinstance (by decide +kernel) (pa_cons (pv 0) (pa_cons (pe_bltn (by rfl) T.n_list (by decide +kernel) rfl) pa_nil))) (pe_callB call_isi (by rfl) T.n_isinstance (by decide +kernel) (pa_cons (pv 1) (pa_cons (pe_bltn (by rfl) T.n_list (by decide +kernel) rfl) pa_nil))) (nomark _)) (pw_or1 (pt_cmpR (op_neD hr.units) (pe_callB call_isi (by rfl) T.n_isinstance (by decide +kernel) (pa_cons (pv 0) (pa_cons (pe_bltn (by rfl) T.n_tuple (by decide +kernel) rfl) pa_nil))) (pe_callB call_isi (by rfl) T.n_isinstance (by decide +kernel) (pa_cons (pv 1) (pa_cons (pe_bltn (by rfl) T.n_tuple (by decide +kernel) rfl) pa_nil))) (nomark _)))))
     (pss_one (ps_ret pe_bl))
     pss_nil)
    (pss_one (ps_ret (pe_andT (pe_cmpR (op_eqD hr.units) (pe_callB call_len (by rfl) T.n_len (by decide +kernel) (pa_cons (pv 0) pa_nil)) (pe_callB call_len (by rfl) T.n_len (by decide +kernel) (pa_cons (pv 1) pa_nil)) (nomark _)) (pe_one (pe_callB (cr_all rfl) (by rfl) T.n_all (by decide +kernel) (pa_cons (pe_lc (own := [("x", 2), ("y", 3)]) rfl sc_law_same.nd (pi_zipA (by rfl) T.n_zip (pa_cons (pv 0) (pa_cons (pv 1) pa_nil))) (blkOk_by (N := N_law_same) (sc := defScope s_law_same) (by decide +kernel)) (fun _ _ _ _ _ => (pg_tup (by rfl) (pgs_cons (pg_name (i := 2) sc_law_same.nd rfl (Or.inl rfl)) (pgs_cons (pg_name (i := 3) sc_law_same.nd rfl (Or.inl rfl)) pgs_nil)))) (fun _ _ _ _ _ => pts_nil) (fun _ _ _ _ _ => (pe_call GR (hr.mono (by omega)) (by rfl) T.g_law_same T.F_law_same.kp T.b_law_same .nil pass0 (pa_cons (pv 2) (pa_cons (pv 3) pa_nil))))) pa_nil)))))))
   pss_nil)
  (pss_cons (ps_if (pt_truth (pe_callB call_isi (by rfl) T.n_isinstance (by decide +kernel) (pa_cons (pv 1) (pa_cons (pe_bltn (by rfl) T.n_dict (by decide +kernel) rfl) pa_nil))) (by intro _; rfl))
   (pss_one ps_never)
   pss_nil)
  (pss_cons (ps_if (pt_truth (pe_callB call_isi (by rfl) T.n_isinstance (by decide +kernel) (pa_cons (pv 1) (pa_cons (pe_bltn (by rfl) T.n_int (by decide +kernel) rfl) pa_nil))) (by intro _; rfl))
   (pss_one (ps_ret (pe_andT (pe_callB call_isi (by rfl) T.n_isinstance (by decide +kernel) (pa_cons (pv 0) (pa_cons (pe_bltn (by rfl) T.n_int (by decide +kernel) rfl) pa_nil))) (pe_andT (pe_cmpR (op_eqD hr.units) (pe_callB call_isi (by rfl) T.n_isinstance (by decide +kernel) (pa_cons (pv 0) (pa_cons (pe_bltn (by rfl) T.n_bool (by decide +kernel) rfl) pa_nil))) (pe_callB call_isi (by rfl) T.n_isinstance (by decide +kernel) (pa_cons (pv 1) (pa_cons (pe_bltn (by rfl) T.n_bool (by decide +kernel) rfl) pa_nil))) (nomark _)) (pe_one (pe_cmpR (op_eqD hr.units) (pv 0) (pv 1) (nomark _)))))))
   pss_nil)
  (pss_cons (ps_if (pt_cmpR op_isN (pv 1) pe_non (nomark _))
   (pss_one (ps_ret (pe_cmpR op_isN (pv 0) pe_non (nomark _))))
   pss_nil)
  (pss_cons (ps_if (pt_truth (pe_callB call_isi (by rfl) T.n_isinstance (by decide +kernel) (pa_cons (pv 1) (pa_cons (pe_bltn (by rfl) T.n_str (by decide +kernel) rfl) pa_nil))) (by intro _; rfl))
   (pss_one (ps_ret (pe_andT (pe_callB call_isi (by rfl) T.n_isinstance (by decide +kernel) (pa_cons (pv 0) (pa_cons (pe_bltn (by rfl) T.n_str (by decide +kernel) rfl) pa_nil))) (pe_one (pe_cmpR (op_eqD hr.units) (pv 0) (pv 1) (nomark _))))))
   pss_nil)
  (pss_one ps_never)))))), rd_law_same (n + 1) h⟩)
theorem ok_law_same (T : Txt w K mg) : FnOk P w K mg base CX0 10 T.a_law_same T.d_law_same ["found", "due"] (sp_law_same K) := okn_law_same T 8

theorem okn_law_loose (T : Txt w K mg) : ∀ n, FnOk P w K mg base CX0 (2 + 1 + n) T.a_law_loose T.d_law_loose ["stream", "thing"] (spn_law_loose n K)
  | 0 => by
    have G_law_below : FnOk P w K mg base CX0 1 T.a_law_below T.d_law_below ["stream", "many"] (sp_law_below K) := ok_law_below T
    have GR : FnOk P w K mg base CX0 2 T.a_law_loose T.d_law_loose ["stream", "thing"] (rc_law_loose 0 K) := T.F_law_loose.ok sc_law_loose (fun _ _ _ _ h => h.elim) (fun _ _ _ _ _ _ _ _ _ h => h.elim)
    refine T.F_law_loose.ok (k := 2) sc_law_loose (fun vs H Q E h => len_law_loose h) (fun cdv A outer s H vs Q E hr h => ⟨t_law_loose K (rc_law_loose 0 K), (pss_cons (ps_if (pt_truth (pe_callB call_isi (by rfl) T.n_isinstance (by decide +kernel) (pa_cons (pv 1) (pa_cons (pe_bltn (by rfl) T.n_dict (by decide +kernel) rfl) pa_nil))) (by intro _; rfl))
   (pss_one ps_never)
   pss_nil)
  (pss_cons (ps_if (pt_not (pt_truth (pe_callB call_isiT (by rfl) T.n_isinstance (by decide +kernel) (pa_cons (pv 1) (pa_cons (pe_tup (pa_cons (pe_bltn (by rfl) T.n_list (by decide +kernel) rfl) (pa_cons (pe_bltn (by rfl) T.n_tuple (by decide +kernel) rfl) pa_nil))) pa_nil))) (by intro _; rfl)))
   (pss_one (ps_ret (pv 1)))
   pss_nil)
  (pss_cons (ps_setLc (i := 2) (own := [("part", 3)]) rfl sc_law_loose.nd rfl rfl (sw_true rfl rfl rfl (by decide +kernel)) (pi_seq (pv 1)) (blkOk_by (N := N_law_loose) (sc := defScope s_law_loose) (by decide +kernel)) (fun _ _ _ _ _ => (pg_name (i := 3) sc_law_loose.nd rfl (Or.inl rfl))) (fun _ _ _ _ _ => pts_nil) (fun _ _ _ _ _ => (pe_call GR (hr.mono (by omega)) (by rfl) T.g_law_loose T.F_law_loose.kp T.b_law_loose .nil pass0 (pa_cons (pv 0) (pa_cons (pv 3) pa_nil)))))
  (pss_one (ps_ret (pe_ifExp (pt_cmpR (op_eqD hr.units) (pe_call G_law_below (hr.mono (by omega)) (by rfl) T.g_law_below T.F_law_below.kp T.b_law_below .nil pass0 (pa_cons (pv 0) (pa_cons pe_int pa_nil))) pe_int (nomark _)) (pv 2) (pe_callTy call_tuple_of (by rfl) T.n_tuple (by decide +kernel) (pa_cons (pv 2) pa_nil)))))))), rd_law_loose 0 h⟩)
  | n + 1 => by
    have G_law_below : FnOk P w K mg base CX0 1 T.a_law_below T.d_law_below ["stream", "many"] (sp_law_below K) := ok_law_below T
    have GR : FnOk P w K mg base CX0 (2 + 1 + n) T.a_law_loose T.d_law_loose ["stream", "thing"] (rc_law_loose (n + 1) K) := okn_law_loose T n
    refine T.F_law_loose.ok (k := 2 + 1 + n) sc_law_loose (fun vs H Q E h => len_law_loose h) (fun cdv A outer s H vs Q E hr h => ⟨t_law_loose K (rc_law_loose (n + 1) K), (pss_cons (ps_if (pt_truth (pe_callB call_isi (by rfl) T.n_isinstance (by decide +kernel) (pa_cons (pv 1) (pa_cons (pe_bltn (by rfl) T.n_dict (by decide +kernel) rfl) pa_nil))) (by intro _; rfl))
   (pss_one ps_never)
   pss_nil)
  (pss_cons (ps_if (pt_not (pt_truth (pe_callB call_isiT (by rfl) T.n_isinstance (by decide +kernel) (pa_cons (pv 1) (pa_cons (pe_tup (pa_cons (pe_bltn (by rfl) T.n_list (by decide +kernel) rfl) (pa_cons (pe_bltn (by rfl) T.n_tuple (by decide +kernel) rfl) pa_nil))) pa_nil))) (by intro _; rfl)))
   (pss_one (ps_ret (pv 1)))
   pss_nil)
  (pss_cons (ps_setLc (i := 2) (own := [("part", 3)]) rfl sc_law_loose.nd rfl rfl (sw_true rfl rfl rfl (by decide +kernel)) (pi_seq (pv 1)) (blkOk_by (N := N_law_loose) (sc := defScope s_law_loose) (by decide +kernel)) (fun _ _ _ _ _ => (pg_name (i := 3) sc_law_loose.nd rfl (Or.inl rfl))) (fun _ _ _ _ _ => pts_nil) (fun _ _ _ _ _ => (pe_call GR (hr.mono (by omega)) (by rfl) T.g_law_loose T.F_law_loose.kp T.b_law_loose .nil pass0 (pa_cons (pv 0) (pa_cons (pv 3) pa_nil)))))
  (pss_one (ps_ret (pe_ifExp (pt_cmpR (op_eqD hr.units) (pe_call G_law_below (hr.mono (by omega)) (by rfl) T.g_law_below T.F_law_below.kp T.b_law_below .nil pass0 (pa_cons (pv 0) (pa_cons pe_int pa_nil))) pe_int (nomark _)) (pv 2) (pe_callTy call_tuple_of (by rfl) T.n_tuple (by decide +kernel) (pa_cons (pv 2) pa_nil)))))))), rd_law_loose (n + 1) h⟩)
theorem ok_law_loose (T : Txt w K mg) : FnOk P w K mg base CX0 11 T.a_law_loose T.d_law_loose ["stream", "thing"] (sp_law_loose K) := okn_law_loose T 8

theorem ok_is_row (T : Txt w K mg) : FnOk P w K mg base CX0 1 T.a_is_row T.d_is_row ["thing"] (sp_is_row K) := by
  refine T.F_is_row.ok sc_is_row (fun vs H Q E h => len_is_row h) (fun cdv A outer s H vs Q E hr h => ⟨t_is_row K, (pss_one (ps_ret (pe_callB call_isiT (by rfl) T.n_isinstance (by decide +kernel) (pa_cons (pv 0) (pa_cons (pe_tup (pa_cons (pe_bltn (by rfl) T.n_list (by decide +kernel) rfl) (pa_cons (pe_bltn (by rfl) T.n_tuple (by decide +kernel) rfl) pa_nil))) pa_nil))))), rd_is_row h⟩)
theorem ok_is_number (T : Txt w K mg) : FnOk P w K mg base CX0 1 T.a_is_number T.d_is_number ["thing", "low", "high"] (sp_is_number K) := by
  refine ok_spP T.F_is_number sc_is_number (fun _ => rfl) (fun cdv A outer s H E F i vs hr e rs hp => ⟨t_is_number K, (pss_one (ps_ret (pe_andT (pe_callB call_isi (by rfl) T.n_isinstance (by decide +kernel) (pa_cons (pv 0) (pa_cons (pe_bltn (by rfl) T.n_int (by decide +kernel) rfl) pa_nil))) (pe_andT (pe_notT (pe_callB call_isi (by rfl) T.n_isinstance (by decide +kernel) (pa_cons (pv 0) (pa_cons (pe_bltn (by rfl) T.n_bool (by decide +kernel) rfl) pa_nil)))) (pe_one (pe_chain op_le op_le (pv 1) (pv 0) (pv 2))))))), fun D hn q => rd_is_number' i.1 i.2.1 i.2.2 e rs hp D hn q⟩)
theorem ok_is_name (T : Txt w K mg) : FnOk P w K mg base CX0 1 T.a_is_name T.d_is_name ["thing"] (sp_is_name K) := by
  refine ok_spP T.F_is_name sc_is_name (fun _ => rfl) (fun cdv A outer s H E F i vs hr e rs hp => ⟨t_is_name K, (pss_cons (ps_if (PW.pt (pw_or (pt_not (pt_truth (pe_callB call_isi (by rfl) T.n_isinstance (by decide +kernel) (pa_cons (pv 0) (pa_cons (pe_bltn (by rfl) T.n_str (by decide +kernel) rfl) pa_nil))) (by intro _; rfl))) (pw_or (pt_not (pt_chain op_le op_le pe_int (pe_callB call_len (by rfl) T.n_len (by decide +kernel) (pa_cons (pv 0) pa_nil)) pe_int)) (pw_or (pt_cmpR op_in_seq (pv 0) (pe_glD (v := .ref T.a_KEYS) (by rfl) T.g_KEYS rfl T.q_KEYS) (by rfl)) (pw_or1 (pt_cmpR op_notIn_sign (pe_ix ix_seq (pv 0) pe_int (fun _ _ => rfl)) (pe_glob (by rfl) T.g_LETTERS ⟨_, rfl⟩) (by rfl)))))))
   (pss_one (ps_ret pe_bl))
   pss_nil)
  (pss_one (ps_ret (pe_cmpR (op_eqD hr.units) (pe_lc (own := [("sign", 1)]) rfl sc_is_name.nd (pi_str (pv 0)) (blkOk_by (N := N_is_name) (sc := defScope s_is_name) (by decide +kernel)) (fun _ _ _ _ _ => (pg_name (i := 1) sc_is_name.nd rfl (Or.inl rfl))) (fun _ _ _ _ _ => pts_one (pt_cmpR op_notIn_sign (pv 1) (pe_op op_add_str (pe_glob (by rfl) T.g_LETTERS ⟨_, rfl⟩) (pe_glob (by rfl) T.g_FIGURES_signs ⟨_, rfl⟩)) (by rfl))) (fun _ _ _ _ _ => (pv 1))) (pe_lst pa_nil) (nomark _))))), fun D hn q => rd_is_name' i e rs hp D hn q⟩)
theorem ok_is_octets (T : Txt w K mg) : FnOk P w K mg base CX0 2 T.a_is_octets T.d_is_octets ["thing"] (sp_is_octets K) := by
  have G_is_row : FnOk P w K mg base CX0 1 T.a_is_row T.d_is_row ["thing"] (sp_is_row K) := ok_is_row T
  have G_is_number : FnOk P w K mg base CX0 1 T.a_is_number T.d_is_number ["thing", "low", "high"] (sp_is_number K) := ok_is_number T
  refine ok_spP T.F_is_octets sc_is_octets (fun _ => rfl) (fun cdv A outer s H E F i vs hr e rs hp => ⟨t_is_octets K, (pss_one (ps_ret (pe_andT (pe_call G_is_row (hr.mono (by omega)) (by rfl) T.g_is_row T.F_is_row.kp T.b_is_row .nil pass0 (pa_cons (pv 0) pa_nil)) (pe_one (pe_cmpR (op_eqD hr.units) (pe_lc (own := [("one", 1)]) rfl sc_is_octets.nd (pi_seq (pv 0)) (blkOk_by (N := N_is_octets) (sc := defScope s_is_octets) (by decide +kernel)) (fun _ _ _ _ _ => (pg_name (i := 1) sc_is_octets.nd rfl (Or.inl rfl))) (fun _ _ _ _ _ => pts_one (pt_not (pt_truth (pe_call G_is_number (hr.mono (by omega)) (by rfl) T.g_is_number T.F_is_number.kp T.b_is_number .nil pass0 (pa_cons (pv 1) (pa_cons pe_int (pa_cons pe_int pa_nil)))) (by intro _; rfl)))) (fun _ _ _ _ _ => (pv 1))) (pe_lst pa_nil) (nomark _)))))), fun D hn q => rd_is_octets' i e rs hp D hn q⟩)
theorem ok_octet_of (T : Txt w K mg) : FnOk P w K mg base CX0 1 T.a_octet_of T.d_octet_of ["word"] (sp_octet_of K) := by
  refine ok_spP T.F_octet_of sc_octet_of (fun _ => rfl) (fun cdv A outer s H E F i vs hr e rs hp => ⟨t_octet_of K, (pss_cons (ps_if (PW.pt (pw_or (pt_not (pt_chain op_le op_le pe_int (pe_callB call_len (by rfl) T.n_len (by decide +kernel) (pa_cons (pv 0) pa_nil)) pe_int)) (pw_or (pt_truth (pe_lc (own := [("sign", 1)]) rfl sc_octet_of.nd (pi_str (pv 0)) (blkOk_by (N := N_octet_of) (sc := defScope s_octet_of) (by decide +kernel)) (fun _ _ _ _ _ => (pg_name (i := 1) sc_octet_of.nd rfl (Or.inl rfl))) (fun _ _ _ _ _ => pts_one (pt_cmpR op_notIn_sign (pv 1) (pe_glob (by rfl) T.g_FIGURES_deedtexts ⟨_, rfl⟩) (by rfl))) (fun _ _ _ _ _ => (pv 1))) (by intro _; rfl)) (pw_or1 (PW.pt (pw_and (pt_cmpR (op_eqD hr.units) (pe_ix ix_seq (pv 0) pe_int (fun _ _ => rfl)) pe_str (nomark _)) (pw_and1 (pt_cmpR (op_neD hr.units) (pv 0) pe_str (nomark _)))))))))
   (pss_one (ps_ret pe_non))
   pss_nil)
  (pss_one (ps_ret (pe_ifExp (pt_cmpR op_lt (pe_callTy call_int_str (by rfl) T.n_int (by decide +kernel) (pa_cons (pv 0) pa_nil)) pe_int (nomark _)) (pe_callTy call_int_str (by rfl) T.n_int (by decide +kernel) (pa_cons (pv 0) pa_nil)) pe_non)))), fun D hn q => rd_octet_of' i e rs hp D hn q⟩)
theorem ok_is_deed (T : Txt w K mg) : FnOk P w K mg base CX0 2 T.a_is_deed T.d_is_deed ["thing"] (sp_is_deed K) := by
  have G_is_row : FnOk P w K mg base CX0 1 T.a_is_row T.d_is_row ["thing"] (sp_is_row K) := ok_is_row T
  refine ok_spP T.F_is_deed sc_is_deed (fun _ => rfl) (fun cdv A outer s H E F i vs hr e rs hp => ⟨t_is_deed K w, (pss_cons (ps_if (PW.pt (pw_or (pt_not (pt_truth (pe_call G_is_row (hr.mono (by omega)) (by rfl) T.g_is_row T.F_is_row.kp T.b_is_row .nil pass0 (pa_cons (pv 0) pa_nil)) (by intro _; rfl))) (pw_or (pt_not (pt_truth (pv 0) (by intro _; rfl))) (pw_or1 (pt_not (pt_truth (pe_callB call_isi (by rfl) T.n_isinstance (by decide +kernel) (pa_cons (pe_ix ix_seq (pv 0) pe_int (fun _ _ => rfl)) (pa_cons (pe_bltn (by rfl) T.n_str (by decide +kernel) rfl) pa_nil))) (by intro _; rfl)))))))
   (pss_one (ps_ret pe_bl))
   pss_nil)
  (pss_one (ps_ret (pe_andT (pe_cmpR op_inKd (pe_ix ix_seq (pv 0) pe_int (fun _ _ => rfl)) (pe_kd (by rfl) T.g_SIZES T.q_SIZES) (by rfl)) (pe_one (pe_cmpR (op_eqD hr.units) (pe_callB call_len (by rfl) T.n_len (by decide +kernel) (pa_cons (pv 0) pa_nil)) (pe_ix ix_kd (pe_kd (by rfl) T.g_SIZES T.q_SIZES) (pe_ix ix_seq (pv 0) pe_int (fun _ _ => rfl)) (fun _ _ => rfl)) (nomark _))))))), fun D hn q => rd_is_deed' i e rs hp D hn q⟩)
theorem ok_rest_in (T : Txt w K mg) : FnOk P w K mg base CX0 3 T.a_rest_in T.d_rest_in ["word", "thing"] (sp_rest_in K) := by
  have G_is_row : FnOk P w K mg base CX0 1 T.a_is_row T.d_is_row ["thing"] (sp_is_row K) := ok_is_row T
  have G_is_name : FnOk P w K mg base CX0 1 T.a_is_name T.d_is_name ["thing"] (sp_is_name K) := ok_is_name T
  have G_is_octets : FnOk P w K mg base CX0 2 T.a_is_octets T.d_is_octets ["thing"] (sp_is_octets K) := ok_is_octets T
  refine ok_spP T.F_rest_in sc_rest_in (fun _ => rfl) (fun cdv A outer s H E F i vs hr e rs hp => ⟨t_rest_in K, (pss_cons (ps_if (pt_cmpR (op_eqD hr.units) (pv 0) pe_str (nomark _))
   (pss_cons (ps_set (i := 2) sc_rest_in.nd rfl (Or.inl rfl) (pe_andT (pe_call G_is_row (hr.mono (by omega)) (by rfl) T.g_is_row T.F_is_row.kp T.b_is_row .nil pass0 (pa_cons (pv 1) pa_nil)) (pe_andT (pe_chain op_le op_le pe_int (pe_callB call_len (by rfl) T.n_len (by decide +kernel) (pa_cons (pv 1) pa_nil)) (pe_glob (by rfl) T.g_LINKS ⟨_, rfl⟩)) (pe_one (pe_cmpR (op_eqD hr.units) (pe_lc (own := [("one", 3)]) rfl sc_rest_in.nd (pi_seq (pv 1)) (blkOk_by (N := N_rest_in) (sc := defScope s_rest_in) (by decide +kernel)) (fun _ _ _ _ _ => (pg_name (i := 3) sc_rest_in.nd rfl (Or.inl rfl))) (fun _ _ _ _ _ => pts_one (pt_not (pt_truth (pe_call G_is_name (hr.mono (by omega)) (by rfl) T.g_is_name T.F_is_name.kp T.b_is_name .nil pass0 (pa_cons (pv 3) pa_nil)) (by intro _; rfl)))) (fun _ _ _ _ _ => (pv 3))) (pe_lst pa_nil) (nomark _))))))
    (pss_one (ps_ret (pe_ifExp (pt_truth (pv 2) (by intro _; rfl)) (pe_callTy call_tuple_of (by rfl) T.n_tuple (by decide +kernel) (pa_cons (pv 1) pa_nil)) pe_non))))
   pss_nil)
  (pss_one (ps_ret (pe_ifExp (PW.pt (pw_and (pt_truth (pe_call G_is_octets (hr.mono (by omega)) (by rfl) T.g_is_octets T.F_is_octets.kp T.b_is_octets .nil pass0 (pa_cons (pv 1) pa_nil)) (by intro _; rfl)) (pw_and1 (pt_chain op_le op_le pe_int (pe_callB call_len (by rfl) T.n_len (by decide +kernel) (pa_cons (pv 1) pa_nil)) (pe_glob (by rfl) T.g_MOST ⟨_, rfl⟩))))) (pe_callTy call_tuple_of (by rfl) T.n_tuple (by decide +kernel) (pa_cons (pv 1) pa_nil)) pe_non)))), fun D hn q => rd_rest_in' i.1 i.2 e rs hp D hn q⟩)
theorem ok_plain_deed (T : Txt w K mg) : FnOk P w K mg base CX0 4 T.a_plain_deed T.d_plain_deed ["thing"] (sp_plain_deed K) := by
  have G_is_deed : FnOk P w K mg base CX0 2 T.a_is_deed T.d_is_deed ["thing"] (sp_is_deed K) := ok_is_deed T
  have G_is_name : FnOk P w K mg base CX0 1 T.a_is_name T.d_is_name ["thing"] (sp_is_name K) := ok_is_name T
  have G_rest_in : FnOk P w K mg base CX0 3 T.a_rest_in T.d_rest_in ["word", "thing"] (sp_rest_in K) := ok_rest_in T
  refine ok_spP T.F_plain_deed sc_plain_deed (fun _ => rfl) (fun cdv A outer s H E F i vs hr e rs hp => ⟨t_plain_deed K, (pss_cons (ps_if (PW.pt (pw_or (pt_not (pt_truth (pe_call G_is_deed (hr.mono (by omega)) (by rfl) T.g_is_deed T.F_is_deed.kp T.b_is_deed .nil pass0 (pa_cons (pv 0) pa_nil)) (by intro _; rfl))) (pw_or1 (pt_not (pt_truth (pe_call G_is_name (hr.mono (by omega)) (by rfl) T.g_is_name T.F_is_name.kp T.b_is_name .nil pass0 (pa_cons (pe_ix ix_seq (pv 0) pe_int (fun _ _ => rfl)) pa_nil)) (by intro _; rfl))))))
   (pss_one (ps_ret pe_non))
   pss_nil)
  (pss_cons (ps_if (pt_cmpR (op_eqD hr.units) (pe_ix ix_seq (pv 0) pe_int (fun _ _ => rfl)) pe_str (nomark _))
   (pss_one (ps_ret (pe_callTy call_tuple_of (by rfl) T.n_tuple (by decide +kernel) (pa_cons (pv 0) pa_nil))))
   pss_nil)
  (pss_cons (ps_set (i := 1) sc_plain_deed.nd rfl (Or.inl rfl) (pe_call G_rest_in (hr.mono (by omega)) (by rfl) T.g_rest_in T.F_rest_in.kp T.b_rest_in .nil pass0 (pa_cons (pe_ix ix_seq (pv 0) pe_int (fun _ _ => rfl)) (pa_cons (pe_ix ix_seq (pv 0) pe_int (fun _ _ => rfl)) pa_nil))))
  (pss_one (ps_ret (pe_ifExp (pt_cmpR op_isN (pv 1) pe_non (nomark _)) pe_non (pe_tup (pa_cons (pe_ix ix_seq (pv 0) pe_int (fun _ _ => rfl)) (pa_cons (pe_ix ix_seq (pv 0) pe_int (fun _ _ => rfl)) (pa_cons (pv 1) pa_nil)))))))))), fun D hn q => rd_plain_deed' i e rs hp D hn q⟩)
theorem ok_deed_of (T : Txt w K mg) : FnOk P w K mg base CX0 5 T.a_deed_of T.d_deed_of ["line"] (sp_deed_of K) := by
  have G_plain_deed : FnOk P w K mg base CX0 4 T.a_plain_deed T.d_plain_deed ["thing"] (sp_plain_deed K) := ok_plain_deed T
  have G_octet_of : FnOk P w K mg base CX0 1 T.a_octet_of T.d_octet_of ["word"] (sp_octet_of K) := ok_octet_of T
  refine ok_spP T.F_deed_of sc_deed_of (fun _ => rfl) (fun cdv A outer s H E F i vs hr e rs hp => ⟨t_deed_of K, (pss_cons (ps_set (i := 1) sc_deed_of.nd rfl (Or.inl rfl) (pe_split (pv 0) pe_str))
  (pss_cons (ps_if (PW.pt (pw_or (pt_cmpR (op_eqD hr.units) (pe_ix ix_seq (pv 1) pe_int (fun _ _ => rfl)) pe_str (nomark _)) (pw_or1 (pt_cmpR op_lt (pe_callB call_len (by rfl) T.n_len (by decide +kernel) (pa_cons (pv 1) pa_nil)) pe_int (nomark _)))))
   (pss_one (ps_ret (pe_call G_plain_deed (hr.mono (by omega)) (by rfl) T.g_plain_deed T.F_plain_deed.kp T.b_plain_deed .nil pass0 (pa_cons (pv 1) pa_nil))))
   pss_nil)
  (pss_cons (ps_set (i := 2) sc_deed_of.nd rfl (Or.inl rfl) (pe_ifExp (pt_cmpR (op_eqD hr.units) (pe_ix ix_seq (pv 1) pe_int (fun _ _ => rfl)) pe_str (nomark _)) (pe_slice sl_seq (pv 1) (po_some pe_int) po_none) (pe_lc (own := [("word", 3)]) rfl sc_deed_of.nd (pi_seq (pe_slice sl_seq (pv 1) (po_some pe_int) po_none)) (blkOk_by (N := N_deed_of) (sc := defScope s_deed_of) (by decide +kernel)) (fun _ _ _ _ _ => (pg_name (i := 3) sc_deed_of.nd rfl (Or.inl rfl))) (fun _ _ _ _ _ => pts_nil) (fun _ _ _ _ _ => (pe_call G_octet_of (hr.mono (by omega)) (by rfl) T.g_octet_of T.F_octet_of.kp T.b_octet_of .nil pass0 (pa_cons (pv 3) pa_nil))))))
  (pss_one (ps_ret (pe_ifExp (pt_cmpR op_in_seq pe_non (pv 2) (by rfl)) pe_non (pe_call G_plain_deed (hr.mono (by omega)) (by rfl) T.g_plain_deed T.F_plain_deed.kp T.b_plain_deed .nil pass0 (pa_cons (pe_lst (pa_cons (pe_ix ix_seq (pv 1) pe_int (fun _ _ => rfl)) (pa_cons (pe_ix ix_seq (pv 1) pe_int (fun _ _ => rfl)) (pa_cons (pv 2) pa_nil)))) pa_nil)))))))), fun D hn q => rd_deed_of' i e rs hp D hn q⟩)
theorem ok_lines_read (T : Txt w K mg) : FnOk P w K mg base CX0 6 T.a_lines_read T.d_lines_read ["text"] (sp_lines_read K) := by
  have G_deed_of : FnOk P w K mg base CX0 5 T.a_deed_of T.d_deed_of ["line"] (sp_deed_of K) := ok_deed_of T
  refine ok_spP T.F_lines_read sc_lines_read (fun _ => rfl) (fun cdv A outer s H E F i vs hr e rs hp => ⟨t_lines_read K, (pss_cons (ps_set (i := 1) sc_lines_read.nd rfl (Or.inl rfl) (pe_lst pa_nil))
  (pss_cons (ps_if (pt_not (pt_truth (pe_callB call_isi (by rfl) T.n_isinstance (by decide +kernel) (pa_cons (pv 0) (pa_cons (pe_bltn (by rfl) T.n_str (by decide +kernel) rfl) pa_nil))) (by intro _; rfl)))
   (pss_one (ps_ret (pe_tup (pa_cons (pv 1) (pa_cons pe_int pa_nil)))))
   pss_nil)
  (pss_cons (ps_set (i := 2) sc_lines_read.nd rfl (Or.inl rfl) (pe_split (pv 0) pe_str))
  (pss_cons (ps_for PassesOwn.never rfl (pi_enumK (by rfl) T.n_enumerate (pa_cons (pe_slice sl_seq (pv 2) po_none (po_some (pe_un un_neg pe_int))) (pa_cons pe_int pa_nil))) (pg_tup (by rfl) (pgs_cons (pg_name (i := 3) sc_lines_read.nd rfl (Or.inl rfl)) (pgs_cons (pg_name (i := 4) sc_lines_read.nd rfl (Or.inl rfl)) pgs_nil)))
   (pss_cons (ps_set (i := 5) sc_lines_read.nd rfl (Or.inl rfl) (pe_call G_deed_of (hr.mono (by omega)) (by rfl) T.g_deed_of T.F_deed_of.kp T.b_deed_of .nil pass0 (pa_cons (pv 4) pa_nil)))
    (pss_cons (ps_if (pt_cmpR op_isN (pv 5) pe_non (nomark _))
     (pss_one (ps_ret (pe_tup (pa_cons (pv 1) (pa_cons (pv 3) pa_nil)))))
     pss_nil)
    (pss_one (ps_expr (pe_bm PySem.F.plainAttrs_list PySem.F.slot_list_append PySem.F.type_list_append mt_append (pv 1) (pa_cons (pv 5) pa_nil)))))))
  (pss_one (ps_ret (pe_tup (pa_cons (pv 1) (pa_cons (pe_ifExp (pt_cmpR (op_eqD hr.units) (pe_ix ix_seq (pv 2) (pe_un un_neg pe_int) (fun _ _ => rfl)) pe_str (nomark _)) pe_non (pe_callB call_len (by rfl) T.n_len (by decide +kernel) (pa_cons (pv 2) pa_nil))) pa_nil))))))))), fun D hn q => rd_lines_read' i e rs hp D hn q⟩)
theorem ok_deeds_fault (T : Txt w K mg) : FnOk P w K mg base CX0 7 T.a_deeds_fault T.d_deeds_fault ["text"] (sp_deeds_fault K) := by
  have G_lines_read : FnOk P w K mg base CX0 6 T.a_lines_read T.d_lines_read ["text"] (sp_lines_read K) := ok_lines_read T
  refine ok_spP T.F_deeds_fault sc_deeds_fault (fun _ => rfl) (fun cdv A outer s H E F i vs hr e rs hp => ⟨t_deeds_fault K, (pss_one (ps_ret (pe_ix ix_seq (pe_call G_lines_read (hr.mono (by omega)) (by rfl) T.g_lines_read T.F_lines_read.kp T.b_lines_read .nil pass0 (pa_cons (pv 0) pa_nil)) pe_int (fun _ _ => rfl)))), fun D hn q => rd_deeds_fault' i e rs hp D hn q⟩)
theorem ok_law_kkeys (T : Txt w K mg) : FnOk P w K mg base CX0 1 T.a_law_kkeys T.d_law_kkeys [] (sp_law_kkeys K) := by
  refine ok_spP T.F_law_kkeys sc_law_kkeys (fun _ => rfl) (fun cdv A outer s H E F i vs hr e rs hp => ⟨t_law_kkeys K, (pss_cons (ps_set (i := 0) sc_law_kkeys.nd rfl (Or.inl rfl) pe_str)
  (pss_one (ps_ret (pe_split (pv 0) pe_str)))), fun D hn q => rd_law_kkeys' i e rs hp D hn q⟩)
theorem ok_law_vname (T : Txt w K mg) : FnOk P w K mg base CX0 2 T.a_law_vname T.d_law_vname ["word"] (sp_law_vname K) := by
  have G_law_kkeys : FnOk P w K mg base CX0 1 T.a_law_kkeys T.d_law_kkeys [] (sp_law_kkeys K) := ok_law_kkeys T
  refine ok_spP T.F_law_vname sc_law_vname (fun _ => rfl) (fun cdv A outer s H E F i vs hr e rs hp => ⟨t_law_vname K, (pss_cons (ps_set (i := 1) sc_law_vname.nd rfl (Or.inr rfl) pe_str)
  (pss_cons (ps_set (i := 2) sc_law_vname.nd rfl (Or.inl rfl) (pe_andT (pe_chain op_le op_le pe_int (pe_callB call_len (by rfl) T.n_len (by decide +kernel) (pa_cons (pv 0) pa_nil)) pe_int) (pe_andT (pe_cmpR op_in_sign (pe_ix ix_seq (pv 0) pe_int (fun _ _ => rfl)) (pv 1) (by rfl)) (pe_one (pe_cmpR (op_eqD hr.units) (pe_lc (own := [("sign", 3)]) rfl sc_law_vname.nd (pi_str (pv 0)) (blkOk_by (N := N_law_vname) (sc := defScope s_law_vname) (by decide +kernel)) (fun _ _ _ _ _ => (pg_name (i := 3) sc_law_vname.nd rfl (Or.inl rfl))) (fun _ _ _ _ _ => pts_one (pt_cmpR op_notIn_sign (pv 3) (pe_op op_add_str (pv 1) pe_str) (by rfl))) (fun _ _ _ _ _ => (pv 3))) (pe_lst pa_nil) (nomark _))))))
  (pss_one (ps_ret (pe_andT (pv 2) (pe_one (pe_cmpR op_notIn_seq (pv 0) (pe_call0 G_law_kkeys (hr.mono (by omega)) (by rfl) T.g_law_kkeys T.F_law_kkeys.kp T.b_law_kkeys .nil pass0) (by rfl)))))))), fun D hn q => rd_law_vname' i e rs hp D hn q⟩)
theorem ok_law_voctet (T : Txt w K mg) : FnOk P w K mg base CX0 1 T.a_law_voctet T.d_law_voctet ["word"] (sp_law_voctet K) := by
  refine ok_spP T.F_law_voctet sc_law_voctet (fun _ => rfl) (fun cdv A outer s H E F i vs hr e rs hp => ⟨t_law_voctet K, (pss_cons (ps_if (PW.pt (pw_or (pt_cmpR (op_eqD hr.units) (pv 0) pe_str (nomark _)) (pw_or (pt_cmpR op_gt (pe_callB call_len (by rfl) T.n_len (by decide +kernel) (pa_cons (pv 0) pa_nil)) pe_int (nomark _)) (pw_or1 (pt_cmpR (op_neD hr.units) (pe_lc (own := [("sign", 1)]) rfl sc_law_voctet.nd (pi_str (pv 0)) (blkOk_by (N := N_law_voctet) (sc := defScope s_law_voctet) (by decide +kernel)) (fun _ _ _ _ _ => (pg_name (i := 1) sc_law_voctet.nd rfl (Or.inl rfl))) (fun _ _ _ _ _ => pts_one (pt_cmpR op_notIn_sign (pv 1) pe_str (by rfl))) (fun _ _ _ _ _ => (pv 1))) (pe_lst pa_nil) (nomark _))))))
   (pss_one (ps_ret pe_bl))
   pss_nil)
  (pss_one (ps_ret (pe_andT (pe_orT (pe_cmpR (op_eqD hr.units) (pv 0) pe_str (nomark _)) (pe_one (pe_cmpR (op_neD hr.units) (pe_ix ix_seq (pv 0) pe_int (fun _ _ => rfl)) pe_str (nomark _)))) (pe_one (pe_cmpR op_lt (pe_callTy call_int_str (by rfl) T.n_int (by decide +kernel) (pa_cons (pv 0) pa_nil)) pe_int (nomark _))))))), fun D hn q => rd_law_voctet' i e rs hp D hn q⟩)
theorem ok_law_vline (T : Txt w K mg) : FnOk P w K mg base CX0 3 T.a_law_vline T.d_law_vline ["line"] (sp_law_vline K) := by
  have G_law_vname : FnOk P w K mg base CX0 2 T.a_law_vname T.d_law_vname ["word"] (sp_law_vname K) := ok_law_vname T
  have G_law_voctet : FnOk P w K mg base CX0 1 T.a_law_voctet T.d_law_voctet ["word"] (sp_law_voctet K) := ok_law_voctet T
  refine ok_spP T.F_law_vline sc_law_vline (fun _ => rfl) (fun cdv A outer s H E F i vs hr e rs hp => ⟨t_law_vline K, (pss_cons (ps_set (i := 1) sc_law_vline.nd rfl (Or.inl rfl) (pe_split (pv 0) pe_str))
  (pss_cons (ps_if (PW.pt (pw_or (pt_cmpR op_lt (pe_callB call_len (by rfl) T.n_len (by decide +kernel) (pa_cons (pv 1) pa_nil)) pe_int (nomark _)) (pw_or1 (pt_not (pt_truth (pe_call G_law_vname (hr.mono (by omega)) (by rfl) T.g_law_vname T.F_law_vname.kp T.b_law_vname .nil pass0 (pa_cons (pe_ix ix_seq (pv 1) pe_int (fun _ _ => rfl)) pa_nil)) (by intro _; rfl))))))
   (pss_one (ps_ret pe_non))
   pss_nil)
  (pss_cons (ps_if (PW.pt (pw_and (pt_cmpR (op_eqD hr.units) (pe_ix ix_seq (pv 1) pe_int (fun _ _ => rfl)) pe_str (nomark _)) (pw_and1 (pt_cmpR (op_eqD hr.units) (pe_callB call_len (by rfl) T.n_len (by decide +kernel) (pa_cons (pv 1) pa_nil)) pe_int (nomark _)))))
   (pss_one (ps_ret (pe_tup (pa_cons pe_str (pa_cons (pe_ix ix_seq (pv 1) pe_int (fun _ _ => rfl)) pa_nil)))))
   pss_nil)
  (pss_cons (ps_if (PW.pt (pw_and (pt_cmpR (op_eqD hr.units) (pe_ix ix_seq (pv 1) pe_int (fun _ _ => rfl)) pe_str (nomark _)) (pw_and (pt_chain op_le op_le pe_int (pe_callB call_len (by rfl) T.n_len (by decide +kernel) (pa_cons (pv 1) pa_nil)) pe_int) (pw_and1 (pt_cmpR (op_eqD hr.units) (pe_lc (own := [("word", 2)]) rfl sc_law_vline.nd (pi_seq (pe_slice sl_seq (pv 1) (po_some pe_int) po_none)) (blkOk_by (N := N_law_vline) (sc := defScope s_law_vline) (by decide +kernel)) (fun _ _ _ _ _ => (pg_name (i := 2) sc_law_vline.nd rfl (Or.inl rfl))) (fun _ _ _ _ _ => pts_one (pt_not (pt_truth (pe_call G_law_vname (hr.mono (by omega)) (by rfl) T.g_law_vname T.F_law_vname.kp T.b_law_vname .nil pass0 (pa_cons (pv 2) pa_nil)) (by intro _; rfl)))) (fun _ _ _ _ _ => (pv 2))) (pe_lst pa_nil) (nomark _))))))
   (pss_one (ps_ret (pe_tup (pa_cons pe_str (pa_cons (pe_ix ix_seq (pv 1) pe_int (fun _ _ => rfl)) (pa_cons (pe_slice sl_seq (pv 1) (po_some pe_int) po_none) pa_nil))))))
   pss_nil)
  (pss_cons (ps_if (PW.pt (pw_and (pt_cmpR op_in_seq (pe_ix ix_seq (pv 1) pe_int (fun _ _ => rfl)) (pe_tup (pa_cons pe_str (pa_cons pe_str pa_nil))) (by rfl)) (pw_and (pt_cmpR op_le pe_int (pe_callB call_len (by rfl) T.n_len (by decide +kernel) (pa_cons (pv 1) pa_nil)) (nomark _)) (pw_and1 (pt_cmpR (op_eqD hr.units) (pe_lc (own := [("word", 2)]) rfl sc_law_vline.nd (pi_seq (pe_slice sl_seq (pv 1) (po_some pe_int) po_none)) (blkOk_by (N := N_law_vline) (sc := defScope s_law_vline) (by decide +kernel)) (fun _ _ _ _ _ => (pg_name (i := 2) sc_law_vline.nd rfl (Or.inl rfl))) (fun _ _ _ _ _ => pts_one (pt_not (pt_truth (pe_call G_law_voctet (hr.mono (by omega)) (by rfl) T.g_law_voctet T.F_law_voctet.kp T.b_law_voctet .nil pass0 (pa_cons (pv 2) pa_nil)) (by intro _; rfl)))) (fun _ _ _ _ _ => (pv 2))) (pe_lst pa_nil) (nomark _))))))
   (pss_one (ps_ret (pe_tup (pa_cons (pe_ix ix_seq (pv 1) pe_int (fun _ _ => rfl)) (pa_cons (pe_ix ix_seq (pv 1) pe_int (fun _ _ => rfl)) (pa_cons (pe_lc (own := [("word", 2)]) rfl sc_law_vline.nd (pi_seq (pe_slice sl_seq (pv 1) (po_some pe_int) po_none)) (blkOk_by (N := N_law_vline) (sc := defScope s_law_vline) (by decide +kernel)) (fun _ _ _ _ _ => (pg_name (i := 2) sc_law_vline.nd rfl (Or.inl rfl))) (fun _ _ _ _ _ => pts_nil) (fun _ _ _ _ _ => (pe_callTy call_int_str (by rfl) T.n_int (by decide +kernel) (pa_cons (pv 2) pa_nil)))) pa_nil))))))
   pss_nil)
  (pss_one (ps_ret pe_non))))))), fun D hn q => rd_law_vline' i e rs hp D hn q⟩)
theorem ok_law_vfirst_bad (T : Txt w K mg) : FnOk P w K mg base CX0 4 T.a_law_vfirst_bad T.d_law_vfirst_bad ["text"] (sp_law_vfirst_bad K) := by
  have G_law_vline : FnOk P w K mg base CX0 3 T.a_law_vline T.d_law_vline ["line"] (sp_law_vline K) := ok_law_vline T
  refine ok_spP T.F_law_vfirst_bad sc_law_vfirst_bad (fun _ => rfl) (fun cdv A outer s H E F i vs hr e rs hp => ⟨t_law_vfirst_bad K, (pss_cons (ps_if (pt_not (pt_truth (pe_callB call_isi (by rfl) T.n_isinstance (by decide +kernel) (pa_cons (pv 0) (pa_cons (pe_bltn (by rfl) T.n_str (by decide +kernel) rfl) pa_nil))) (by intro _; rfl)))
   (pss_one (ps_ret pe_int))
   pss_nil)
  (pss_cons (ps_set (i := 1) sc_law_vfirst_bad.nd rfl (Or.inl rfl) (pe_split (pv 0) pe_str))
  (pss_cons (ps_for PassesOwn.never rfl (pi_enumU (by rfl) T.n_enumerate (pa_cons (pe_slice sl_seq (pv 1) po_none (po_some (pe_un un_neg pe_int))) pa_nil)) (pg_tup (by rfl) (pgs_cons (pg_name (i := 2) sc_law_vfirst_bad.nd rfl (Or.inl rfl)) (pgs_cons (pg_name (i := 3) sc_law_vfirst_bad.nd rfl (Or.inl rfl)) pgs_nil)))
   (pss_one (ps_if (pt_cmpR op_isN (pe_call G_law_vline (hr.mono (by omega)) (by rfl) T.g_law_vline T.F_law_vline.kp T.b_law_vline .nil pass0 (pa_cons (pv 3) pa_nil)) pe_non (nomark _))
     (pss_one (ps_ret (pe_op oAdd (pv 2) pe_int)))
     pss_nil)))
  (pss_one (ps_ret (pe_ifExp (pt_cmpR (op_eqD hr.units) (pe_ix ix_seq (pv 1) (pe_un un_neg pe_int) (fun _ _ => rfl)) pe_str (nomark _)) pe_non (pe_callB call_len (by rfl) T.n_len (by decide +kernel) (pa_cons (pv 1) pa_nil)))))))), fun D hn q => rd_law_vfirst_bad' i e rs hp D hn q⟩)
theorem ok_law_vtold (T : Txt w K mg) : FnOk P w K mg base CX0 1 T.a_law_vtold T.d_law_vtold ["deeds"] (sp_law_vtold K) := by
  refine ok_spP T.F_law_vtold sc_law_vtold (fun _ => rfl) (fun cdv A outer s H E F i vs hr e rs hp => ⟨t_law_vtold K, (pss_cons (ps_setLc (i := 1) (own := [("deed", 2)]) rfl sc_law_vtold.nd rfl rfl (sw_true rfl rfl rfl (by decide +kernel)) (pi_seq (pv 0)) (blkOk_by (N := N_law_vtold) (sc := defScope s_law_vtold) (by decide +kernel)) (fun _ _ _ _ _ => (pg_name (i := 2) sc_law_vtold.nd rfl (Or.inl rfl))) (fun _ _ _ _ _ => pts_nil) (fun _ _ _ _ _ => (pe_join pe_str (pe_op oAdd (pe_callTy call_list_of (by rfl) T.n_list (by decide +kernel) (pa_cons (pe_slice sl_seq (pv 2) po_none (po_some pe_int)) pa_nil)) (pe_lc (own := [("one", 4)]) rfl sc_law_vtold.nd (pi_seq (pe_ix ix_seq (pe_op oAdd (pe_callTy call_list_of (by rfl) T.n_list (by decide +kernel) (pa_cons (pv 2) pa_nil)) (pe_lst (pa_cons (pe_lst pa_nil) pa_nil))) pe_int (fun _ _ => rfl))) (blkOk_by (by exact rfl)) (fun _ _ _ _ _ => (pg_name (i := 4) sc_law_vtold.nd rfl (Or.inl rfl))) (fun _ _ _ _ _ => pts_nil) (fun _ _ _ _ _ => (pe_callTy call_strU (by rfl) T.n_str (by decide +kernel) (pa_cons (pv 4) pa_nil))))))))
  (pss_one (ps_ret (pe_join pe_str (pe_lc (own := [("line", 3)]) rfl sc_law_vtold.nd (pi_seq (pv 1)) (blkOk_by (N := N_law_vtold) (sc := defScope s_law_vtold) (by decide +kernel)) (fun _ _ _ _ _ => (pg_name (i := 3) sc_law_vtold.nd rfl (Or.inl rfl))) (fun _ _ _ _ _ => pts_nil) (fun _ _ _ _ _ => (pe_op op_add_str (pv 3) pe_str))))))), fun D hn q => rd_law_vtold' i e rs hp D hn q⟩)
theorem ok_law_pick (T : Txt w K mg) : FnOk P w K mg base CX0 2 T.a_law_pick T.d_law_pick ["stream", "some"] (sp_law_pick K) := by
  have G_law_below : FnOk P w K mg base CX0 1 T.a_law_below T.d_law_below ["stream", "many"] (sp_law_below K) := ok_law_below T
  refine T.F_law_pick.ok sc_law_pick (fun vs H Q E h => len_law_pick h) (fun cdv A outer s H vs Q E hr h => ⟨t_law_pick K, (pss_one (ps_ret (pe_ix ix_seq (pv 1) (pe_call G_law_below (hr.mono (by omega)) (by rfl) T.g_law_below T.F_law_below.kp T.b_law_below .nil pass0 (pa_cons (pv 0) (pa_cons (pe_callB call_len (by rfl) T.n_len (by decide +kernel) (pa_cons (pv 1) pa_nil)) pa_nil))) (fun _ _ => rfl)))), rd_law_pick h⟩)
theorem ok_law_vdeed (T : Txt w K mg) : FnOk P w K mg base CX0 3 T.a_law_vdeed T.d_law_vdeed ["stream"] (sp_law_vdeed K) := by
  have G_law_pick : FnOk P w K mg base CX0 2 T.a_law_pick T.d_law_pick ["stream", "some"] (sp_law_pick K) := ok_law_pick T
  have G_law_below : FnOk P w K mg base CX0 1 T.a_law_below T.d_law_below ["stream", "many"] (sp_law_below K) := ok_law_below T
  refine T.F_law_vdeed.ok sc_law_vdeed (fun vs H Q E h => len_law_vdeed h) (fun cdv A outer s H vs Q E hr h => ⟨t_law_vdeed K, (pss_cons (ps_par (i := 1) (j := 2) rfl sc_law_vdeed.nd rfl rfl (by decide) rfl rfl (pa_cons (pe_call G_law_pick (hr.mono (by omega)) (by rfl) T.g_law_pick T.F_law_pick.kp T.b_law_pick .nil pass0 (pa_cons (pv 0) (pa_cons (pe_lst (pa_cons pe_str (pa_cons pe_str (pa_cons pe_str (pa_cons pe_str pa_nil))))) pa_nil))) (pa_cons (pe_call G_law_pick (hr.mono (by omega)) (by rfl) T.g_law_pick T.F_law_pick.kp T.b_law_pick .nil pass0 (pa_cons (pv 0) (pa_cons (pe_lst (pa_cons pe_str (pa_cons pe_str (pa_cons pe_str (pa_cons pe_str (pa_cons pe_str pa_nil)))))) pa_nil))) pa_nil)) (by rfl))
  (pss_cons (ps_if (pt_cmpR (op_eqD hr.units) (pv 1) pe_str (nomark _))
   (pss_one (ps_ret (pe_tup (pa_cons (pv 1) (pa_cons (pv 2) pa_nil)))))
   pss_nil)
  (pss_cons (ps_if (pt_cmpR (op_eqD hr.units) (pv 1) pe_str (nomark _))
   (pss_one (ps_ret (pe_tup (pa_cons (pv 1) (pa_cons (pv 2) (pa_cons (pe_lc (own := [("link", 4)]) rfl sc_law_vdeed.nd (pi_range1 (by rfl) T.n_range (pa_cons (pe_op oAdd pe_int (pe_call G_law_below (hr.mono (by omega)) (by rfl) T.g_law_below T.F_law_below.kp T.b_law_below .nil pass0 (pa_cons (pv 0) (pa_cons pe_int pa_nil)))) pa_nil)) (blkOk_by (N := N_law_vdeed) (sc := defScope s_law_vdeed) (by decide +kernel)) (fun _ _ _ _ _ => (pg_name (i := 4) sc_law_vdeed.nd rfl (Or.inl rfl))) (fun _ _ _ _ _ => pts_nil) (fun _ _ _ _ _ => (pe_call G_law_pick (hr.mono (by omega)) (by rfl) T.g_law_pick T.F_law_pick.kp T.b_law_pick .nil pass0 (pa_cons (pv 0) (pa_cons (pe_lst (pa_cons pe_str (pa_cons pe_str (pa_cons pe_str pa_nil)))) pa_nil))))) pa_nil))))))
   pss_nil)
  (pss_one (ps_ret (pe_tup (pa_cons (pv 1) (pa_cons (pv 2) (pa_cons (pe_lc (own := [("octet", 3)]) rfl sc_law_vdeed.nd (pi_range1 (by rfl) T.n_range (pa_cons (pe_op oAdd pe_int (pe_call G_law_below (hr.mono (by omega)) (by rfl) T.g_law_below T.F_law_below.kp T.b_law_below .nil pass0 (pa_cons (pv 0) (pa_cons pe_int pa_nil)))) pa_nil)) (blkOk_by (N := N_law_vdeed) (sc := defScope s_law_vdeed) (by decide +kernel)) (fun _ _ _ _ _ => (pg_name (i := 3) sc_law_vdeed.nd rfl (Or.inl rfl))) (fun _ _ _ _ _ => pts_nil) (fun _ _ _ _ _ => (pe_call G_law_below (hr.mono (by omega)) (by rfl) T.g_law_below T.F_law_below.kp T.b_law_below .nil pass0 (pa_cons (pv 0) (pa_cons pe_int pa_nil))))) pa_nil))))))))), rd_law_vdeed h⟩)
theorem ok_read_deeds (T : Txt w K mg) : FnOk P w K mg base (L2.CX P w) 7 T.a_read_deeds T.d_read_deeds ["text"] (sp_read_deeds K) := by
  have G_lines_read : FnOk P w K mg base CX0 6 T.a_lines_read T.d_lines_read ["text"] (sp_lines_read K) := ok_lines_read T
  have G_is_row : FnOk P w K mg base CX0 1 T.a_is_row T.d_is_row ["thing"] (sp_is_row K) := ok_is_row T
  refine T.F_read_deeds.okX sc_read_deeds (fun vs H Q E h => len_read_deeds h) (fun cdv A outer s H vs Q E hr h => ⟨t_read_deeds K E, (pss_cons (ps_asg (pe_call G_lines_read (hr.mono (by omega)) (by rfl) T.g_lines_read T.F_lines_read.kp T.b_lines_read .nil pass0 (pa_cons (pv 0) pa_nil)) (pg_tup (by rfl) (pgs_cons (pg_name (i := 1) sc_read_deeds.nd rfl (Or.inl rfl)) (pgs_cons (pg_name (i := 2) sc_read_deeds.nd rfl (Or.inl rfl)) pgs_nil))))
  (pss_cons (ps_if (pt_cmpR op_notN (pv 2) pe_non (nomark _))
   (pss_one (ps_raiseX rfl (takes_of rfl rfl rfl rfl) T.x_BadLine (ok_init_BadLine T) (hr.mono (by omega)) T.bi_BadLine (by rfl) T.g_BadLine (pa_cons (pv 2) pa_nil)))
   pss_nil)
  (pss_one (ps_ret (pe_lc (own := [("deed", 3)]) rfl sc_read_deeds.nd (pi_seq (pv 1)) (blkOk_by (N := N_read_deeds) (sc := defScope s_read_deeds) (by decide +kernel)) (fun _ _ _ _ _ => (pg_name (i := 3) sc_read_deeds.nd rfl (Or.inl rfl))) (fun _ _ _ _ _ => pts_nil) (fun _ _ _ _ _ => (pe_callTy call_tuple_of (by rfl) T.n_tuple (by decide +kernel) (pa_cons (pe_lc (own := [("one", 4)]) rfl sc_read_deeds.nd (pi_seq (pv 3)) (blkOk_by (by exact rfl)) (fun _ _ _ _ _ => (pg_name (i := 4) sc_read_deeds.nd rfl (Or.inl rfl))) (fun _ _ _ _ _ => pts_nil) (fun _ _ _ _ _ => (pe_ifExp (pt_truth (pe_call G_is_row (hr.mono (by omega)) (by rfl) T.g_is_row T.F_is_row.kp T.b_is_row .nil pass0 (pa_cons (pv 4) pa_nil)) (by intro _; rfl)) (pe_callTy call_list_of (by rfl) T.n_list (by decide +kernel) (pa_cons (pv 4) pa_nil)) (pv 4)))) pa_nil)))))))), rd_read_deeds h⟩)
theorem okn_law_spoilt (T : Txt w K mg) : ∀ n, FnOk P w K mg base CX0 (1 + 1 + n) T.a_law_spoilt T.d_law_spoilt ["thing"] (spn_law_spoilt n K)
  | 0 => by
    have GR : FnOk P w K mg base CX0 1 T.a_law_spoilt T.d_law_spoilt ["thing"] (rc_law_spoilt 0 K) := T.F_law_spoilt.ok sc_law_spoilt (fun _ _ _ _ h => h.elim) (fun _ _ _ _ _ _ _ _ _ h => h.elim)
    refine T.F_law_spoilt.ok (k := 1) sc_law_spoilt (fun vs H Q E h => len_law_spoilt h) (fun cdv A outer s H vs Q E hr h => ⟨t_law_spoilt K (rc_law_spoilt 0 K), (pss_cons (ps_if (pt_truth (pe_callB call_isi (by rfl) T.n_isinstance (by decide +kernel) (pa_cons (pv 0) (pa_cons (pe_bltn (by rfl) T.n_dict (by decide +kernel) rfl) pa_nil))) (by intro _; rfl))
   (pss_cons ps_never
    (pss_one ps_never))
   pss_nil)
  (pss_cons (ps_if (pt_truth (pe_callB call_isiT (by rfl) T.n_isinstance (by decide +kernel) (pa_cons (pv 0) (pa_cons (pe_tup (pa_cons (pe_bltn (by rfl) T.n_list (by decide +kernel) rfl) (pa_cons (pe_bltn (by rfl) T.n_tuple (by decide +kernel) rfl) pa_nil))) pa_nil))) (by intro _; rfl))
   (pss_one (ps_for PassesOwn.never rfl (pi_seq (pv 0)) (pg_name (i := 2) sc_law_spoilt.nd rfl (Or.inl rfl))
     (pss_one (ps_expr (pe_call GR (hr.mono (by omega)) (by rfl) T.g_law_spoilt T.F_law_spoilt.kp T.b_law_spoilt .nil pass0 (pa_cons (pv 2) pa_nil))))))
   pss_nil)
  (pss_one (ps_if (pt_truth (pe_callB call_isi (by rfl) T.n_isinstance (by decide +kernel) (pa_cons (pv 0) (pa_cons (pe_bltn (by rfl) T.n_list (by decide +kernel) rfl) pa_nil))) (by intro _; rfl))
   (pss_one (ps_expr (pe_bm PySem.F.plainAttrs_list PySem.F.slot_list_append PySem.F.type_list_append mt_append (pv 0) (pa_cons pe_str pa_nil))))
   pss_nil)))), rd_law_spoilt 0 h⟩)
  | n + 1 => by
    have GR : FnOk P w K mg base CX0 (1 + 1 + n) T.a_law_spoilt T.d_law_spoilt ["thing"] (rc_law_spoilt (n + 1) K) := okn_law_spoilt T n
    refine T.F_law_spoilt.ok (k := 1 + 1 + n) sc_law_spoilt (fun vs H Q E h => len_law_spoilt h) (fun cdv A outer s H vs Q E hr h => ⟨t_law_spoilt K (rc_law_spoilt (n + 1) K), (pss_cons (ps_if (pt_truth (pe_callB call_isi (by rfl) T.n_isinstance (by decide +kernel) (pa_cons (pv 0) (pa_cons (pe_bltn (by rfl) T.n_dict (by decide +kernel) rfl) pa_nil))) (by intro _; rfl))
   (pss_cons ps_never
    (pss_one ps_never))
   pss_nil)
  (pss_cons (ps_if (pt_truth (pe_callB call_isiT (by rfl) T.n_isinstance (by decide +kernel) (pa_cons (pv 0) (pa_cons (pe_tup (pa_cons (pe_bltn (by rfl) T.n_list (by decide +kernel) rfl) (pa_cons (pe_bltn (by rfl) T.n_tuple (by decide +kernel) rfl) pa_nil))) pa_nil))) (by intro _; rfl))
   (pss_one (ps_for PassesOwn.never rfl (pi_seq (pv 0)) (pg_name (i := 2) sc_law_spoilt.nd rfl (Or.inl rfl))
     (pss_one (ps_expr (pe_call GR (hr.mono (by omega)) (by rfl) T.g_law_spoilt T.F_law_spoilt.kp T.b_law_spoilt .nil pass0 (pa_cons (pv 2) pa_nil))))))
   pss_nil)
  (pss_one (ps_if (pt_truth (pe_callB call_isi (by rfl) T.n_isinstance (by decide +kernel) (pa_cons (pv 0) (pa_cons (pe_bltn (by rfl) T.n_list (by decide +kernel) rfl) pa_nil))) (by intro _; rfl))
   (pss_one (ps_expr (pe_bm PySem.F.plainAttrs_list PySem.F.slot_list_append PySem.F.type_list_append mt_append (pv 0) (pa_cons pe_str pa_nil))))
   pss_nil)))), rd_law_spoilt (n + 1) h⟩)
theorem ok_law_spoilt (T : Txt w K mg) : FnOk P w K mg base CX0 10 T.a_law_spoilt T.d_law_spoilt ["thing"] (sp_law_spoilt K) := okn_law_spoilt T 8

theorem okn_law_is_once (T : Txt w K mg) : ∀ n, FnOk P w K mg base CX0 (1 + 1 + n) T.a_law_is_once T.d_law_is_once ["thing"] (spn_law_is_once n K)
  | 0 => by
    have GR : FnOk P w K mg base CX0 1 T.a_law_is_once T.d_law_is_once ["thing"] (rc_law_is_once 0 K) := T.F_law_is_once.ok sc_law_is_once (fun _ _ _ _ h => h.elim) (fun _ _ _ _ _ _ _ _ _ h => h.elim)
    refine T.F_law_is_once.ok (k := 1) sc_law_is_once (fun vs H Q E h => len_law_is_once h) (fun cdv A outer s H vs Q E hr h => ⟨t_law_is_once K (rc_law_is_once 0 K), (pss_cons (ps_if (pt_truth (pe_callB call_isi (by rfl) T.n_isinstance (by decide +kernel) (pa_cons (pv 0) (pa_cons (pe_bltn (by rfl) T.n_dict (by decide +kernel) rfl) pa_nil))) (by intro _; rfl))
   (pss_one ps_never)
   pss_nil)
  (pss_cons (ps_if (pt_truth (pe_callB call_isiT (by rfl) T.n_isinstance (by decide +kernel) (pa_cons (pv 0) (pa_cons (pe_tup (pa_cons (pe_bltn (by rfl) T.n_list (by decide +kernel) rfl) (pa_cons (pe_bltn (by rfl) T.n_tuple (by decide +kernel) rfl) pa_nil))) pa_nil))) (by intro _; rfl))
   (pss_cons (ps_set (i := 1) sc_law_is_once.nd rfl (Or.inl rfl) (pe_callTy call_int1 (by rfl) T.n_int (by decide +kernel) (pa_cons (pe_callB call_isi (by rfl) T.n_isinstance (by decide +kernel) (pa_cons (pv 0) (pa_cons (pe_bltn (by rfl) T.n_list (by decide +kernel) rfl) pa_nil))) pa_nil)))
    (pss_one (ps_ret (pe_andT (pe_cmpR (op_eqD hr.units) (pe_bm PySem.F.plainAttrs_list PySem.F.slot_list_count PySem.F.type_list_count (mt_countD (room65 hr)) (pe_callTy call_list_of (by rfl) T.n_list (by decide +kernel) (pa_cons (pv 0) pa_nil)) (pa_cons pe_str pa_nil)) (pv 1) (nomark _)) (pe_one (pe_callB (cr_all rfl) (by rfl) T.n_all (by decide +kernel) (pa_cons (pe_lc (own := [("part", 3)]) rfl sc_law_is_once.nd (pi_seq (pv 0)) (blkOk_by (N := N_law_is_once) (sc := defScope s_law_is_once) (by decide +kernel)) (fun _ _ _ _ _ => (pg_name (i := 3) sc_law_is_once.nd rfl (Or.inl rfl))) (fun _ _ _ _ _ => pts_nil) (fun _ _ _ _ _ => (pe_call GR (hr.mono (by omega)) (by rfl) T.g_law_is_once T.F_law_is_once.kp T.b_law_is_once .nil pass0 (pa_cons (pv 3) pa_nil)))) pa_nil)))))))
   pss_nil)
  (pss_one (ps_ret pe_bl)))), rd_law_is_once 0 h⟩)
  | n + 1 => by
    have GR : FnOk P w K mg base CX0 (1 + 1 + n) T.a_law_is_once T.d_law_is_once ["thing"] (rc_law_is_once (n + 1) K) := okn_law_is_once T n
    refine T.F_law_is_once.ok (k := 1 + 1 + n) sc_law_is_once (fun vs H Q E h => len_law_is_once h) (fun cdv A outer s H vs Q E hr h => ⟨t_law_is_once K (rc_law_is_once (n + 1) K), (pss_cons (ps_if (pt_truth (pe_callB call_isi (by rfl) T.n_isinstance (by decide +kernel) (pa_cons (pv 0) (pa_cons (pe_bltn (by rfl) T.n_dict (by decide +kernel) rfl) pa_nil))) (by intro _; rfl))
   (pss_one ps_never)
   pss_nil)
  (pss_cons (ps_if (pt_truth (pe_callB call_isiT (by rfl) T.n_isinstance (by decide +kernel) (pa_cons (pv 0) (pa_cons (pe_tup (pa_cons (pe_bltn (by rfl) T.n_list (by decide +kernel) rfl) (pa_cons (pe_bltn (by rfl) T.n_tuple (by decide +kernel) rfl) pa_nil))) pa_nil))) (by intro _; rfl))
   (pss_cons (ps_set (i := 1) sc_law_is_once.nd rfl (Or.inl rfl) (pe_callTy call_int1 (by rfl) T.n_int (by decide +kernel) (pa_cons (pe_callB call_isi (by rfl) T.n_isinstance (by decide +kernel) (pa_cons (pv 0) (pa_cons (pe_bltn (by rfl) T.n_list (by decide +kernel) rfl) pa_nil))) pa_nil)))
    (pss_one (ps_ret (pe_andT (pe_cmpR (op_eqD hr.units) (pe_bm PySem.F.plainAttrs_list PySem.F.slot_list_count PySem.F.type_list_count (mt_countD (room65 hr)) (pe_callTy call_list_of (by rfl) T.n_list (by decide +kernel) (pa_cons (pv 0) pa_nil)) (pa_cons pe_str pa_nil)) (pv 1) (nomark _)) (pe_one (pe_callB (cr_all rfl) (by rfl) T.n_all (by decide +kernel) (pa_cons (pe_lc (own := [("part", 3)]) rfl sc_law_is_once.nd (pi_seq (pv 0)) (blkOk_by (N := N_law_is_once) (sc := defScope s_law_is_once) (by decide +kernel)) (fun _ _ _ _ _ => (pg_name (i := 3) sc_law_is_once.nd rfl (Or.inl rfl))) (fun _ _ _ _ _ => pts_nil) (fun _ _ _ _ _ => (pe_call GR (hr.mono (by omega)) (by rfl) T.g_law_is_once T.F_law_is_once.kp T.b_law_is_once .nil pass0 (pa_cons (pv 3) pa_nil)))) pa_nil)))))))
   pss_nil)
  (pss_one (ps_ret pe_bl)))), rd_law_is_once (n + 1) h⟩)
theorem ok_law_is_once (T : Txt w K mg) : FnOk P w K mg base CX0 10 T.a_law_is_once T.d_law_is_once ["thing"] (sp_law_is_once K) := okn_law_is_once T 8

theorem ok_law_apart (T : Txt w K mg) : FnOk P w K mg base CX0 11 T.a_law_apart T.d_law_apart ["thing"] (sp_law_apart K) := by
  have G_law_spoilt : FnOk P w K mg base CX0 10 T.a_law_spoilt T.d_law_spoilt ["thing"] (sp_law_spoilt K) := ok_law_spoilt T
  have G_law_is_once : FnOk P w K mg base CX0 10 T.a_law_is_once T.d_law_is_once ["thing"] (sp_law_is_once K) := ok_law_is_once T
  refine T.F_law_apart.ok sc_law_apart (fun vs H Q E h => len_law_apart h) (fun cdv A outer s H vs Q E hr h => ⟨t_law_apart K, (pss_cons (ps_expr (pe_call G_law_spoilt (hr.mono (by omega)) (by rfl) T.g_law_spoilt T.F_law_spoilt.kp T.b_law_spoilt .nil pass0 (pa_cons (pv 0) pa_nil)))
  (pss_one (ps_ret (pe_call G_law_is_once (hr.mono (by omega)) (by rfl) T.g_law_is_once T.F_law_is_once.kp T.b_law_is_once .nil pass0 (pa_cons (pv 0) pa_nil))))), rd_law_apart h⟩)
theorem ok_deeds_text (T : Txt w K mg) : FnOk P w K mg base (L2.CX P w) 5 T.a_deeds_text T.d_deeds_text ["deeds"] (sp_deeds_text K) := by
  have G_is_row : FnOk P w K mg base CX0 1 T.a_is_row T.d_is_row ["thing"] (sp_is_row K) := ok_is_row T
  have G_plain_deed : FnOk P w K mg base CX0 4 T.a_plain_deed T.d_plain_deed ["thing"] (sp_plain_deed K) := ok_plain_deed T
  refine T.F_deeds_text.okX sc_deeds_text (fun vs H Q E h => len_deeds_text h) (fun cdv A outer s H vs Q E hr h => ⟨t_deeds_text K E, (pss_cons (ps_if (pt_not (pt_truth (pe_call G_is_row (hr.mono (by omega)) (by rfl) T.g_is_row T.F_is_row.kp T.b_is_row .nil pass0 (pa_cons (pv 0) pa_nil)) (by intro _; rfl)))
   (pss_one (ps_raiseX rfl (takes_of rfl rfl rfl rfl) T.x_BadDeed (ok_init_BadDeed T) (hr.mono (by omega)) T.bi_BadDeed (by rfl) T.g_BadDeed (pa_cons pe_int pa_nil)))
   pss_nil)
  (pss_cons (ps_set (i := 1) sc_deeds_text.nd rfl (Or.inl rfl) (pe_lst pa_nil))
  (pss_cons (ps_for (passes_of rfl) rfl (pi_enumU (by rfl) T.n_enumerate (pa_cons (pv 0) pa_nil)) (pg_tup (by rfl) (pgs_cons (pg_name (i := 2) sc_deeds_text.nd rfl (Or.inl rfl)) (pgs_cons (pg_name (i := 3) sc_deeds_text.nd rfl (Or.inl rfl)) pgs_nil)))
   (pss_cons (ps_set (i := 4) sc_deeds_text.nd rfl (Or.inl rfl) (pe_call G_plain_deed (hr.mono (by omega)) (by rfl) T.g_plain_deed T.F_plain_deed.kp T.b_plain_deed .nil pass0 (pa_cons (pv 3) pa_nil)))
    (pss_cons (ps_if (pt_cmpR op_isN (pv 4) pe_non (nomark _))
     (pss_one (ps_raiseX rfl (takes_of rfl rfl rfl rfl) T.x_BadDeed (ok_init_BadDeed T) (hr.mono (by omega)) T.bi_BadDeed (by rfl) T.g_BadDeed (pa_cons (pv 2) pa_nil)))
     pss_nil)
    (pss_cons (ps_set (i := 5) sc_deeds_text.nd rfl (Or.inl rfl) (pe_op oAdd (pe_callTy call_list_of (by rfl) T.n_list (by decide +kernel) (pa_cons (pe_slice sl_seq (pv 4) po_none (po_some pe_int)) pa_nil)) (pe_lc (own := [("one", 6)]) rfl sc_deeds_text.nd (pi_seq (pe_ifExp (pt_cmpR op_gt (pe_callB call_len (by rfl) T.n_len (by decide +kernel) (pa_cons (pv 4) pa_nil)) pe_int (nomark _)) (pe_ix ix_seq (pv 4) pe_int (fun _ _ => rfl)) (pe_tup pa_nil))) (blkOk_by (N := N_deeds_text) (sc := defScope s_deeds_text) (by decide +kernel)) (fun _ _ _ _ _ => (pg_name (i := 6) sc_deeds_text.nd rfl (Or.inl rfl))) (fun _ _ _ _ _ => pts_nil) (fun _ _ _ _ _ => (pe_callTy call_strU (by rfl) T.n_str (by decide +kernel) (pa_cons (pv 6) pa_nil))))))
    (pss_one (ps_expr (pe_bm PySem.F.plainAttrs_list PySem.F.slot_list_append PySem.F.type_list_append mt_append (pv 1) (pa_cons (pe_op op_add_str (pe_join pe_str (pv 5)) pe_str) pa_nil))))))))
  (pss_one (ps_ret (pe_join pe_str (pv 1))))))), rd_deeds_text h⟩)
end
end K39

namespace K39
open PySem L2 RZ Sf
abbrev N_law_vmet : List Str := ["run", "e"]
/-- which clause takes which error -/
structure Exm (K : PySem.W.Frag) (cL cD : Addr) : Prop where
  ll : PySem.W.exmOne K (.ref cL) (.ref cL) = some true
  dl : PySem.W.exmOne K (.ref cD) (.ref cL) = some false
  dd : PySem.W.exmOne K (.ref cD) (.ref cD) = some true
theorem law_vmet_gives {X : Cx} {g : Addr} {cdv : Value} {q : Str} (T : Txt X.w X.K X.mg) (M : Exm X.K T.c_BadLine T.c_BadDeed) : LamX.GivesTo X N_law_vmet "_law_vmet" (defScope s_law_vmet) g cdv (defBody s_law_vmet) "run" q (TMet X.K vErrs) := by
  intro f c' s H Q tl act hc h
  refine ⟨_, pss_cons (ps_try_each (X := (cxOf C8.CX0 X.prog X.w X.K X.mg X.base N_law_vmet "_law_vmet" (defScope s_law_vmet) g cdv X.A X.stack s H C8.E0).nox) (tb := fun W D σ H => ∃ Ech : XK, (∀ cls d σ' H', Ech cls d H' → W cls d σ' H') ∧ σ[0]? = some (some (.ref f)) ∧ H c' = some (LamX.CodeO c' q) ∧ tl Ech H (fun _ H' => D.nx σ H')) rfl rfl sc_law_vmet.nd LamX.takes0 (fun W pn xe tk _ => ?_)
    (.named (ts := fun a cl d => tTell a cl d T.c_BadLine 2 "line" "line") ⟨rfl, by decide, .inl T.g_BadLine⟩ (i := 1) rfl rfl (fun a o cl d pn hz hf => pss_one (ps_ret (pe_tup (pa_cons pe_str (pa_cons (pe_xf T.x_BadLine.xf T.x_BadLine.nf hz hf (pe_varL (pv 1))) pa_nil)))))
    (.named (ts := fun a cl d => tTell a cl d T.c_BadDeed 2 "index" "deed") ⟨rfl, by decide, .inl T.g_BadDeed⟩ (i := 1) rfl rfl (fun a o cl d pn hz hf => pss_one (ps_ret (pe_tup (pa_cons pe_str (pa_cons (pe_xf T.x_BadDeed.xf T.x_BadDeed.nf hz hf (pe_varL (pv 1))) pa_nil))))) .done))) (pss_one (ps_ret pe_non)), ?_⟩
  · refine ⟨fun pins s' σ H' D I h' => ?_⟩
    obtain ⟨Ech, hW, h1, h2, h3⟩ := h'
    exact (pss_one (ps_expr (act W pn xe Ech _ _ tk hW))).run pins s' σ H' D I ⟨h1, h2, h3⟩
  · refine ⟨_, fun cls d σ' H' ⟨x, f, w, C, dd, i, hm, hC, e1, e2, hd, k⟩ => ?_, rfl, hc, h⟩
    subst e1 e2
    rcases List.mem_cons.mp hm with e | hm
    · cases e
      cases ClsA.one hC T.x_BadLine.cls
      exact ⟨true, M.ll, fun _ a _ => tell_run (set_len (by decide)) hd k, fun z => by cases z⟩
    · cases List.mem_singleton.mp hm
      cases ClsA.one hC T.x_BadDeed.cls
      exact ⟨false, M.dl, (fun z => by cases z), fun _ => ⟨true, M.dd, fun _ a _ => tell_run (set_len (by decide)) hd k, fun z => by cases z⟩⟩
end K39

namespace K39
open PySem L2 RZ Sf
def gKwText : List Value → List Value → List Value := fun us zs => us ++ zs
theorem KB_read_deeds_text {K : PySem.W.Frag} {f : Addr} {fd : FuncData} (F : Fun K "read_deeds" "read_deeds" s_read_deeds f fd) : KBinds K fd ["text"] ["text"] gKwText gV_read_deeds_text where
  to s us ws _ hl := by
    obtain ⟨oc, od, kV, doc, pm, an, cdv, ct, osl, rfl, lk, hcd⟩ := F.ex
    match us, ws, hl with
    | [], [a], _ => exact .of_eq rfl
    | [a], [], _ => exact .of_eq rfl
  rel := fun h1 h2 => h1.append h2
section
variable {P : Program} {w : World} {K : PySem.W.Frag} {mg : Str → Option Value} {base : Heap}
theorem ok_law (T : Txt w K mg) (M : Exm K T.c_BadLine T.c_BadDeed) {c Pt : Addr} (TB : LamX.TabB base mg c Pt) {oc kV doc pm ct : Value} {od an : Option Addr} {osl : Array (Option Value)}
    (lL : K.lookup T.a_law = some ⟨oc, od, .func (PySem.W.fnOf "law" "law" (defArgs s_law) (defBody s_law) (defScope s_law) .none kV doc pm an (.ref c) ct), osl⟩) (hcd : PySem.W.codeIn K (.ref c) "law" = true) :
    FnOk P w K mg base CX0 12 T.a_law T.d_law ["script"] (sp_law Pt K) := by
  have G_law_start : FnOk P w K mg base CX0 1 T.a_law_start T.d_law_start ["script"] (sp_law_start K) := ok_law_start T
  have G_law_vdeed : FnOk P w K mg base CX0 3 T.a_law_vdeed T.d_law_vdeed ["stream"] (sp_law_vdeed K) := ok_law_vdeed T
  have G_law_below : FnOk P w K mg base CX0 1 T.a_law_below T.d_law_below ["stream", "many"] (sp_law_below K) := ok_law_below T
  have G_law_vtold : FnOk P w K mg base CX0 1 T.a_law_vtold T.d_law_vtold ["deeds"] (sp_law_vtold K) := ok_law_vtold T
  have G_law_same : FnOk P w K mg base CX0 10 T.a_law_same T.d_law_same ["found", "due"] (sp_law_same K) := ok_law_same T
  have G_deeds_text : FnOk P w K mg base (L2.CX P w) 5 T.a_deeds_text T.d_deeds_text ["deeds"] (sp_deeds_text K) := ok_deeds_text T
  have G_law_loose : FnOk P w K mg base CX0 11 T.a_law_loose T.d_law_loose ["stream", "thing"] (sp_law_loose K) := ok_law_loose T
  have G_read_deeds : FnOk P w K mg base (L2.CX P w) 7 T.a_read_deeds T.d_read_deeds ["text"] (sp_read_deeds K) := ok_read_deeds T
  have G_deeds_fault : FnOk P w K mg base CX0 7 T.a_deeds_fault T.d_deeds_fault ["text"] (sp_deeds_fault K) := ok_deeds_fault T
  have G_law_apart : FnOk P w K mg base CX0 11 T.a_law_apart T.d_law_apart ["thing"] (sp_law_apart K) := ok_law_apart T
  have G_law_pick : FnOk P w K mg base CX0 2 T.a_law_pick T.d_law_pick ["stream", "some"] (sp_law_pick K) := ok_law_pick T
  have G_law_vfirst_bad : FnOk P w K mg base CX0 4 T.a_law_vfirst_bad T.d_law_vfirst_bad ["text"] (sp_law_vfirst_bad K) := ok_law_vfirst_bad T
  have G_law_vline : FnOk P w K mg base CX0 3 T.a_law_vline T.d_law_vline ["line"] (sp_law_vline K) := ok_law_vline T
  have e : T.d_law = PySem.W.fnOf "law" "law" (defArgs s_law) (defBody s_law) (defScope s_law) .none kV doc pm an (.ref c) ct := by
    obtain ⟨oc', od', kV', doc', pm', an', cdv', ct', osl', _, lk', _⟩ := T.F_law.ex
    have q := lk'.symm.trans lL
    injection q with q
    injection q with _ _ q _
    injection q with q
  rw [e]
  refine fn_of lL hcd sc_law (fun vs H Q E h => len_law h) (fun A outer s H vs Q E hr h => ⟨t_law K Pt, PSs.nox ?_, rd_law h⟩)
  exact (pss_cons (ps_set (i := 1) sc_law.nd rfl (Or.inr rfl) (pe_call G_law_start (hr.mono (by omega)) (by rfl) T.g_law_start T.F_law_start.kp T.b_law_start .nil pass0 (pa_cons (pv 0) pa_nil)))
  (pss_cons (ps_for PassesOwn.never rfl (pi_range1 (by rfl) T.n_range (pa_cons pe_int pa_nil)) (pg_name (i := 2) sc_law.nd rfl (Or.inl rfl))
   (pss_cons (ps_set (i := 3) sc_law.nd rfl (Or.inr rfl) (pe_lc (own := [("deed", 15)]) rfl sc_law.nd (pi_range1 (by rfl) T.n_range (pa_cons (pe_call G_law_below (hr.mono (by omega)) (by rfl) T.g_law_below T.F_law_below.kp T.b_law_below .nil pass0 (pa_cons (pv 1) (pa_cons pe_int pa_nil))) pa_nil)) (blkOk_by (N := N_law) (sc := defScope s_law) (by decide +kernel)) (fun _ _ _ _ _ => (pg_name (i := 15) sc_law.nd rfl (Or.inl rfl))) (fun _ _ _ _ _ => pts_nil) (fun _ _ _ _ _ => (pe_call G_law_vdeed (hr.mono (by omega)) (by rfl) T.g_law_vdeed T.F_law_vdeed.kp T.b_law_vdeed .nil pass0 (pa_cons (pv 1) pa_nil)))))
    (pss_cons (ps_set (i := 4) sc_law.nd rfl (Or.inl rfl) (pe_call G_law_vtold (hr.mono (by omega)) (by rfl) T.g_law_vtold T.F_law_vtold.kp T.b_law_vtold .nil pass0 (pa_cons (pv 3) pa_nil)))
    (pss_cons (ps_if (pt_not (pt_truth (pe_call G_law_same (hr.mono (by omega)) (by rfl) T.g_law_same T.F_law_same.kp T.b_law_same .nil pass0 (pa_cons (pe_lst (pa_cons (pe_call G_deeds_text (hr.mono (by omega)) (by rfl) T.g_deeds_text T.F_deeds_text.kp T.b_deeds_text .nil passL (pa_cons (pe_call G_law_loose (hr.mono (by omega)) (by rfl) T.g_law_loose T.F_law_loose.kp T.b_law_loose .nil pass0 (pa_cons (pv 1) (pa_cons (pv 3) pa_nil))) pa_nil)) (pa_cons (pe_call G_read_deeds (hr.mono (by omega)) (by rfl) T.g_read_deeds T.F_read_deeds.kp T.b_read_deeds .nil passL (pa_cons (pv 4) pa_nil)) (pa_cons (pe_call G_deeds_fault (hr.mono (by omega)) (by rfl) T.g_deeds_fault T.F_deeds_fault.kp T.b_deeds_fault .nil pass0 (pa_cons (pv 4) pa_nil)) pa_nil)))) (pa_cons (pe_lst (pa_cons (pv 4) (pa_cons (pv 3) (pa_cons pe_non pa_nil)))) pa_nil))) (by intro _; rfl)))
     (pss_one (ps_ret pe_bl))
     pss_nil)
    (pss_cons (ps_if (pt_not (pt_truth (pe_call G_law_apart (hr.mono (by omega)) (by rfl) T.g_law_apart T.F_law_apart.kp T.b_law_apart .nil pass0 (pa_cons (pe_lst (pa_cons (pe_call G_read_deeds (hr.mono (by omega)) (by rfl) T.g_read_deeds T.F_read_deeds.kp T.b_read_deeds .nil passL (pa_cons (pv 4) pa_nil)) (pa_cons (pe_call G_read_deeds (hr.mono (by omega)) (by rfl) T.g_read_deeds T.F_read_deeds.kp T.b_read_deeds .nil passL (pa_cons (pv 4) pa_nil)) pa_nil))) pa_nil)) (by intro _; rfl)))
     (pss_one (ps_ret pe_bl))
     pss_nil)
    (pss_cons (ps_for PassesOwn.never rfl (pi_range1 (by rfl) T.n_range (pa_cons pe_int pa_nil)) (pg_name (i := 5) sc_law.nd rfl (Or.inl rfl))
     (pss_cons (ps_asg (pe_tup (pa_cons (pe_call G_law_below (hr.mono (by omega)) (by rfl) T.g_law_below T.F_law_below.kp T.b_law_below .nil pass0 (pa_cons (pv 1) (pa_cons (pe_op oAdd (pe_callB call_len (by rfl) T.n_len (by decide +kernel) (pa_cons (pv 4) pa_nil)) pe_int) pa_nil))) (pa_cons (pv 4) pa_nil))) (pg_tup (by rfl) (pgs_cons (pg_name (i := 13) sc_law.nd rfl (Or.inr rfl)) (pgs_cons (pg_name (i := 10) sc_law.nd rfl (Or.inr rfl)) pgs_nil))))
      (pss_cons (ps_set (i := 9) sc_law.nd rfl (Or.inl rfl) (pe_call G_law_pick (hr.mono (by omega)) (by rfl) T.g_law_pick T.F_law_pick.kp T.b_law_pick .nil pass0 (pa_cons (pv 1) (pa_cons (pe_lst (pa_cons pe_str (pa_cons pe_str (pa_cons pe_str (pa_cons pe_str (pa_cons pe_str (pa_cons pe_str (pa_cons pe_str (pa_cons pe_str (pa_cons pe_str (pa_cons pe_str (pa_cons pe_str (pa_cons pe_str (pa_cons pe_str (pa_cons pe_str (pa_cons pe_str (pa_cons pe_str pa_nil))))))))))))))))) pa_nil))))
      (pss_cons (ps_set (i := 10) sc_law.nd rfl (Or.inr rfl) (pe_op op_add_str (pe_op op_add_str (pe_slice sl_str (pv 10) po_none (po_some (pv 13))) (pv 9)) (pe_slice sl_str (pv 10) (po_some (pe_op oAdd (pv 13) (pe_call G_law_below (hr.mono (by omega)) (by rfl) T.g_law_below T.F_law_below.kp T.b_law_below .nil pass0 (pa_cons (pv 1) (pa_cons pe_int pa_nil))))) po_none)))
      (pss_cons (ps_set (i := 11) sc_law.nd rfl (Or.inl rfl) (pe_call G_law_vfirst_bad (hr.mono (by omega)) (by rfl) T.g_law_vfirst_bad T.F_law_vfirst_bad.kp T.b_law_vfirst_bad .nil pass0 (pa_cons (pv 10) pa_nil)))
      (pss_cons (ps_if (pt_not (pt_truth (pe_call G_law_same (hr.mono (by omega)) (by rfl) T.g_law_same T.F_law_same.kp T.b_law_same .nil pass0 (pa_cons (pe_call G_deeds_fault (hr.mono (by omega)) (by rfl) T.g_deeds_fault T.F_deeds_fault.kp T.b_deeds_fault .nil pass0 (pa_cons (pv 10) pa_nil)) (pa_cons (pv 11) pa_nil))) (by intro _; rfl)))
       (pss_one (ps_ret pe_bl))
       pss_nil)
      (pss_one (ps_if (pt_cmpR op_isN (pv 11) pe_non (nomark _))
       (pss_cons (ps_setLc (i := 16) (own := [("line", 17)]) rfl sc_law.nd rfl rfl (sw_true rfl rfl rfl (by decide +kernel)) (pi_seq (pe_slice sl_seq (pe_split (pv 10) pe_str) po_none (po_some (pe_un un_neg pe_int)))) (blkOk_by (N := N_law) (sc := defScope s_law) (by decide +kernel)) (fun _ _ _ _ _ => (pg_name (i := 17) sc_law.nd rfl (Or.inl rfl))) (fun _ _ _ _ _ => pts_nil) (fun _ _ _ _ _ => (pe_call G_law_vline (hr.mono (by omega)) (by rfl) T.g_law_vline T.F_law_vline.kp T.b_law_vline .nil pass0 (pa_cons (pv 17) pa_nil))))
        (pss_one (ps_if (pt_not (pt_truth (pe_call G_law_same (hr.mono (by omega)) (by rfl) T.g_law_same T.F_law_same.kp T.b_law_same .nil pass0 (pa_cons (pe_lst (pa_cons (pe_callK0 G_read_deeds (hr.mono (by omega)) (by rfl) T.g_read_deeds T.F_read_deeds.kp (KB_read_deeds_text T.F_read_deeds) passL (pk_cons (pv 10) pk_nil)) (pa_cons (pe_call G_deeds_text (hr.mono (by omega)) (by rfl) T.g_deeds_text T.F_deeds_text.kp T.b_deeds_text .nil passL (pa_cons (pv 16) pa_nil)) pa_nil))) (pa_cons (pe_lst (pa_cons (pv 16) (pa_cons (pv 10) pa_nil))) pa_nil))) (by intro _; rfl)))
         (pss_one (ps_ret pe_bl))
         pss_nil)))
       (pss_one (ps_if (pt_not (pt_truth (pe_call G_law_same (hr.mono (by omega)) (by rfl) T.g_law_same T.F_law_same.kp T.b_law_same .nil pass0 (pa_cons (pe_lamF (k := 9) T.F_law_vmet (by rfl) T.g_law_vmet T.b_law_vmet sc_law_vmet rfl (by first | exact Or.inl rfl | exact Or.inr (Or.inl rfl)) (fun _ => law_vmet_gives T M) TB rfl (hr.mono (by omega)) (LamX.lamS_by (sc := defScope s_law) (by decide +kernel)) rfl (fun _ _ _ _ _ => rfl) (fun A outer s H E f c' hr => (pe_call G_read_deeds (hr.mono (by omega)) (by rfl) T.g_read_deeds T.F_read_deeds.kp T.b_read_deeds .nil (passes_call (takes_of rfl rfl rfl rfl) fun _ _ _ _ h => h) (pa_cons (pv 10) pa_nil)))) (pa_cons (pe_tup (pa_cons pe_str (pa_cons (pv 11) pa_nil))) pa_nil))) (by intro _; rfl)))
         (pss_one (ps_ret pe_bl))
         pss_nil))))))))))
    (pss_cons (ps_set (i := 6) sc_law.nd rfl (Or.inl rfl) (pe_lst (pa_cons pe_non (pa_cons pe_int (pa_cons pe_str (pa_cons (pe_tup (pa_cons pe_str (pa_cons pe_str pa_nil))) (pa_cons (pe_tup (pa_cons pe_str pa_nil)) (pa_cons (pe_tup (pa_cons pe_str (pa_cons pe_str (pa_cons pe_str pa_nil)))) (pa_cons (pe_tup (pa_cons pe_str (pa_cons pe_str (pa_cons (pe_lst pa_nil) pa_nil)))) (pa_cons (pe_tup (pa_cons pe_str (pa_cons pe_str (pa_cons (pe_lst (pa_cons pe_int pa_nil)) pa_nil)))) (pa_cons (pe_tup (pa_cons pe_str (pa_cons pe_str (pa_cons (pe_lst pa_nil) pa_nil)))) (pa_cons (pe_tup (pa_cons pe_str (pa_cons pe_str pa_nil))) pa_nil))))))))))))
    (pss_cons (ps_expr (pe_bm PySem.F.plainAttrs_list PySem.F.slot_list_extend PySem.F.type_list_extend mt_extend (pv 6) (pa_cons (pe_lst (pa_cons (pe_tup (pa_cons pe_str (pa_cons pe_str (pa_cons (pe_op oMul (pe_lst (pa_cons pe_str pa_nil)) pe_int) pa_nil)))) (pa_cons (pe_tup (pa_cons pe_str (pa_cons pe_str (pa_cons pe_str pa_nil)))) (pa_cons (pe_tup (pa_cons pe_str (pa_cons pe_str (pa_cons (pe_lst (pa_cons pe_int pa_nil)) pa_nil)))) (pa_cons (pe_tup (pa_cons pe_str (pa_cons pe_str (pa_cons (pe_lst (pa_cons pe_str (pa_cons pe_str pa_nil))) pa_nil)))) (pa_cons (pe_tup (pa_cons pe_str (pa_cons pe_str (pa_cons (pe_lst (pa_cons (pe_un un_neg pe_int) pa_nil)) pa_nil)))) pa_nil)))))) pa_nil)))
    (pss_cons (ps_asg (pe_tup (pa_cons (pe_call G_law_pick (hr.mono (by omega)) (by rfl) T.g_law_pick T.F_law_pick.kp T.b_law_pick .nil pass0 (pa_cons (pv 1) (pa_cons (pv 6) pa_nil))) (pa_cons (pe_call G_law_below (hr.mono (by omega)) (by rfl) T.g_law_below T.F_law_below.kp T.b_law_below .nil pass0 (pa_cons (pv 1) (pa_cons (pe_op oAdd (pe_callB call_len (by rfl) T.n_len (by decide +kernel) (pa_cons (pv 3) pa_nil)) pe_int) pa_nil))) (pa_cons (pe_call G_law_pick (hr.mono (by omega)) (by rfl) T.g_law_pick T.F_law_pick.kp T.b_law_pick .nil pass0 (pa_cons (pv 1) (pa_cons (pe_lst (pa_cons pe_non (pa_cons pe_int (pa_cons pe_str (pa_cons pe_dnewK pa_nil))))) pa_nil))) pa_nil)))) (pg_tup (by rfl) (pgs_cons (pg_name (i := 12) sc_law.nd rfl (Or.inr rfl)) (pgs_cons (pg_name (i := 13) sc_law.nd rfl (Or.inr rfl)) (pgs_cons (pg_name (i := 14) sc_law.nd rfl (Or.inr rfl)) pgs_nil)))))
    (pss_cons (ps_set (i := 7) sc_law.nd rfl (Or.inl rfl) (pe_lst (pa_cons (pe_lamF (k := 9) T.F_law_vmet (by rfl) T.g_law_vmet T.b_law_vmet sc_law_vmet rfl (by first | exact Or.inl rfl | exact Or.inr (Or.inl rfl)) (fun _ => law_vmet_gives T M) TB rfl (hr.mono (by omega)) (LamX.lamS_by (sc := defScope s_law) (by decide +kernel)) rfl (fun _ _ _ _ _ => rfl) (fun A outer s H E f c' hr => (pe_call G_deeds_text (hr.mono (by omega)) (by rfl) T.g_deeds_text T.F_deeds_text.kp T.b_deeds_text .nil (passes_call (takes_of rfl rfl rfl rfl) fun _ _ _ _ h => h) (pa_cons (pe_op oAdd (pe_op oAdd (pe_slice sl_seq (pv 3) po_none (po_some (pv 13))) (pe_lst (pa_cons (pv 12) pa_nil))) (pe_slice sl_seq (pv 3) (po_some (pv 13)) po_none)) pa_nil)))) (pa_cons (pe_lamF (k := 9) T.F_law_vmet (by rfl) T.g_law_vmet T.b_law_vmet sc_law_vmet rfl (by first | exact Or.inl rfl | exact Or.inr (Or.inl rfl)) (fun _ => law_vmet_gives T M) TB rfl (hr.mono (by omega)) (LamX.lamS_by (sc := defScope s_law) (by decide +kernel)) rfl (fun _ _ _ _ _ => rfl) (fun A outer s H E f c' hr => (pe_call G_deeds_text (hr.mono (by omega)) (by rfl) T.g_deeds_text T.F_deeds_text.kp T.b_deeds_text .nil (passes_call (takes_of rfl rfl rfl rfl) fun _ _ _ _ h => h) (pa_cons (pv 14) pa_nil)))) pa_nil))))
    (pss_cons (ps_if (pt_not (pt_truth (pe_call G_law_same (hr.mono (by omega)) (by rfl) T.g_law_same T.F_law_same.kp T.b_law_same .nil pass0 (pa_cons (pv 7) (pa_cons (pe_lst (pa_cons (pe_tup (pa_cons pe_str (pa_cons (pv 13) pa_nil))) (pa_cons (pe_tup (pa_cons pe_str (pa_cons pe_int pa_nil))) pa_nil))) pa_nil))) (by intro _; rfl)))
     (pss_one (ps_ret pe_bl))
     pss_nil)
    (pss_cons (ps_set (i := 8) sc_law.nd rfl (Or.inr rfl) (pe_lst (pa_cons (pe_tup (pa_cons pe_str (pa_cons pe_str (pa_cons (pe_op oMul (pe_lst (pa_cons pe_int pa_nil)) pe_int) pa_nil)))) (pa_cons (pe_tup (pa_cons pe_str (pa_cons pe_str (pa_cons (pe_op oMul (pe_lst (pa_cons pe_int pa_nil)) pe_int) pa_nil)))) pa_nil))))
    (pss_cons (ps_if (PW.pt (pw_and (pt_cmpR (op_eqD hr.units) (pv 2) pe_int (nomark _)) (pw_and1 (pt_not (pt_truth (pe_call G_law_same (hr.mono (by omega)) (by rfl) T.g_law_same T.F_law_same.kp T.b_law_same .nil pass0 (pa_cons (pe_lst (pa_cons (pe_callB call_len (by rfl) T.n_len (by decide +kernel) (pa_cons (pe_call G_deeds_text (hr.mono (by omega)) (by rfl) T.g_deeds_text T.F_deeds_text.kp T.b_deeds_text .nil passL (pa_cons (pe_slice sl_seq (pv 8) po_none (po_some pe_int)) pa_nil)) pa_nil)) (pa_cons (pe_lamF (k := 9) T.F_law_vmet (by rfl) T.g_law_vmet T.b_law_vmet sc_law_vmet rfl (by first | exact Or.inl rfl | exact Or.inr (Or.inl rfl)) (fun _ => law_vmet_gives T M) TB rfl (hr.mono (by omega)) (LamX.lamS_by (sc := defScope s_law) (by decide +kernel)) rfl (fun _ _ _ _ _ => rfl) (fun A outer s H E f c' hr => (pe_call G_deeds_text (hr.mono (by omega)) (by rfl) T.g_deeds_text T.F_deeds_text.kp T.b_deeds_text .nil (passes_call (takes_of rfl rfl rfl rfl) fun _ _ _ _ h => h) (pa_cons (pv 8) pa_nil)))) pa_nil))) (pa_cons (pe_lst (pa_cons pe_int (pa_cons (pe_tup (pa_cons pe_str (pa_cons pe_int pa_nil))) pa_nil))) pa_nil))) (by intro _; rfl))))))
     (pss_one (ps_ret pe_bl))
     pss_nil)
    (pss_one (ps_if (pt_not (pt_truth (pe_call G_law_same (hr.mono (by omega)) (by rfl) T.g_law_same T.F_law_same.kp T.b_law_same .nil pass0 (pa_cons (pe_lst (pa_cons (pe_call G_deeds_fault (hr.mono (by omega)) (by rfl) T.g_deeds_fault T.F_deeds_fault.kp T.b_deeds_fault .nil pass0 (pa_cons pe_non pa_nil)) (pa_cons (pe_call G_deeds_fault (hr.mono (by omega)) (by rfl) T.g_deeds_fault T.F_deeds_fault.kp T.b_deeds_fault .nil pass0 (pa_cons pe_int pa_nil)) (pa_cons (pe_call G_deeds_fault (hr.mono (by omega)) (by rfl) T.g_deeds_fault T.F_deeds_fault.kp T.b_deeds_fault .nil pass0 (pa_cons (pe_lst (pa_cons (pv 4) pa_nil)) pa_nil)) (pa_cons (pe_call G_deeds_fault (hr.mono (by omega)) (by rfl) T.g_deeds_fault T.F_deeds_fault.kp T.b_deeds_fault .nil pass0 (pa_cons pe_str pa_nil)) pa_nil))))) (pa_cons (pe_lst (pa_cons pe_int (pa_cons pe_int (pa_cons pe_int (pa_cons pe_non pa_nil))))) pa_nil))) (by intro _; rfl)))
     (pss_one (ps_ret pe_bl))
     pss_nil)))))))))))))))
  (pss_one (ps_ret pe_bl))))
end
end K39

namespace K39
open PySem L2 RZ TL Sf
theorem df_mk {x : Str} {st : Stmt} {K : PySem.W.Frag} {h : Heap} {mg : Str → Option Value} {f : Addr} {oc : Value} {od an : Option Addr} {osl : Array (Option Value)} {kV doc pm cdv ct : Value} (X : K.In h) (G : h.Ns mainGlobals mg) (a : PySem.W.nsIn K mainGlobals x = some (some (.ref f)))
    (l : K.lookup f = some ⟨oc, od, .func (PySem.W.fnOf x x (defArgs st) (defBody st) (defScope st) .none kV doc pm an cdv ct), osl⟩) (c : PySem.W.codeIn K cdv x = true) (k : PySem.W.keepIn K (.ref f) = true) : ∃ fd, Fun K x x st f fd ∧ mg x = some (.ref f) := ⟨_, fun_mk l c k, PySem.W.mg_of X G a⟩
theorem tp_mk {x : Str} {K : PySem.W.Frag} {h : Heap} {mg : Str → Option Value} {a n : Nat} {oc : Value} {od : Option Addr} {osl : Array (Option Value)} {its : Array Value} (ds : List PyData) (X : K.In h) (G : h.Ns mainGlobals mg) (e : PySem.W.nsIn K mainGlobals x = some (some (.ref a)))
    (l : K.lookup a = some ⟨oc, od, .seq its n, osl⟩) (c : oc = .type "tuple") (hz : its.size ≤ sizeLine) (hv : Vals (ds.map vOf) its.toList) (hf : ds.all flatD = true) : ∃ a, mg x = some (.ref a) ∧ ∀ F : Hp, Sf.Rp K F (.ref a) (.tuple ds) := ⟨a, PySem.W.mg_of X G e, Sf.rp_ktup l c rfl hz hv hf⟩
theorem dc_mk {x : Str} {K : PySem.W.Frag} {w : World} {h : Heap} {mg : Str → Option Value} {a n : Nat} {des : Array DictEntry} (es : List (Str × Int)) (X : K.In h) (G : h.Ns mainGlobals mg) (e : PySem.W.nsIn K mainGlobals x = some (some (.ref a)))
    (l : K.lookup a = some ⟨.type "dict", none, .dict des n, #[]⟩) (lit : PySem.W.KeysLit w.params des.toList) (low : (a == sysModules) = false) (hp : Paired (fun (p : Str × Int) e => ∃ t t', e.key = .str p.1 t ∧ e.val = .int p.2 t') es des.toList) : ∃ a, mg x = some (.ref a) ∧ Sf.KdI K w a es := ⟨a, PySem.W.mg_of X G e, ⟨des, n, ⟨l, lit, low⟩, hp⟩⟩
theorem ex_mk {x f q : Str} {st : Stmt} {K : PySem.W.Frag} {h : Heap} {mg : Str → Option Value} {C fI N : Addr} {nm q' : Str} {bs bm sub : List Value} {sn : List Str} {ab : Bool} {col : Option Bool} {dd : Option Addr} {m0 m1 m2 m3 m5 : Option Value} {oc kV doc pm cdv ct : Value} {od an : Option Addr} {osl : Array (Option Value)} (X : K.In h) (G : h.Ns mainGlobals mg)
    (aC : PySem.W.nsIn K mainGlobals x = some (some (.ref C))) (xL : K.lookup C = some (excClassObj nm q' C N bs bm true sn sub ab col dd m0 m1 m2 m3 m5 "ValueError.__new__")) (rB : PySem.HandSPX.refsVE bm = true)
    (sa : PySem.W.findIn K (.ref C) "__setattr__" = some (some (.builtin "object.__setattr__"))) (ga : PySem.W.findIn K (.ref C) "__getattribute__" = some (some (.builtin "BaseException.__getattribute__"))) (gg : PySem.W.findIn K (.ref C) "__getattr__" = some none) (nb : PySem.W.findIn K (.ref C) f = some none)
    (a1 : PySem.W.findIn K (.ref C) "__init__" = some (some (.ref fI))) (t1 : PySem.W.typeIn K (.ref fI) = some (.type "function")) (l1 : K.lookup fI = some ⟨oc, od, .func (PySem.W.fnOf "__init__" q (defArgs st) (defBody st) (defScope st) .none kV doc pm an cdv ct), osl⟩) (c1 : PySem.W.codeIn K cdv q = true) (k1 : PySem.W.keepIn K (.ref fI) = true)
    (kC : PySem.W.keepIn K (.ref C) = true) (eC : PySem.W.subIn K (.ref C) (.type "BaseException") = some true) (tC : PySem.W.typeIn K (.ref C) = some (.type "type")) (hC : PySem.W.hasDictIn K C = true) : ∃ di, Fun K "__init__" q st fI di ∧ mg x = some (.ref C) ∧ Sf.ExT K x f C fI :=
  ⟨_, fun_mk l1 c1 k1, PySem.W.mg_of X G aC, ⟨aC, ⟨⟨nm, q', N, bs, bm, sn, sub, ab, col, dd, m0, m1, m2, m3, m5, xL, rB⟩, sa, eC, tC, kC⟩, a1, t1, nb, ⟨ga, gg, eC, hC⟩⟩⟩
theorem exm_mk {K : PySem.W.Frag} {S : Addr} {t : Value} {b : Bool} (h1 : PySem.W.subIn K (.ref S) (.type "BaseException") = some true) (h2 : PySem.W.isClsIn K S = true) (h3 : PySem.W.typeIn K (.ref S) = some (.type "type")) (h4 : PySem.W.subIn K t (.ref S) = some b) : PySem.W.exmOne K t (.ref S) = some b := by
  have e1 : (PySem.W.subIn K (.ref S) (.type "BaseException") == some true) = true := by rw [h1] <;> rfl
  have e2 : ((PySem.W.clsIn K S).isSome && PySem.W.typeIn K (.ref S) == some (.type "type")) = true := by
    have h2' : (PySem.W.clsIn K S).isSome = true := h2
    rw [h2', h3] <;> rfl
  show (if (PySem.W.subIn K (.ref S) (.type "BaseException") == some true) = true then (if ((PySem.W.clsIn K S).isSome && PySem.W.typeIn K (.ref S) == some (.type "type")) = true then PySem.W.subIn K t (.ref S) else none) else none) = some b
  rw [if_pos e1, if_pos e2]
  exact h4
theorem mi_mk {x : Str} {i : Int} {v : Value} {K : PySem.W.Frag} {h : Heap} {mg : Str → Option Value} (X : K.In h) (G : h.Ns mainGlobals mg) (a : PySem.W.nsIn K mainGlobals x = some (some v)) (b : ∃ t, v = .int i t) : ∃ t, mg x = some (.int i t) := by
  obtain ⟨t, rfl⟩ := b
  exact ⟨t, PySem.W.mg_of X G a⟩
theorem ms_mk {x i : Str} {v : Value} {K : PySem.W.Frag} {h : Heap} {mg : Str → Option Value} (X : K.In h) (G : h.Ns mainGlobals mg) (a : PySem.W.nsIn K mainGlobals x = some (some v)) (b : ∃ t, v = .str i t) : ∃ t, mg x = some (.str i t) := by
  obtain ⟨t, rfl⟩ := b
  exact ⟨t, PySem.W.mg_of X G a⟩
theorem txt_mk {w : World} {K : PySem.W.Frag} {mg : Str → Option Value} {f_is_row f_is_number f_is_name f_is_octets f_is_deed f_octet_of f_rest_in f_plain_deed f_deeds_text f_deed_of f_lines_read f_deeds_fault f_read_deeds f_law_start f_law_below f_law_pick f_law_mixed f_law_same f_law_loose f_law_spoilt f_law_is_once f_law_apart f_law_kkeys f_law_vname f_law_voctet f_law_vline f_law_vfirst_bad f_law_vdeed f_law_vtold f_law_vmet f_law c_BadDeed fi_BadDeed c_BadLine fi_BadLine : Addr}
    (D_is_row : ∃ fd, Fun K "is_row" "is_row" s_is_row f_is_row fd ∧ mg "is_row" = some (.ref f_is_row))
    (D_is_number : ∃ fd, Fun K "is_number" "is_number" s_is_number f_is_number fd ∧ mg "is_number" = some (.ref f_is_number))
    (D_is_name : ∃ fd, Fun K "is_name" "is_name" s_is_name f_is_name fd ∧ mg "is_name" = some (.ref f_is_name))
    (D_is_octets : ∃ fd, Fun K "is_octets" "is_octets" s_is_octets f_is_octets fd ∧ mg "is_octets" = some (.ref f_is_octets))
    (D_is_deed : ∃ fd, Fun K "is_deed" "is_deed" s_is_deed f_is_deed fd ∧ mg "is_deed" = some (.ref f_is_deed))
    (D_octet_of : ∃ fd, Fun K "octet_of" "octet_of" s_octet_of f_octet_of fd ∧ mg "octet_of" = some (.ref f_octet_of))
    (D_rest_in : ∃ fd, Fun K "rest_in" "rest_in" s_rest_in f_rest_in fd ∧ mg "rest_in" = some (.ref f_rest_in))
    (D_plain_deed : ∃ fd, Fun K "plain_deed" "plain_deed" s_plain_deed f_plain_deed fd ∧ mg "plain_deed" = some (.ref f_plain_deed))
    (D_deeds_text : ∃ fd, Fun K "deeds_text" "deeds_text" s_deeds_text f_deeds_text fd ∧ mg "deeds_text" = some (.ref f_deeds_text))
    (D_deed_of : ∃ fd, Fun K "deed_of" "deed_of" s_deed_of f_deed_of fd ∧ mg "deed_of" = some (.ref f_deed_of))
    (D_lines_read : ∃ fd, Fun K "lines_read" "lines_read" s_lines_read f_lines_read fd ∧ mg "lines_read" = some (.ref f_lines_read))
    (D_deeds_fault : ∃ fd, Fun K "deeds_fault" "deeds_fault" s_deeds_fault f_deeds_fault fd ∧ mg "deeds_fault" = some (.ref f_deeds_fault))
    (D_read_deeds : ∃ fd, Fun K "read_deeds" "read_deeds" s_read_deeds f_read_deeds fd ∧ mg "read_deeds" = some (.ref f_read_deeds))
    (D_law_start : ∃ fd, Fun K "_law_start" "_law_start" s_law_start f_law_start fd ∧ mg "_law_start" = some (.ref f_law_start))
    (D_law_below : ∃ fd, Fun K "_law_below" "_law_below" s_law_below f_law_below fd ∧ mg "_law_below" = some (.ref f_law_below))
    (D_law_pick : ∃ fd, Fun K "_law_pick" "_law_pick" s_law_pick f_law_pick fd ∧ mg "_law_pick" = some (.ref f_law_pick))
    (D_law_mixed : ∃ fd, Fun K "_law_mixed" "_law_mixed" s_law_mixed f_law_mixed fd ∧ mg "_law_mixed" = some (.ref f_law_mixed))
    (D_law_same : ∃ fd, Fun K "_law_same" "_law_same" s_law_same f_law_same fd ∧ mg "_law_same" = some (.ref f_law_same))
    (D_law_loose : ∃ fd, Fun K "_law_loose" "_law_loose" s_law_loose f_law_loose fd ∧ mg "_law_loose" = some (.ref f_law_loose))
    (D_law_spoilt : ∃ fd, Fun K "_law_spoilt" "_law_spoilt" s_law_spoilt f_law_spoilt fd ∧ mg "_law_spoilt" = some (.ref f_law_spoilt))
    (D_law_is_once : ∃ fd, Fun K "_law_is_once" "_law_is_once" s_law_is_once f_law_is_once fd ∧ mg "_law_is_once" = some (.ref f_law_is_once))
    (D_law_apart : ∃ fd, Fun K "_law_apart" "_law_apart" s_law_apart f_law_apart fd ∧ mg "_law_apart" = some (.ref f_law_apart))
    (D_law_kkeys : ∃ fd, Fun K "_law_kkeys" "_law_kkeys" s_law_kkeys f_law_kkeys fd ∧ mg "_law_kkeys" = some (.ref f_law_kkeys))
    (D_law_vname : ∃ fd, Fun K "_law_vname" "_law_vname" s_law_vname f_law_vname fd ∧ mg "_law_vname" = some (.ref f_law_vname))
    (D_law_voctet : ∃ fd, Fun K "_law_voctet" "_law_voctet" s_law_voctet f_law_voctet fd ∧ mg "_law_voctet" = some (.ref f_law_voctet))
    (D_law_vline : ∃ fd, Fun K "_law_vline" "_law_vline" s_law_vline f_law_vline fd ∧ mg "_law_vline" = some (.ref f_law_vline))
    (D_law_vfirst_bad : ∃ fd, Fun K "_law_vfirst_bad" "_law_vfirst_bad" s_law_vfirst_bad f_law_vfirst_bad fd ∧ mg "_law_vfirst_bad" = some (.ref f_law_vfirst_bad))
    (D_law_vdeed : ∃ fd, Fun K "_law_vdeed" "_law_vdeed" s_law_vdeed f_law_vdeed fd ∧ mg "_law_vdeed" = some (.ref f_law_vdeed))
    (D_law_vtold : ∃ fd, Fun K "_law_vtold" "_law_vtold" s_law_vtold f_law_vtold fd ∧ mg "_law_vtold" = some (.ref f_law_vtold))
    (D_law_vmet : ∃ fd, Fun K "_law_vmet" "_law_vmet" s_law_vmet f_law_vmet fd ∧ mg "_law_vmet" = some (.ref f_law_vmet))
    (D_law : ∃ fd, Fun K "law" "law" s_law f_law fd ∧ mg "law" = some (.ref f_law))
    (E_BadDeed : ∃ di, Fun K "__init__" "BadDeed.__init__" s_init_BadDeed fi_BadDeed di ∧ mg "BadDeed" = some (.ref c_BadDeed) ∧ Sf.ExT K "BadDeed" "index" c_BadDeed fi_BadDeed)
    (E_BadLine : ∃ di, Fun K "__init__" "BadLine.__init__" s_init_BadLine fi_BadLine di ∧ mg "BadLine" = some (.ref c_BadLine) ∧ Sf.ExT K "BadLine" "line" c_BadLine fi_BadLine)
    (u_KEYS : ∃ a, mg "KEYS" = some (.ref a) ∧ ∀ F : Hp, Sf.Rp K F (.ref a) (.tuple [(.str "signs"), (.str "kind"), (.str "filter"), (.str "from"), (.str "to"), (.str "height"), (.str "start"), (.str "at"), (.str "read"), (.str "when"), (.str "nought"), (.str "above"), (.str "up"), (.str "down"), (.str "write"), (.str "same"), (.str "go"), (.str "end"), (.str "pipe"), (.str "then")]))
    (u_SIZES : ∃ a, mg "SIZES" = some (.ref a) ∧ Sf.KdI K w a [("put", 3), ("drop", 2), ("exchange", 3), ("chain", 3)])
    (m_LETTERS : ∃ t, mg "LETTERS" = some (.str "abcdefghijklmnopqrstuvwxyz" t))
    (m_FIGURES_signs : ∃ t, mg "FIGURES_signs" = some (.str "0123456789" t))
    (m_MOST : ∃ t, mg "MOST" = some (.int 20000 t))
    (m_LINKS : ∃ t, mg "LINKS" = some (.int 4 t))
    (m_FIGURES_deedtexts : ∃ t, mg "FIGURES_deedtexts" = some (.str "0123456789" t))
    (z_all : mg "all" = none)
    (z_bool : mg "bool" = none)
    (z_dict : mg "dict" = none)
    (z_enumerate : mg "enumerate" = none)
    (z_int : mg "int" = none)
    (z_isinstance : mg "isinstance" = none)
    (z_len : mg "len" = none)
    (z_list : mg "list" = none)
    (z_range : mg "range" = none)
    (z_str : mg "str" = none)
    (z_tuple : mg "tuple" = none)
    (z_zip : mg "zip" = none)
    : ∃ T : Txt w K mg, T.a_law = f_law ∧ T.c_BadDeed = c_BadDeed ∧ T.c_BadLine = c_BadLine := by
  obtain ⟨d_is_row, F_is_row, g_is_row⟩ := D_is_row
  obtain ⟨d_is_number, F_is_number, g_is_number⟩ := D_is_number
  obtain ⟨d_is_name, F_is_name, g_is_name⟩ := D_is_name
  obtain ⟨d_is_octets, F_is_octets, g_is_octets⟩ := D_is_octets
  obtain ⟨d_is_deed, F_is_deed, g_is_deed⟩ := D_is_deed
  obtain ⟨d_octet_of, F_octet_of, g_octet_of⟩ := D_octet_of
  obtain ⟨d_rest_in, F_rest_in, g_rest_in⟩ := D_rest_in
  obtain ⟨d_plain_deed, F_plain_deed, g_plain_deed⟩ := D_plain_deed
  obtain ⟨d_deeds_text, F_deeds_text, g_deeds_text⟩ := D_deeds_text
  obtain ⟨d_deed_of, F_deed_of, g_deed_of⟩ := D_deed_of
  obtain ⟨d_lines_read, F_lines_read, g_lines_read⟩ := D_lines_read
  obtain ⟨d_deeds_fault, F_deeds_fault, g_deeds_fault⟩ := D_deeds_fault
  obtain ⟨d_read_deeds, F_read_deeds, g_read_deeds⟩ := D_read_deeds
  obtain ⟨d_law_start, F_law_start, g_law_start⟩ := D_law_start
  obtain ⟨d_law_below, F_law_below, g_law_below⟩ := D_law_below
  obtain ⟨d_law_pick, F_law_pick, g_law_pick⟩ := D_law_pick
  obtain ⟨d_law_mixed, F_law_mixed, g_law_mixed⟩ := D_law_mixed
  obtain ⟨d_law_same, F_law_same, g_law_same⟩ := D_law_same
  obtain ⟨d_law_loose, F_law_loose, g_law_loose⟩ := D_law_loose
  obtain ⟨d_law_spoilt, F_law_spoilt, g_law_spoilt⟩ := D_law_spoilt
  obtain ⟨d_law_is_once, F_law_is_once, g_law_is_once⟩ := D_law_is_once
  obtain ⟨d_law_apart, F_law_apart, g_law_apart⟩ := D_law_apart
  obtain ⟨d_law_kkeys, F_law_kkeys, g_law_kkeys⟩ := D_law_kkeys
  obtain ⟨d_law_vname, F_law_vname, g_law_vname⟩ := D_law_vname
  obtain ⟨d_law_voctet, F_law_voctet, g_law_voctet⟩ := D_law_voctet
  obtain ⟨d_law_vline, F_law_vline, g_law_vline⟩ := D_law_vline
  obtain ⟨d_law_vfirst_bad, F_law_vfirst_bad, g_law_vfirst_bad⟩ := D_law_vfirst_bad
  obtain ⟨d_law_vdeed, F_law_vdeed, g_law_vdeed⟩ := D_law_vdeed
  obtain ⟨d_law_vtold, F_law_vtold, g_law_vtold⟩ := D_law_vtold
  obtain ⟨d_law_vmet, F_law_vmet, g_law_vmet⟩ := D_law_vmet
  obtain ⟨d_law, F_law, g_law⟩ := D_law
  obtain ⟨di_BadDeed, FI_BadDeed, g_BadDeed, x_BadDeed⟩ := E_BadDeed
  obtain ⟨di_BadLine, FI_BadLine, g_BadLine, x_BadLine⟩ := E_BadLine
  obtain ⟨a_KEYS, g_KEYS, q_KEYS⟩ := u_KEYS
  obtain ⟨a_SIZES, g_SIZES, q_SIZES⟩ := u_SIZES
  obtain ⟨t_LETTERS, g_LETTERS⟩ := m_LETTERS
  obtain ⟨t_FIGURES_signs, g_FIGURES_signs⟩ := m_FIGURES_signs
  obtain ⟨t_MOST, g_MOST⟩ := m_MOST
  obtain ⟨t_LINKS, g_LINKS⟩ := m_LINKS
  obtain ⟨t_FIGURES_deedtexts, g_FIGURES_deedtexts⟩ := m_FIGURES_deedtexts
  exact ⟨{ a_is_row := f_is_row, d_is_row := d_is_row, F_is_row := F_is_row, g_is_row := g_is_row, b_is_row := F_is_row.binds (ps := ["thing"]) (fun _ _ _ _ _ _ us hl => match us, hl with | [_], _ => rfl), a_is_number := f_is_number, d_is_number := d_is_number, F_is_number := F_is_number, g_is_number := g_is_number, b_is_number := F_is_number.binds (ps := ["thing", "low", "high"]) (fun _ _ _ _ _ _ us hl => match us, hl with | [_, _, _], _ => rfl), a_is_name := f_is_name, d_is_name := d_is_name, F_is_name := F_is_name, g_is_name := g_is_name, b_is_name := F_is_name.binds (ps := ["thing"]) (fun _ _ _ _ _ _ us hl => match us, hl with | [_], _ => rfl), a_is_octets := f_is_octets, d_is_octets := d_is_octets, F_is_octets := F_is_octets, g_is_octets := g_is_octets, b_is_octets := F_is_octets.binds (ps := ["thing"]) (fun _ _ _ _ _ _ us hl => match us, hl with | [_], _ => rfl), a_is_deed := f_is_deed, d_is_deed := d_is_deed, F_is_deed := F_is_deed, g_is_deed := g_is_deed, b_is_deed := F_is_deed.binds (ps := ["thing"]) (fun _ _ _ _ _ _ us hl => match us, hl with | [_], _ => rfl), a_octet_of := f_octet_of, d_octet_of := d_octet_of, F_octet_of := F_octet_of, g_octet_of := g_octet_of, b_octet_of := F_octet_of.binds (ps := ["word"]) (fun _ _ _ _ _ _ us hl => match us, hl with | [_], _ => rfl), a_rest_in := f_rest_in, d_rest_in := d_rest_in, F_rest_in := F_rest_in, g_rest_in := g_rest_in, b_rest_in := F_rest_in.binds (ps := ["word", "thing"]) (fun _ _ _ _ _ _ us hl => match us, hl with | [_, _], _ => rfl), a_plain_deed := f_plain_deed, d_plain_deed := d_plain_deed, F_plain_deed := F_plain_deed, g_plain_deed := g_plain_deed, b_plain_deed := F_plain_deed.binds (ps := ["thing"]) (fun _ _ _ _ _ _ us hl => match us, hl with | [_], _ => rfl), a_deeds_text := f_deeds_text, d_deeds_text := d_deeds_text, F_deeds_text := F_deeds_text, g_deeds_text := g_deeds_text, b_deeds_text := F_deeds_text.binds (ps := ["deeds"]) (fun _ _ _ _ _ _ us hl => match us, hl with | [_], _ => rfl), a_deed_of := f_deed_of, d_deed_of := d_deed_of, F_deed_of := F_deed_of, g_deed_of := g_deed_of, b_deed_of := F_deed_of.binds (ps := ["line"]) (fun _ _ _ _ _ _ us hl => match us, hl with | [_], _ => rfl), a_lines_read := f_lines_read, d_lines_read := d_lines_read, F_lines_read := F_lines_read, g_lines_read := g_lines_read, b_lines_read := F_lines_read.binds (ps := ["text"]) (fun _ _ _ _ _ _ us hl => match us, hl with | [_], _ => rfl), a_deeds_fault := f_deeds_fault, d_deeds_fault := d_deeds_fault, F_deeds_fault := F_deeds_fault, g_deeds_fault := g_deeds_fault, b_deeds_fault := F_deeds_fault.binds (ps := ["text"]) (fun _ _ _ _ _ _ us hl => match us, hl with | [_], _ => rfl), a_read_deeds := f_read_deeds, d_read_deeds := d_read_deeds, F_read_deeds := F_read_deeds, g_read_deeds := g_read_deeds, b_read_deeds := F_read_deeds.binds (ps := ["text"]) (fun _ _ _ _ _ _ us hl => match us, hl with | [_], _ => rfl), a_law_start := f_law_start, d_law_start := d_law_start, F_law_start := F_law_start, g_law_start := g_law_start, b_law_start := F_law_start.binds (ps := ["script"]) (fun _ _ _ _ _ _ us hl => match us, hl with | [_], _ => rfl), a_law_below := f_law_below, d_law_below := d_law_below, F_law_below := F_law_below, g_law_below := g_law_below, b_law_below := F_law_below.binds (ps := ["stream", "many"]) (fun _ _ _ _ _ _ us hl => match us, hl with | [_, _], _ => rfl), a_law_pick := f_law_pick, d_law_pick := d_law_pick, F_law_pick := F_law_pick, g_law_pick := g_law_pick, b_law_pick := F_law_pick.binds (ps := ["stream", "some"]) (fun _ _ _ _ _ _ us hl => match us, hl with | [_, _], _ => rfl), a_law_mixed := f_law_mixed, d_law_mixed := d_law_mixed, F_law_mixed := F_law_mixed, g_law_mixed := g_law_mixed, b_law_mixed := F_law_mixed.binds (ps := ["stream", "some"]) (fun _ _ _ _ _ _ us hl => match us, hl with | [_, _], _ => rfl), a_law_same := f_law_same, d_law_same := d_law_same, F_law_same := F_law_same, g_law_same := g_law_same, b_law_same := F_law_same.binds (ps := ["found", "due"]) (fun _ _ _ _ _ _ us hl => match us, hl with | [_, _], _ => rfl), a_law_loose := f_law_loose, d_law_loose := d_law_loose, F_law_loose := F_law_loose, g_law_loose := g_law_loose, b_law_loose := F_law_loose.binds (ps := ["stream", "thing"]) (fun _ _ _ _ _ _ us hl => match us, hl with | [_, _], _ => rfl), a_law_spoilt := f_law_spoilt, d_law_spoilt := d_law_spoilt, F_law_spoilt := F_law_spoilt, g_law_spoilt := g_law_spoilt, b_law_spoilt := F_law_spoilt.binds (ps := ["thing"]) (fun _ _ _ _ _ _ us hl => match us, hl with | [_], _ => rfl), a_law_is_once := f_law_is_once, d_law_is_once := d_law_is_once, F_law_is_once := F_law_is_once, g_law_is_once := g_law_is_once, b_law_is_once := F_law_is_once.binds (ps := ["thing"]) (fun _ _ _ _ _ _ us hl => match us, hl with | [_], _ => rfl), a_law_apart := f_law_apart, d_law_apart := d_law_apart, F_law_apart := F_law_apart, g_law_apart := g_law_apart, b_law_apart := F_law_apart.binds (ps := ["thing"]) (fun _ _ _ _ _ _ us hl => match us, hl with | [_], _ => rfl), a_law_kkeys := f_law_kkeys, d_law_kkeys := d_law_kkeys, F_law_kkeys := F_law_kkeys, g_law_kkeys := g_law_kkeys, b_law_kkeys := F_law_kkeys.binds (ps := []) (fun _ _ _ _ _ _ us hl => match us, hl with | [], _ => rfl), a_law_vname := f_law_vname, d_law_vname := d_law_vname, F_law_vname := F_law_vname, g_law_vname := g_law_vname, b_law_vname := F_law_vname.binds (ps := ["word"]) (fun _ _ _ _ _ _ us hl => match us, hl with | [_], _ => rfl), a_law_voctet := f_law_voctet, d_law_voctet := d_law_voctet, F_law_voctet := F_law_voctet, g_law_voctet := g_law_voctet, b_law_voctet := F_law_voctet.binds (ps := ["word"]) (fun _ _ _ _ _ _ us hl => match us, hl with | [_], _ => rfl), a_law_vline := f_law_vline, d_law_vline := d_law_vline, F_law_vline := F_law_vline, g_law_vline := g_law_vline, b_law_vline := F_law_vline.binds (ps := ["line"]) (fun _ _ _ _ _ _ us hl => match us, hl with | [_], _ => rfl), a_law_vfirst_bad := f_law_vfirst_bad, d_law_vfirst_bad := d_law_vfirst_bad, F_law_vfirst_bad := F_law_vfirst_bad, g_law_vfirst_bad := g_law_vfirst_bad, b_law_vfirst_bad := F_law_vfirst_bad.binds (ps := ["text"]) (fun _ _ _ _ _ _ us hl => match us, hl with | [_], _ => rfl), a_law_vdeed := f_law_vdeed, d_law_vdeed := d_law_vdeed, F_law_vdeed := F_law_vdeed, g_law_vdeed := g_law_vdeed, b_law_vdeed := F_law_vdeed.binds (ps := ["stream"]) (fun _ _ _ _ _ _ us hl => match us, hl with | [_], _ => rfl), a_law_vtold := f_law_vtold, d_law_vtold := d_law_vtold, F_law_vtold := F_law_vtold, g_law_vtold := g_law_vtold, b_law_vtold := F_law_vtold.binds (ps := ["deeds"]) (fun _ _ _ _ _ _ us hl => match us, hl with | [_], _ => rfl), a_law_vmet := f_law_vmet, d_law_vmet := d_law_vmet, F_law_vmet := F_law_vmet, g_law_vmet := g_law_vmet, b_law_vmet := F_law_vmet.binds (ps := ["run"]) (fun _ _ _ _ _ _ us hl => match us, hl with | [_], _ => rfl), a_law := f_law, d_law := d_law, F_law := F_law, g_law := g_law, b_law := F_law.binds (ps := ["script"]) (fun _ _ _ _ _ _ us hl => match us, hl with | [_], _ => rfl), c_BadDeed := c_BadDeed, fi_BadDeed := fi_BadDeed, di_BadDeed := di_BadDeed, FI_BadDeed := FI_BadDeed, g_BadDeed := g_BadDeed, x_BadDeed := x_BadDeed, bi_BadDeed := FI_BadDeed.binds (ps := ["self", "index"]) (fun _ _ _ _ _ _ us hl => match us, hl with | [_, _], _ => rfl), c_BadLine := c_BadLine, fi_BadLine := fi_BadLine, di_BadLine := di_BadLine, FI_BadLine := FI_BadLine, g_BadLine := g_BadLine, x_BadLine := x_BadLine, bi_BadLine := FI_BadLine.binds (ps := ["self", "line"]) (fun _ _ _ _ _ _ us hl => match us, hl with | [_, _], _ => rfl), a_KEYS := a_KEYS, g_KEYS := g_KEYS, q_KEYS := q_KEYS, a_SIZES := a_SIZES, g_SIZES := g_SIZES, q_SIZES := q_SIZES, t_LETTERS := t_LETTERS, g_LETTERS := g_LETTERS, t_FIGURES_signs := t_FIGURES_signs, g_FIGURES_signs := g_FIGURES_signs, t_MOST := t_MOST, g_MOST := g_MOST, t_LINKS := t_LINKS, g_LINKS := g_LINKS, t_FIGURES_deedtexts := t_FIGURES_deedtexts, g_FIGURES_deedtexts := g_FIGURES_deedtexts, n_all := z_all, n_bool := z_bool, n_dict := z_dict, n_enumerate := z_enumerate, n_int := z_int, n_isinstance := z_isinstance, n_len := z_len, n_list := z_list, n_range := z_range, n_str := z_str, n_tuple := z_tuple, n_zip := z_zip }, rfl, rfl, rfl⟩
theorem law_binds {K : PySem.W.Frag} {f : Addr} {fd : FuncData} (F : Fun K "law" "law" s_law f fd) (s : Shared) (v : Value) : BindsTo s fd ⟨[v], []⟩ [("script", v)] := by
  obtain ⟨oc, od, kV, doc, pm, an, cdv, ct, osl, rfl, lk, hcd⟩ := F.ex
  exact .of_eq rfl
theorem law_all {l : PySem.W.OpenLaw} {w : World} {K : PySem.W.Frag} {mg : Str → Option Value} {h : Heap} {fa fl c_BadDeed c_BadLine c Pt : Addr} {oc kV doc pm ct e : Value} {od an dd : Option Addr} {osl sl : Array (Option Value)} {vs : Array Value} (KX : K.In h)
    (hT : ∃ T : Txt w K mg, T.a_law = fl ∧ T.c_BadDeed = c_BadDeed ∧ T.c_BadLine = c_BadLine) (hg : mg "law" = some (.ref fa)) (M : Exm K c_BadLine c_BadDeed)
    (lL : K.lookup fl = some ⟨oc, od, .func (PySem.W.fnOf "law" "law" (defArgs s_law) (defBody s_law) (defScope s_law) .none kV doc pm an (.ref c) ct), osl⟩) (hcd : PySem.W.codeIn K (.ref c) "law" = true) (lc : K.lookup c = some ⟨e, dd, .fields vs, sl⟩) (h11 : vs[11]? = some (.ref Pt)) (tb : h.get? Pt = some { cls := .none, data := .fields #[] }) (nP : K.lookup Pt = none) (hd : PySem.W.codeHdIn K c Pt = true) :
    LamX.LawAtS l w K CX0 12 63 "script" mg fa h := by
  obtain ⟨T, rfl, rfl, rfl⟩ := hT
  have eg := hg.symm.trans T.g_law
  cases eg
  refine ⟨T.d_law, [(c, Pt)], Sf.sp_law Pt K, fun p hp => ?_, fun p hp => ?_, fun p hp => ?_, law_binds T.F_law, fun H a ns _ _ hT hS => ⟨a, ns, rfl, hS, fun p hp => ?_, fun _ => rfl⟩, fun base _ _ hTB => ok_law T M (hTB (c, Pt) (by simp)) lL hcd⟩
  · rw [List.mem_singleton.mp hp]; exact tb
  · rw [List.mem_singleton.mp hp]; exact nP
  · rw [List.mem_singleton.mp hp]; exact PySem.W.codeHd_of_K KX hd
  · rw [List.mem_singleton.mp hp]; exact LamX.TabS.nil (hT (c, Pt) (by simp))
end K39
open PySem PySem.W PyProof.Rows
set_option maxHeartbeats 0 in
theorem PySem.Challenge.cw_swornfilters_k39_whole_texts_of_deeds_li_holds : PySem.Challenge.rw_swornfilters_k39_whole_texts_of_deeds_li.Holds := by
  w_on; o_law; k_head; (case hw => w_witness2)
  k_fill
  refine LamX.walk_ofTs (l := PySem.Challenge.rw_swornfilters_k39_whole_texts_of_deeds_li) (n := 63) (k := 12) (x := "script") (CX := fun _ => L2.CX0) rfl (by decide) rfl ⟨rfl, by decide, by decide⟩ (fun w h Y => PySem.W.km_in_of Y) ?F (fun _ _ _ _ _ h => h)
  case F =>
    intro w mg fa h Y KX G hmg
    refine' K39.law_all KX (K39.txt_mk (K39.df_mk KX G ?a_is_row ?l_is_row ?c_is_row ?k_is_row) (K39.df_mk KX G ?a_is_number ?l_is_number ?c_is_number ?k_is_number) (K39.df_mk KX G ?a_is_name ?l_is_name ?c_is_name ?k_is_name) (K39.df_mk KX G ?a_is_octets ?l_is_octets ?c_is_octets ?k_is_octets) (K39.df_mk KX G ?a_is_deed ?l_is_deed ?c_is_deed ?k_is_deed) (K39.df_mk KX G ?a_octet_of ?l_octet_of ?c_octet_of ?k_octet_of) (K39.df_mk KX G ?a_rest_in ?l_rest_in ?c_rest_in ?k_rest_in) (K39.df_mk KX G ?a_plain_deed ?l_plain_deed ?c_plain_deed ?k_plain_deed) (K39.df_mk KX G ?a_deeds_text ?l_deeds_text ?c_deeds_text ?k_deeds_text) (K39.df_mk KX G ?a_deed_of ?l_deed_of ?c_deed_of ?k_deed_of) (K39.df_mk KX G ?a_lines_read ?l_lines_read ?c_lines_read ?k_lines_read) (K39.df_mk KX G ?a_deeds_fault ?l_deeds_fault ?c_deeds_fault ?k_deeds_fault) (K39.df_mk KX G ?a_read_deeds ?l_read_deeds ?c_read_deeds ?k_read_deeds) (K39.df_mk KX G ?a_law_start ?l_law_start ?c_law_start ?k_law_start) (K39.df_mk KX G ?a_law_below ?l_law_below ?c_law_below ?k_law_below) (K39.df_mk KX G ?a_law_pick ?l_law_pick ?c_law_pick ?k_law_pick) (K39.df_mk KX G ?a_law_mixed ?l_law_mixed ?c_law_mixed ?k_law_mixed) (K39.df_mk KX G ?a_law_same ?l_law_same ?c_law_same ?k_law_same) (K39.df_mk KX G ?a_law_loose ?l_law_loose ?c_law_loose ?k_law_loose) (K39.df_mk KX G ?a_law_spoilt ?l_law_spoilt ?c_law_spoilt ?k_law_spoilt) (K39.df_mk KX G ?a_law_is_once ?l_law_is_once ?c_law_is_once ?k_law_is_once) (K39.df_mk KX G ?a_law_apart ?l_law_apart ?c_law_apart ?k_law_apart) (K39.df_mk KX G ?a_law_kkeys ?l_law_kkeys ?c_law_kkeys ?k_law_kkeys) (K39.df_mk KX G ?a_law_vname ?l_law_vname ?c_law_vname ?k_law_vname) (K39.df_mk KX G ?a_law_voctet ?l_law_voctet ?c_law_voctet ?k_law_voctet) (K39.df_mk KX G ?a_law_vline ?l_law_vline ?c_law_vline ?k_law_vline) (K39.df_mk KX G ?a_law_vfirst_bad ?l_law_vfirst_bad ?c_law_vfirst_bad ?k_law_vfirst_bad) (K39.df_mk KX G ?a_law_vdeed ?l_law_vdeed ?c_law_vdeed ?k_law_vdeed) (K39.df_mk KX G ?a_law_vtold ?l_law_vtold ?c_law_vtold ?k_law_vtold) (K39.df_mk KX G ?a_law_vmet ?l_law_vmet ?c_law_vmet ?k_law_vmet) (K39.df_mk KX G ?a_law ?l_law ?c_law ?k_law) (K39.ex_mk KX G ?aC_BadDeed ?xL_BadDeed ?rB_BadDeed ?sa_BadDeed ?ga_BadDeed ?gg_BadDeed ?nb_BadDeed ?a1_BadDeed ?t1_BadDeed ?l1_BadDeed ?c1_BadDeed ?k1_BadDeed ?kC_BadDeed ?eC_BadDeed ?tC_BadDeed ?hC_BadDeed) (K39.ex_mk KX G ?aC_BadLine ?xL_BadLine ?rB_BadLine ?sa_BadLine ?ga_BadLine ?gg_BadLine ?nb_BadLine ?a1_BadLine ?t1_BadLine ?l1_BadLine ?c1_BadLine ?k1_BadLine ?kC_BadLine ?eC_BadLine ?tC_BadLine ?hC_BadLine) (K39.tp_mk _ KX G ?ta_KEYS ?tl_KEYS ?tc_KEYS ?tz_KEYS ?tv_KEYS ?tf_KEYS) (K39.dc_mk _ KX G ?da_SIZES ?dl_SIZES ?dt_SIZES ?dw_SIZES ?dp_SIZES) (K39.ms_mk KX G ?m_LETTERS ?n_LETTERS) (K39.ms_mk KX G ?m_FIGURES_signs ?n_FIGURES_signs) (K39.mi_mk KX G ?m_MOST ?n_MOST) (K39.mi_mk KX G ?m_LINKS ?n_LINKS) (K39.ms_mk KX G ?m_FIGURES_deedtexts ?n_FIGURES_deedtexts) (PySem.W.mg_none_of KX G ?z_all) (PySem.W.mg_none_of KX G ?z_bool) (PySem.W.mg_none_of KX G ?z_dict) (PySem.W.mg_none_of KX G ?z_enumerate) (PySem.W.mg_none_of KX G ?z_int) (PySem.W.mg_none_of KX G ?z_isinstance) (PySem.W.mg_none_of KX G ?z_len) (PySem.W.mg_none_of KX G ?z_list) (PySem.W.mg_none_of KX G ?z_range) (PySem.W.mg_none_of KX G ?z_str) (PySem.W.mg_none_of KX G ?z_tuple) (PySem.W.mg_none_of KX G ?z_zip)) hmg ?xExm ?xLL ?xLcd ?xLc ?xL11 ?xTb ?xLP ?xLd
    (case a_is_row => k_is); (case l_is_row => k_is); (case c_is_row => k_is); (case k_is_row => k_is)
    (case a_is_number => k_is); (case l_is_number => k_is); (case c_is_number => k_is); (case k_is_number => k_is)
    (case a_is_name => k_is); (case l_is_name => k_is); (case c_is_name => k_is); (case k_is_name => k_is)
    (case a_is_octets => k_is); (case l_is_octets => k_is); (case c_is_octets => k_is); (case k_is_octets => k_is)
    (case a_is_deed => k_is); (case l_is_deed => k_is); (case c_is_deed => k_is); (case k_is_deed => k_is)
    (case a_octet_of => k_is); (case l_octet_of => k_is); (case c_octet_of => k_is); (case k_octet_of => k_is)
    (case a_rest_in => k_is); (case l_rest_in => k_is); (case c_rest_in => k_is); (case k_rest_in => k_is)
    (case a_plain_deed => k_is); (case l_plain_deed => k_is); (case c_plain_deed => k_is); (case k_plain_deed => k_is)
    (case a_deeds_text => k_is); (case l_deeds_text => k_is); (case c_deeds_text => k_is); (case k_deeds_text => k_is)
    (case a_deed_of => k_is); (case l_deed_of => k_is); (case c_deed_of => k_is); (case k_deed_of => k_is)
    (case a_lines_read => k_is); (case l_lines_read => k_is); (case c_lines_read => k_is); (case k_lines_read => k_is)
    (case a_deeds_fault => k_is); (case l_deeds_fault => k_is); (case c_deeds_fault => k_is); (case k_deeds_fault => k_is)
    (case a_read_deeds => k_is); (case l_read_deeds => k_is); (case c_read_deeds => k_is); (case k_read_deeds => k_is)
    (case a_law_start => k_is); (case l_law_start => k_is); (case c_law_start => k_is); (case k_law_start => k_is)
    (case a_law_below => k_is); (case l_law_below => k_is); (case c_law_below => k_is); (case k_law_below => k_is)
    (case a_law_pick => k_is); (case l_law_pick => k_is); (case c_law_pick => k_is); (case k_law_pick => k_is)
    (case a_law_mixed => k_is); (case l_law_mixed => k_is); (case c_law_mixed => k_is); (case k_law_mixed => k_is)
    (case a_law_same => k_is); (case l_law_same => k_is); (case c_law_same => k_is); (case k_law_same => k_is)
    (case a_law_loose => k_is); (case l_law_loose => k_is); (case c_law_loose => k_is); (case k_law_loose => k_is)
    (case a_law_spoilt => k_is); (case l_law_spoilt => k_is); (case c_law_spoilt => k_is); (case k_law_spoilt => k_is)
    (case a_law_is_once => k_is); (case l_law_is_once => k_is); (case c_law_is_once => k_is); (case k_law_is_once => k_is)
    (case a_law_apart => k_is); (case l_law_apart => k_is); (case c_law_apart => k_is); (case k_law_apart => k_is)
    (case a_law_kkeys => k_is); (case l_law_kkeys => k_is); (case c_law_kkeys => k_is); (case k_law_kkeys => k_is)
    (case a_law_vname => k_is); (case l_law_vname => k_is); (case c_law_vname => k_is); (case k_law_vname => k_is)
    (case a_law_voctet => k_is); (case l_law_voctet => k_is); (case c_law_voctet => k_is); (case k_law_voctet => k_is)
    (case a_law_vline => k_is); (case l_law_vline => k_is); (case c_law_vline => k_is); (case k_law_vline => k_is)
    (case a_law_vfirst_bad => k_is); (case l_law_vfirst_bad => k_is); (case c_law_vfirst_bad => k_is); (case k_law_vfirst_bad => k_is)
    (case a_law_vdeed => k_is); (case l_law_vdeed => k_is); (case c_law_vdeed => k_is); (case k_law_vdeed => k_is)
    (case a_law_vtold => k_is); (case l_law_vtold => k_is); (case c_law_vtold => k_is); (case k_law_vtold => k_is)
    (case a_law_vmet => k_is); (case l_law_vmet => k_is); (case c_law_vmet => k_is); (case k_law_vmet => k_is)
    (case a_law => k_is); (case l_law => k_is); (case c_law => k_is); (case k_law => k_is)
    (case aC_BadDeed => k_is); (case xL_BadDeed => k_is); (case rB_BadDeed => decide +kernel); (case sa_BadDeed => k_is); (case ga_BadDeed => k_is); (case gg_BadDeed => k_is); (case nb_BadDeed => k_is); (case a1_BadDeed => k_is); (case t1_BadDeed => k_is); (case l1_BadDeed => k_is); (case c1_BadDeed => k_is); (case k1_BadDeed => k_is); (case kC_BadDeed => k_is); (case eC_BadDeed => k_is); (case tC_BadDeed => k_is); (case hC_BadDeed => k_is)
    (case aC_BadLine => k_is); (case xL_BadLine => k_is); (case rB_BadLine => decide +kernel); (case sa_BadLine => k_is); (case ga_BadLine => k_is); (case gg_BadLine => k_is); (case nb_BadLine => k_is); (case a1_BadLine => k_is); (case t1_BadLine => k_is); (case l1_BadLine => k_is); (case c1_BadLine => k_is); (case k1_BadLine => k_is); (case kC_BadLine => k_is); (case eC_BadLine => k_is); (case tC_BadLine => k_is); (case hC_BadLine => k_is)
    (case ta_KEYS => k_is); (case tl_KEYS => k_is); (case tc_KEYS => rfl); (case tz_KEYS => (show 20 ≤ sizeLine; decide)); (case tv_KEYS => exact (.cons ⟨_, rfl⟩ (.cons ⟨_, rfl⟩ (.cons ⟨_, rfl⟩ (.cons ⟨_, rfl⟩ (.cons ⟨_, rfl⟩ (.cons ⟨_, rfl⟩ (.cons ⟨_, rfl⟩ (.cons ⟨_, rfl⟩ (.cons ⟨_, rfl⟩ (.cons ⟨_, rfl⟩ (.cons ⟨_, rfl⟩ (.cons ⟨_, rfl⟩ (.cons ⟨_, rfl⟩ (.cons ⟨_, rfl⟩ (.cons ⟨_, rfl⟩ (.cons ⟨_, rfl⟩ (.cons ⟨_, rfl⟩ (.cons ⟨_, rfl⟩ (.cons ⟨_, rfl⟩ (.cons ⟨_, rfl⟩ .nil))))))))))))))))))))); (case tf_KEYS => decide +kernel)
    (case da_SIZES => k_is); (case dl_SIZES => k_is); (case dt_SIZES => exact ⟨⟨_, _, rfl, rfl⟩, ⟨_, _, rfl, rfl⟩, ⟨_, _, rfl, rfl⟩, ⟨_, _, rfl, rfl⟩, True.intro⟩); (case dw_SIZES => decide +kernel); (case dp_SIZES => exact (.cons ⟨_, _, rfl, rfl⟩ (.cons ⟨_, _, rfl, rfl⟩ (.cons ⟨_, _, rfl, rfl⟩ (.cons ⟨_, _, rfl, rfl⟩ .nil)))))
    (case m_LETTERS => k_is); (case n_LETTERS => exact ⟨_, rfl⟩)
    (case m_FIGURES_signs => k_is); (case n_FIGURES_signs => exact ⟨_, rfl⟩)
    (case m_MOST => k_is); (case n_MOST => exact ⟨_, rfl⟩)
    (case m_LINKS => k_is); (case n_LINKS => exact ⟨_, rfl⟩)
    (case m_FIGURES_deedtexts => k_is); (case n_FIGURES_deedtexts => exact ⟨_, rfl⟩)
    (case z_all => k_is)
    (case z_bool => k_is)
    (case z_dict => k_is)
    (case z_enumerate => k_is)
    (case z_int => k_is)
    (case z_isinstance => k_is)
    (case z_len => k_is)
    (case z_list => k_is)
    (case z_range => k_is)
    (case z_str => k_is)
    (case z_tuple => k_is)
    (case z_zip => k_is)
    (case xExm => exact ⟨K39.exm_mk (by k_is) (by k_is) (by k_is) (by first | rfl | k_is), K39.exm_mk (by k_is) (by k_is) (by k_is) (by first | rfl | k_is), K39.exm_mk (by k_is) (by k_is) (by k_is) (by first | rfl | k_is)⟩)
    (case xLL => k_is); (case xLcd => k_is); (case xLc => k_is); (case xL11 => rfl); (case xTb => exact PySem.W.km_tabs_of Y _ (by decide)); (case xLP => rfl); (case xLd => rfl)

