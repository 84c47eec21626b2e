import PyProof.Rows.All
import Wide.All
import OpenK.AllK
import Wide.FinOn
import HandS.ForMost
import HandS.ForExc
import HandS.IsInst
import HandS.Flow
import HandS.Zip
import HandS.Deep
import HandS.TupAny
import HandS.TupMul
import PyProof.ListMulRoad
import PyProof.FactsAll.tuple_2
import HandS.Walk
import PySem.Challenge.RW_swornfilters_k09_whole_sets_far_out
set_option Elab.async false
set_option linter.all false
set_option maxRecDepth 100000
set_option maxHeartbeats 4000000
/-! Pure data over the layer: what a value stands for (Rp), the frozen part F of a heap H, evaluation to data. -/
namespace Sf
open PySem L2

mutual
/-- in the frozen heap F the value stands for the datum -/
inductive Rp (K : PySem.W.Frag) (F : Hp) : V → PyData → Prop where
  | non : Rp K F .non .none
  | bl (b : Bool) : Rp K F (.bl b) (.bool b)
  | int (i : Int) : Rp K F (.int i) (.int i)
  | str (x : Str) : Rp K F (.str x) (.str x)
  | lst {a : Addr} {xs : List V} {ds : List PyData} : F a = some (.lst xs) → RpAll K F xs ds → Rp K F (.ref a) (.list ds)
  | tup {a : Addr} {xs : List V} {ds : List PyData} : SqT K F a xs → RpAll K F xs ds → Rp K F (.ref a) (.tuple ds)
inductive RpAll (K : PySem.W.Frag) (F : Hp) : List V → List PyData → Prop where
  | nil : RpAll K F [] []
  | cons {v : V} {vs : List V} {d : PyData} {ds : List PyData} : Rp K F v d → RpAll K F vs ds → RpAll K F (v :: vs) (d :: ds)
end

theorem same_t {K : PySem.W.Frag} {H H' : Hp} {a : Addr} {xs : List V} (e : Same H H') (h : SqT K H a xs) : SqT K H' a xs := by
  rcases h with (h | ⟨o, h⟩) | h
  · exact .inl (.inl (e _ _ h))
  · exact .inl (.inr ⟨o, e _ _ h⟩)
  · exact .inr h

mutual
theorem Rp.mono {K : PySem.W.Frag} {F F' : Hp} (e : Same F F') : ∀ {v : V} {d : PyData}, Rp K F v d → Rp K F' v d
  | _, _, .non => .non
  | _, _, .bl b => .bl b
  | _, _, .int i => .int i
  | _, _, .str x => .str x
  | _, _, .lst h r => .lst (e _ _ h) (RpAll.mono e r)
  | _, _, .tup h r => .tup (same_t e h) (RpAll.mono e r)
theorem RpAll.mono {K : PySem.W.Frag} {F F' : Hp} (e : Same F F') : ∀ {vs : List V} {ds : List PyData}, RpAll K F vs ds → RpAll K F' vs ds
  | _, _, .nil => .nil
  | _, _, .cons h r => .cons (Rp.mono e h) (RpAll.mono e r)
end
mutual
theorem Rp.dp {K : PySem.W.Frag} {F : Hp} : ∀ {v : V} {d : PyData}, Rp K F v d → Dp K F v d
  | _, _, .non => .non
  | _, _, .bl b => .bl b
  | _, _, .int i => .int i
  | _, _, .str x => .str x
  | _, _, .lst h r => .lst (.inl (.inl h)) (RpAll.dp r)
  | _, _, .tup h r => .tup h (RpAll.dp r)
theorem RpAll.dp {K : PySem.W.Frag} {F : Hp} : ∀ {vs : List V} {ds : List PyData}, RpAll K F vs ds → DpAll K F vs ds
  | _, _, .nil => .nil
  | _, _, .cons h r => .cons (Rp.dp h) (RpAll.dp r)
end

section
variable {K : PySem.W.Frag} {F H F' H' F1 H1 F2 H2 : Hp}
theorem RpAll.length {vs : List V} {ds : List PyData} (h : RpAll K F vs ds) : vs.length = ds.length := by
  induction ds generalizing vs with
  | nil => cases h; rfl
  | cons d ds ih => cases h with | cons h r => simp [ih r]
theorem RpAll.get {vs : List V} {ds : List PyData} (h : RpAll K F vs ds) {i : Nat} {d : PyData} (e : ds[i]? = some d) : ∃ v, vs[i]? = some v ∧ Rp K F v d := by
  induction ds generalizing vs i with
  | nil => simp at e
  | cons d0 ds ih =>
    cases h with
    | cons h r =>
      cases i with
      | zero => simp at e; subst e; exact ⟨_, rfl, h⟩
      | succ i => simp at e; obtain ⟨v, e1, e2⟩ := ih r e; exact ⟨v, by simpa using e1, e2⟩
theorem RpAll.of_get {vs : List V} {ds : List PyData} (h : RpAll K F vs ds) {i : Nat} {v : V} (e : vs[i]? = some v) : ∃ d, ds[i]? = some d ∧ Rp K F v d := by
  induction ds generalizing vs i with
  | nil => cases h; simp at e
  | cons d0 ds ih =>
    cases h with
    | cons h r =>
      cases i with
      | zero => simp at e; subst e; exact ⟨_, rfl, h⟩
      | succ i => simp at e; obtain ⟨d, e1, e2⟩ := ih r e; exact ⟨d, by simpa using e1, e2⟩
theorem RpAll.append {vs ws : List V} {ds es : List PyData} (h : RpAll K F vs ds) (h' : RpAll K F ws es) : RpAll K F (vs ++ ws) (ds ++ es) := by
  induction ds generalizing vs with
  | nil => cases h; exact h'
  | cons d ds ih => cases h with | cons h r => exact .cons h (ih r)
theorem RpAll.take {vs : List V} {ds : List PyData} (h : RpAll K F vs ds) (n : Nat) : RpAll K F (vs.take n) (ds.take n) := by
  induction ds generalizing vs n with
  | nil => cases h; simp; exact .nil
  | cons d ds ih => cases h with | cons h r => cases n with
    | zero => exact .nil
    | succ n => exact .cons h (ih r n)
theorem RpAll.drop {vs : List V} {ds : List PyData} (h : RpAll K F vs ds) (n : Nat) : RpAll K F (vs.drop n) (ds.drop n) := by
  induction ds generalizing vs n with
  | nil => cases h; simp; exact .nil
  | cons d ds ih => cases h with | cons h r => cases n with
    | zero => exact .cons h r
    | succ n => exact ih r n
theorem RpAll.set {vs : List V} {ds : List PyData} (h : RpAll K F vs ds) (n : Nat) {v : V} {d : PyData} (hv : Rp K F v d) : RpAll K F (vs.set n v) (ds.set n d) := by
  induction ds generalizing vs n with
  | nil => cases h; exact .nil
  | cons d0 ds ih => cases h with | cons h r => cases n with
    | zero => exact .cons hv r
    | succ n => exact .cons h (ih r n)
theorem RpAll.one {v : V} {d : PyData} (h : Rp K F v d) : RpAll K F [v] [d] := .cons h .nil
theorem RpAll.two {v v' : V} {d d' : PyData} (h : Rp K F v d) (h' : Rp K F v' d') : RpAll K F [v, v'] [d, d'] := .cons h (.one h')
theorem RpAll.ints {ns : List Int} : RpAll K F (ns.map .int) (ns.map .int) := by
  induction ns with
  | nil => exact .nil
  | cons n ns ih => exact .cons (.int n) ih
theorem RpAll.bools {bs : List Bool} : RpAll K F (bs.map .bl) (bs.map .bool) := by
  induction bs with
  | nil => exact .nil
  | cons n ns ih => exact .cons (.bl n) ih
theorem RpAll.of_bools {vs : List V} {bs : List Bool} (h : RpAll K F vs (bs.map .bool)) : vs = bs.map .bl := by
  induction bs generalizing vs with
  | nil => cases h; rfl
  | cons b bs ih => cases h with | cons h r => cases h; rw [ih r]; rfl
theorem RpAll.of_ints {vs : List V} {bs : List Int} (h : RpAll K F vs (bs.map .int)) : vs = bs.map .int := by
  induction bs generalizing vs with
  | nil => cases h; rfl
  | cons b bs ih => cases h with | cons h r => cases h; rw [ih r]; rfl
theorem RpAll.of_strs {vs : List V} {bs : List Str} (h : RpAll K F vs (bs.map .str)) : vs = bs.map .str := by
  induction bs generalizing vs with
  | nil => cases h; rfl
  | cons b bs ih => cases h with | cons h r => cases h; rw [ih r]; rfl

/-- the frozen part grows, what stood stands (but M), what was not frozen stays so -/
structure Sx (M : List Addr) (F H F' H' : Hp) : Prop where
  ff : Same F F'
  fh : Same F' H'
  hh : ∀ b o, b ∉ M → H b = some o → H' b = some o
  th : ∀ b, H b ≠ none → H' b ≠ none
  sep : ∀ b, F b = none → H b ≠ none → F' b = none
theorem Sx.refl {M : List Addr} (e : Same F H) : Sx M F H F H := ⟨Same.refl F, e, fun _ _ _ h => h, fun _ h => h, fun _ h _ => h⟩
theorem Sx.trans {M : List Addr} (a : Sx M F H F1 H1) (b : Sx M F1 H1 F2 H2) : Sx M F H F2 H2 :=
  ⟨a.ff.trans b.ff, b.fh, fun c o hc h => b.hh c o hc (a.hh c o hc h), fun c h => b.th c (a.th c h), fun c h1 h2 => b.sep c (a.sep c h1 h2) (a.th c h2)⟩
theorem Sx.up {M : List Addr} (a : Sx [] F H F1 H1) : Sx M F H F1 H1 := ⟨a.ff, a.fh, fun c o _ h => a.hh c o (by simp) h, a.th, a.sep⟩
theorem Sx.mono {M M' : List Addr} (hm : ∀ b ∈ M, b ∈ M') (a : Sx M F H F1 H1) : Sx M' F H F1 H1 := ⟨a.ff, a.fh, fun c o hc h => a.hh c o (fun z => hc (hm _ z)) h, a.th, a.sep⟩
theorem Sx.same (a : Sx [] F H F1 H1) : Same H H1 := fun b o h => a.hh b o (by simp) h
theorem none_of_same {p : Addr} (e : Same F H) (h : H p = none) : F p = none := by
  cases q : F p with
  | none => rfl
  | some o => rw [e _ _ q] at h; cases h
/-- a new object, frozen at once -/
theorem Sx.new {M : List Addr} (e : Same F H) {p : Addr} (o : HO) (h : H p = none) : Sx M F H (upd F p o) (upd H p o) where
  ff := fun b u q => by rw [upd_ne (fun z => by subst z; rw [none_of_same e h] at q; cases q)]; exact q
  fh := fun b u q => by
    by_cases hb : b = p
    · subst hb; rw [upd_same] at q ⊢; exact q
    · rw [upd_ne hb] at q ⊢; exact e _ _ q
  hh := fun b u _ q => by rw [upd_ne (ne_of_none q h)]; exact q
  th := fun b q => by
    by_cases hb : b = p
    · subst hb; exact absurd h q
    · rw [upd_ne hb]; exact q
  sep := fun b q r => by
    by_cases hb : b = p
    · subst hb; exact absurd h r
    · rw [upd_ne hb]; exact q
/-- a new object that may change -/
theorem Sx.newM {M : List Addr} (e : Same F H) {p : Addr} (o : HO) (h : H p = none) : Sx M F H F (upd H p o) where
  ff := Same.refl F
  fh := fun b u q => by rw [upd_ne (fun z => by subst z; rw [none_of_same e h] at q; cases q)]; exact e _ _ q
  hh := fun b u _ q => by rw [upd_ne (ne_of_none q h)]; exact q
  th := fun b q => by
    by_cases hb : b = p
    · subst hb; exact absurd h q
    · rw [upd_ne hb]; exact q
  sep := fun b q r => q
/-- an object of ours (new since the entry, or in M), not frozen, changes -/
theorem Sx.put {M : List Addr} (s : Sx M F H F1 H1) {p : Addr} (o : HO) (h : p ∈ M ∨ H p = none) (hf : F1 p = none) : Sx M F H F1 (upd H1 p o) where
  ff := s.ff
  fh := fun b u q => by rw [upd_ne (fun z => by subst z; rw [hf] at q; cases q)]; exact s.fh _ _ q
  hh := fun b u hb q => by
    rcases h with h | h
    · rw [upd_ne (fun z => by subst z; exact hb h)]; exact s.hh _ _ hb q
    · rw [upd_ne (ne_of_none q h)]; exact s.hh _ _ hb q
  th := fun b q => by
    by_cases hb : b = p
    · subst hb; rw [upd_same]; simp
    · rw [upd_ne hb]; exact s.th b q
  sep := s.sep
/-- an object of ours is frozen as it stands -/
theorem Sx.fix {M : List Addr} (s : Sx M F H F1 H1) {p : Addr} {o : HO} (h : H p = none) (hp : H1 p = some o) (hf : F1 p = none) : Sx M F H (upd F1 p o) H1 where
  ff := fun b u q => by rw [upd_ne (fun z => by subst z; rw [s.ff _ _ q] at hf; cases hf)]; exact s.ff _ _ q
  fh := fun b u q => by
    by_cases hb : b = p
    · subst hb; rw [upd_same] at q; rw [hp]; exact q
    · rw [upd_ne hb] at q; exact s.fh _ _ q
  hh := s.hh
  th := s.th
  sep := fun b q r => by
    by_cases hb : b = p
    · subst hb; exact absurd h r
    · rw [upd_ne hb]; exact s.sep b q r
theorem fix_same {p : Addr} {o : HO} (hf : F p = none) : Same F (upd F p o) := fun b u q => by
  rw [upd_ne (fun z => by subst z; rw [hf] at q; cases q)]; exact q

/-! ### what evaluates to what -/
def EvD (K : PySem.W.Frag) (M : List Addr) (te : TE) (σ : L2.St) (F H : Hp) (d : PyData) : Prop :=
  ∀ F1 H1, Sx M F H F1 H1 → ∀ Q : VK, (∀ F2 H2 v, Sx [] F1 H1 F2 H2 → Rp K F2 v d → Q v H2) → te σ H1 Q
/-- a new list (not frozen yet) -/
def EvN (K : PySem.W.Frag) (M : List Addr) (te : TE) (σ : L2.St) (F H : Hp) (ds : List PyData) : Prop :=
  ∀ F1 H1, Sx M F H F1 H1 → ∀ Q : VK, (∀ F2 H2 p vs, Sx [] F1 H1 F2 H2 → H1 p = none → F2 p = none → H2 p = some (.lst vs) → RpAll K F2 vs ds → Q (.ref p) H2) → te σ H1 Q
def EvT (K : PySem.W.Frag) (M : List Addr) (tt : TT) (σ : L2.St) (F H : Hp) (b : Bool) : Prop :=
  ∀ F1 H1, Sx M F H F1 H1 → ∀ Q : Bool → Hp → Prop, (∀ F2 H2, Sx [] F1 H1 F2 H2 → Q b H2) → tt σ H1 Q
def EvA (K : PySem.W.Frag) (M : List Addr) (ta : TA) (σ : L2.St) (F H : Hp) (ds : List PyData) : Prop :=
  ∀ F1 H1, Sx M F H F1 H1 → ∀ Q : List V → Hp → Prop, (∀ F2 H2 vs, Sx [] F1 H1 F2 H2 → RpAll K F2 vs ds → Q vs H2) → ta σ H1 Q
def EvO (K : PySem.W.Frag) (M : List Addr) (to : TO) (σ : L2.St) (F H : Hp) (o : Option Int) : Prop :=
  ∀ F1 H1, Sx M F H F1 H1 → ∀ Q : Option Int → Hp → Prop, (∀ F2 H2, Sx [] F1 H1 F2 H2 → Q o H2) → to σ H1 Q
/-- operations on data -/
def RV (K : PySem.W.Frag) (r : R2) (x y z : PyData) : Prop :=
  ∀ F H v w, Same F H → Rp K F v x → Rp K F w y → ∀ Q : VK, (∀ F2 H2 u, Sx [] F H F2 H2 → Rp K F2 u z → Q u H2) → r v w H Q
def RU (K : PySem.W.Frag) (r : V → Hp → VK → Prop) (x z : PyData) : Prop :=
  ∀ F H v, Same F H → Rp K F v x → ∀ Q : VK, (∀ F2 H2 u, Sx [] F H F2 H2 → Rp K F2 u z → Q u H2) → r v H Q
def RC (K : PySem.W.Frag) (r : List V → Hp → VK → Prop) (xs : List PyData) (z : PyData) : Prop :=
  ∀ F H vs, Same F H → RpAll K F vs xs → ∀ Q : VK, (∀ F2 H2 u, Sx [] F H F2 H2 → Rp K F2 u z → Q u H2) → r vs H Q
/-- the truth of data -/
def truthD : PyData → Option Bool
  | .none => some false
  | .bool b => some b
  | .int i => some (i != 0)
  | .list ds => some (!ds.isEmpty)
  | .tuple ds => some (!ds.isEmpty)
  | _ => none

variable {M : List Addr} {σ : L2.St} {te ta tb tc : TE} {tt tu : TT} {d x y z : PyData} {r r' : R2}
theorem EvD.mono {F' H' : Hp} (s : Sx M F H F' H') (h : EvD K M te σ F H d) : EvD K M te σ F' H' d := fun F1 H1 a Q q => h F1 H1 (s.trans a) Q q
theorem EvD.is (h : EvD K M te σ F H x) (e : x = y) : EvD K M te σ F H y := e ▸ h
theorem EvT.is {a b : Bool} (h : EvT K M tt σ F H a) (e : a = b) : EvT K M tt σ F H b := e ▸ h
theorem ev_var {i : Nat} {v : V} (h : σ[i]? = some (some v)) (r : Rp K F v d) : EvD K M (tVar i) σ F H d := fun F1 H1 s Q q => ⟨v, h, q F1 H1 v (Sx.refl s.fh) (r.mono s.ff)⟩
theorem ev_c {v : V} (r : Rp K F v d) : EvD K M (tC v) σ F H d := fun F1 H1 s Q q => q F1 H1 v (Sx.refl s.fh) (r.mono s.ff)
theorem ev_int {i : Int} : EvD K M (tC (.int i)) σ F H (.int i) := ev_c (.int i)
theorem ev_bl {i : Bool} : EvD K M (tC (.bl i)) σ F H (.bool i) := ev_c (.bl i)
theorem ev_str {i : Str} : EvD K M (tC (.str i)) σ F H (.str i) := ev_c (.str i)
theorem ev_non : EvD K M (tC .non) σ F H .none := ev_c .non
theorem ev_op (ha : EvD K M ta σ F H x) (hb : EvD K M tb σ F H y) (hr : RV K r x y z) : EvD K M (tOp r ta tb) σ F H z := fun F1 H1 s Q q =>
  ha F1 H1 s _ fun F2 H2 v s2 rv => hb F2 H2 (s.trans s2.up) _ fun F3 H3 w s3 rw => hr F3 H3 v w s3.fh (rv.mono s3.ff) rw Q fun F4 H4 u s4 ru => q F4 H4 u ((s2.trans s3).trans s4) ru
theorem ev_un {r : V → Hp → VK → Prop} (ha : EvD K M ta σ F H x) (hr : RU K r x z) : EvD K M (tUn r ta) σ F H z := fun F1 H1 s Q q =>
  ha F1 H1 s _ fun F2 H2 v s2 rv => hr F2 H2 v s2.fh rv Q fun F4 H4 u s4 ru => q F4 H4 u (s2.trans s4) ru
theorem ea_nil : EvA K M tNil σ F H [] := fun F1 H1 s Q q => q F1 H1 [] (Sx.refl s.fh) .nil
theorem ea_cons {tr : TA} {ds : List PyData} (h : EvD K M ta σ F H x) (hr : EvA K M tr σ F H ds) : EvA K M (tCons ta tr) σ F H (x :: ds) := fun F1 H1 s Q q =>
  h F1 H1 s _ fun F2 H2 v s2 rv => hr F2 H2 (s.trans s2.up) _ fun F3 H3 vs s3 rs => q F3 H3 (v :: vs) (s2.trans s3) (.cons (rv.mono s3.ff) rs)
theorem ev_cb {r : List V → Hp → VK → Prop} {ta : TA} {ds : List PyData} (h : EvA K M ta σ F H ds) (hr : RC K r ds z) : EvD K M (tCB r ta) σ F H z := fun F1 H1 s Q q =>
  h F1 H1 s _ fun F2 H2 vs s2 rs => hr F2 H2 vs s2.fh rs Q fun F4 H4 u s4 ru => q F4 H4 u (s2.trans s4) ru
theorem ev_tup {ta : TA} {ds : List PyData} (h : EvA K M ta σ F H ds) (hl : ds.length ≤ 1000) : EvD K M (tTup ta) σ F H (.tuple ds) := fun F1 H1 s Q q =>
  h F1 H1 s _ fun F2 H2 vs s2 rs => ⟨Nat.le_of_lt (small1000 (by rw [rs.length]; exact hl)), fun p hp => q (upd F2 p (.tup vs)) _ _ (s2.trans (Sx.new s2.fh _ hp)) (.tup (.inl (.inl upd_same)) (rs.mono (fix_same (none_of_same s2.fh hp))))⟩
theorem en_lst {ta : TA} {ds : List PyData} (h : EvA K M ta σ F H ds) (hl : ds.length ≤ 1000) : EvN K M (tLst ta) σ F H ds := fun F1 H1 s Q q =>
  h F1 H1 s _ fun F2 H2 vs s2 rs => ⟨Nat.le_of_lt (small1000 (by rw [rs.length]; exact hl)), fun p hp => q F2 _ p vs (s2.trans (Sx.newM s2.fh _ hp)) (Same.free s2.same hp) (none_of_same s2.fh hp) upd_same rs⟩
theorem EvN.ev {ds : List PyData} (h : EvN K M te σ F H ds) : EvD K M te σ F H (.list ds) := fun F1 H1 s Q q =>
  h F1 H1 s _ fun F2 H2 p vs s2 n1 n2 e rs => q (upd F2 p (.lst vs)) H2 _ (Sx.fix s2 n1 e n2) (.lst upd_same (rs.mono (fix_same n2)))
theorem ev_lst {ta : TA} {ds : List PyData} (h : EvA K M ta σ F H ds) (hl : ds.length ≤ 1000) : EvD K M (tLst ta) σ F H (.list ds) := (en_lst h hl).ev
theorem eo_none : EvO K M tNoPart σ F H none := fun F1 H1 s Q q => q F1 H1 (Sx.refl s.fh)
theorem eo_some {i : Int} (h : EvD K M te σ F H (.int i)) : EvO K M (tPart te) σ F H (some i) := fun F1 H1 s Q q => h F1 H1 s _ fun F2 H2 v s2 rv => ⟨i, by cases rv; rfl, q F2 H2 s2⟩

/-! ### tests -/
theorem et_test {b : Bool} (h : EvD K M te σ F H (.bool b)) : EvT K M (tTest te) σ F H b := fun F1 H1 s Q q => h F1 H1 s _ fun F2 H2 v s2 rv => ⟨b, by cases rv; rfl, q F2 H2 s2⟩
theorem et_B {b : Bool} (h : EvD K M te σ F H (.bool b)) : EvT K M (tB te) σ F H b := fun F1 H1 s Q q => h F1 H1 s _ fun F2 H2 v s2 rv => ⟨b, by cases rv; rfl, q F2 H2 s2⟩
theorem truV_of {v : V} {b : Bool} (e : Same F H) (rv : Rp K F v d) (h : truthD d = some b) : TruV K v H b := by
  cases rv with
  | non => cases h; rfl
  | bl c => cases h; rfl
  | int i => cases h; rfl
  | str x => cases h
  | @lst a xs ds h1 r => cases h; exact .inl ⟨xs, .inl (.inl (e _ _ h1)), by cases r <;> rfl⟩
  | @tup a xs ds h1 r => cases h; exact .inr (.inl ⟨xs, same_t e h1, by cases r <;> rfl⟩)
theorem et_tru {b : Bool} (h : EvD K M te σ F H d) (hd : truthD d = some b) : EvT K M (fun σ H Q => te σ H fun x H' => ∃ k, TruV K x H' k ∧ Q k H') σ F H b := fun F1 H1 s Q q => h F1 H1 s _ fun F2 H2 v s2 rv => ⟨b, truV_of s2.fh rv hd, q F2 H2 s2⟩
theorem et_and {a b : Bool} (h1 : EvT K M tt σ F H a) (h2 : a = true → EvT K M tu σ F H b) : EvT K M (tAnd tt tu) σ F H (a && b) := fun F1 H1 s Q q => h1 F1 H1 s _ fun F2 H2 s2 => by
  cases a with
  | true =>
    show tu σ H2 Q
    exact h2 rfl F2 H2 (s.trans s2.up) Q fun F3 H3 s3 => q F3 H3 (s2.trans s3)
  | false =>
    show Q false H2
    exact q F2 H2 s2
theorem et_or {a b : Bool} (h1 : EvT K M tt σ F H a) (h2 : a = false → EvT K M tu σ F H b) : EvT K M (tOr tt tu) σ F H (a || b) := fun F1 H1 s Q q => h1 F1 H1 s _ fun F2 H2 s2 => by
  cases a with
  | true =>
    show Q true H2
    exact q F2 H2 s2
  | false =>
    show tu σ H2 Q
    exact h2 rfl F2 H2 (s.trans s2.up) Q fun F3 H3 s3 => q F3 H3 (s2.trans s3)
theorem et_not {a : Bool} (h1 : EvT K M tt σ F H a) : EvT K M (tNot tt) σ F H (!a) := fun F1 H1 s Q q => h1 F1 H1 s _ fun F2 H2 s2 => q F2 H2 s2
theorem ev_notT {b : Bool} (h : EvD K M te σ F H d) (hd : truthD d = some b) : EvD K M (tNotT K te) σ F H (.bool (!b)) := fun F1 H1 s Q q => h F1 H1 s _ fun F2 H2 v s2 rv => ⟨b, truV_of s2.fh rv hd, q F2 H2 _ s2 (.bl _)⟩
theorem ev_andT {b : Bool} (h : EvD K M ta σ F H x) (hd : truthD x = some b) (h1 : b = true → EvD K M tb σ F H z) (h2 : b = false → x = z) : EvD K M (tAndT K ta tb) σ F H z := fun F1 H1 s Q q => h F1 H1 s _ fun F2 H2 v s2 rv => ⟨b, truV_of s2.fh rv hd, by
  cases b with
  | true =>
    show tb σ H2 Q
    exact h1 rfl F2 H2 (s.trans s2.up) Q fun F3 H3 v s3 rv => q F3 H3 v (s2.trans s3) rv
  | false =>
    show Q v H2
    exact q F2 H2 v s2 (h2 rfl ▸ rv)⟩
theorem ev_orT {b : Bool} (h : EvD K M ta σ F H x) (hd : truthD x = some b) (h1 : b = false → EvD K M tb σ F H z) (h2 : b = true → x = z) : EvD K M (tOrT K ta tb) σ F H z := fun F1 H1 s Q q => h F1 H1 s _ fun F2 H2 v s2 rv => ⟨b, truV_of s2.fh rv hd, by
  cases b with
  | true =>
    show Q v H2
    exact q F2 H2 v s2 (h2 rfl ▸ rv)
  | false =>
    show tb σ H2 Q
    exact h1 rfl F2 H2 (s.trans s2.up) Q fun F3 H3 v s3 rv => q F3 H3 v (s2.trans s3) rv⟩
/-- and, or of truths -/
theorem ev_andB {a b : Bool} (h : EvD K M ta σ F H (.bool a)) (h1 : a = true → EvD K M tb σ F H (.bool b)) : EvD K M (tAndT K ta tb) σ F H (.bool (a && b)) :=
  ev_andT h rfl (fun e => by rw [e]; exact h1 e) (fun e => by rw [e]; rfl)
theorem ev_orB {a b : Bool} (h : EvD K M ta σ F H (.bool a)) (h1 : a = false → EvD K M tb σ F H (.bool b)) : EvD K M (tOrT K ta tb) σ F H (.bool (a || b)) :=
  ev_orT h rfl (fun e => by rw [e]; exact h1 e) (fun e => by rw [e]; rfl)
theorem ev_if {b : Bool} (h : EvT K M tt σ F H b) (h1 : b = true → EvD K M ta σ F H z) (h2 : b = false → EvD K M tb σ F H z) : EvD K M (tIf tt ta tb) σ F H z := fun F1 H1 s Q q => h F1 H1 s _ fun F2 H2 s2 => by
  cases b with
  | true =>
    show ta σ H2 Q
    exact h1 rfl F2 H2 (s.trans s2.up) Q fun F3 H3 v s3 rv => q F3 H3 v (s2.trans s3) rv
  | false =>
    show tb σ H2 Q
    exact h2 rfl F2 H2 (s.trans s2.up) Q fun F3 H3 v s3 rv => q F3 H3 v (s2.trans s3) rv
/-- the value is told by if -/
theorem ev_ifB {b : Bool} {x y : PyData} (h : EvT K M tt σ F H b) (h1 : b = true → EvD K M ta σ F H x) (h2 : b = false → EvD K M tb σ F H y) : EvD K M (tIf tt ta tb) σ F H (if b = true then x else y) :=
  ev_if h (fun e => by rw [if_pos e]; exact h1 e) (fun e => by rw [if_neg (by rw [e]; decide)]; exact h2 e)
theorem ev_chain {a b : Bool} {w : PyData} (ha : EvD K M ta σ F H x) (hb : EvD K M tb σ F H y) (hr : RV K r x y (.bool a)) (hc : a = true → EvD K M tc σ F H w) (hr' : a = true → RV K r' y w (.bool b)) : EvD K M (tChain r r' ta tb tc) σ F H (.bool (a && b)) := fun F1 H1 s Q q =>
  ha F1 H1 s _ fun F2 H2 v s2 rv => hb F2 H2 (s.trans s2.up) _ fun F3 H3 w s3 rw => hr F3 H3 v w s3.fh (rv.mono s3.ff) rw _ fun F4 H4 u s4 ru => ⟨a, by cases ru; rfl, by
    have s4' := (s2.trans s3).trans s4
    cases a with
    | false => exact q F4 H4 _ s4' (.bl false)
    | true =>
      show tc σ H4 _
      exact hc rfl F4 H4 (s.trans s4'.up) _ fun F5 H5 c s5 rc => hr' rfl F5 H5 w c s5.fh ((rw.mono s4.ff).mono s5.ff) rc Q fun F6 H6 u6 s6 ru6 => q F6 H6 u6 ((s4'.trans s5).trans s6) ru6⟩
end
end Sf

namespace Sf
open PySem L2
section
variable {K : PySem.W.Frag} {F H F' H' F1 H1 F2 H2 : Hp} {M : List Addr} {σ : L2.St} {te ta tb tc tl : TE} {tt tu : TT} {d x y z : PyData} {r r' : R2} {D : Ends} {tw tz : TS}
/-! ### operations on data -/
theorem rv_I0i {f : Int → Int → Int} {i j : Int} : RV K (rI0 fun i j => V.int (f i j)) (.int i) (.int j) (.int (f i j)) := fun F H v w e rv rw Q q => by
  cases rv; cases rw
  exact ⟨i, j, rfl, rfl, q F H _ (Sx.refl e) (.int _)⟩
theorem rv_I0b {f : Int → Int → Bool} {i j : Int} : RV K (rI0 fun i j => V.bl (f i j)) (.int i) (.int j) (.bool (f i j)) := fun F H v w e rv rw Q q => by
  cases rv; cases rw
  exact ⟨i, j, rfl, rfl, q F H _ (Sx.refl e) (.bl _)⟩
theorem rv_Ii {C : Int → Int → Prop} {f : Int → Int → Int} {i j : Int} (hc : C i j) : RV K (rI C fun i j => V.int (f i j)) (.int i) (.int j) (.int (f i j)) := fun F H v w e rv rw Q q => by
  cases rv; cases rw
  exact ⟨i, j, rfl, rfl, hc, q F H _ (Sx.refl e) (.int _)⟩
theorem rv_eqD (hx : SeqAt.shaped x = true) (hy : SeqAt.shaped y = true) : RV K (rEqD K) x y (.bool (PyData.eqv x y)) := fun F H v w e rv rw Q q =>
  ⟨x, y, (rv.mono e).dp, (rw.mono e).dp, hx, hy, q F H _ (Sx.refl e) (.bl _)⟩
theorem rv_neD (hx : SeqAt.shaped x = true) (hy : SeqAt.shaped y = true) : RV K (rNeD K) x y (.bool (!PyData.eqv x y)) := fun F H v w e rv rw Q q =>
  ⟨x, y, (rv.mono e).dp, (rw.mono e).dp, hx, hy, q F H _ (Sx.refl e) (.bl _)⟩
def isNon : PyData → Bool
  | .none => true
  | _ => false
theorem isNon_of {v : V} (rv : Rp K F v x) : decide (v = V.non) = isNon x := by cases rv <;> rfl
theorem rv_isN : RV K (fun x y H Q => y = V.non ∧ Q (.bl (decide (x = V.non))) H) x .none (.bool (isNon x)) := fun F H v w e rv rw Q q => by
  cases rw
  exact ⟨rfl, by rw [isNon_of rv]; exact q F H _ (Sx.refl e) (.bl _)⟩
theorem rv_notN : RV K (fun x y H Q => y = V.non ∧ Q (.bl (!decide (x = V.non))) H) x .none (.bool (!isNon x)) := fun F H v w e rv rw Q q => by
  cases rw
  exact ⟨rfl, by rw [isNon_of rv]; exact q F H _ (Sx.refl e) (.bl _)⟩
theorem RpAll.rep {vs : List V} {ds : List PyData} (h : RpAll K F vs ds) (n : Nat) : RpAll K F (List.replicate n vs).flatten (List.replicate n ds).flatten := by
  induction n with
  | zero => exact .nil
  | succ n ih => rw [List.replicate_succ, List.replicate_succ, List.flatten_cons, List.flatten_cons]; exact h.append ih
theorem rv_rep {ds : List PyData} {k : Int} (hk : -(2 ^ 63) ≤ k ∧ k < 2 ^ 63) (hl : ds.length * k.toNat ≤ 1000000) : RV K rRep (.list ds) (.int k) (.list (List.replicate k.toNat ds).flatten) := fun F H v w e rv rw Q q => by
  cases rw
  cases rv with
  | @lst a xs _ h r =>
    exact ⟨a, k, xs, rfl, rfl, e _ _ h, hk.1, hk.2, by rw [r.length]; exact Nat.le_trans hl (by decide), fun p hp => q _ _ _ (Sx.new e _ hp) (.lst upd_same ((r.rep _).mono (fix_same (none_of_same e hp))))⟩
theorem rv_cat {ds es : List PyData} (hl : ds.length + es.length ≤ 1000000) : RV K rCat (.list ds) (.list es) (.list (ds ++ es)) := fun F H v w e rv rw Q q => by
  cases rv with
  | @lst a xs _ h r =>
    cases rw with
    | @lst b ys _ h' r' =>
      exact ⟨a, b, xs, ys, rfl, rfl, e _ _ h, e _ _ h', by rw [r.length, r'.length]; exact Nat.le_trans hl (by decide), fun p hp => q _ _ _ (Sx.new e _ hp) (.lst upd_same ((r.append r').mono (fix_same (none_of_same e hp))))⟩
theorem rv_catA {ds es : List PyData} (hl : ds.length + es.length ≤ 1000000) : RV K (rCatA K) (.tuple ds) (.tuple es) (.tuple (ds ++ es)) := fun F H v w e rv rw Q q => by
  cases rv with
  | @tup a xs _ h r =>
    cases rw with
    | @tup b ys _ h' r' =>
      refine ⟨a, b, xs, ys, rfl, rfl, same_t e h, same_t e h', by rw [r.length, r'.length]; exact Nat.le_trans hl (by decide), fun z => ?_, fun _ z => ?_, fun _ _ p hp => q _ _ _ (Sx.new e _ hp) (.tup (.inl (.inl upd_same)) ((r.append r').mono (fix_same (none_of_same e hp))))⟩
      · subst z
        cases r
        exact q F H _ (Sx.refl e) (.tup h' r')
      · subst z
        cases r'
        rw [List.append_nil] at q
        exact q F H _ (Sx.refl e) (.tup h r)
theorem atI_map {vs : List V} {ds : List PyData} (r : RpAll K F vs ds) {i : Int} (h : atI ds i = some d) : ∃ v, atI vs i = some v ∧ Rp K F v d := by
  unfold atI at h ⊢
  rw [r.length]
  cases e : ixN ds.length i with
  | none => rw [e] at h; cases h
  | some j => rw [e] at h; exact r.get h
theorem rv_ixl {ds : List PyData} {i : Int} (h : atI ds i = some d) : RV K (rIx K) (.list ds) (.int i) d := fun F H v w e rv rw Q q => by
  cases rw
  cases rv with
  | @lst a xs _ h' r =>
    obtain ⟨u, hu, ru⟩ := atI_map r h
    exact .inl ⟨a, xs, i, u, rfl, rfl, .inl (.inl (e _ _ h')), hu, q F H _ (Sx.refl e) ru⟩
theorem rv_ixt {ds : List PyData} {i : Int} (h : atI ds i = some d) : RV K (rIx K) (.tuple ds) (.int i) d := fun F H v w e rv rw Q q => by
  cases rw
  cases rv with
  | @tup a xs _ h' r =>
    obtain ⟨u, hu, ru⟩ := atI_map r h
    exact .inr (.inl ⟨a, xs, i, u, rfl, rfl, same_t e h', hu, q F H _ (Sx.refl e) ru⟩)
theorem rv_ixs {w : Str} {i : Int} {c : Nat} (hl : w.length ≤ 1000000) (h : atI w.cps.toList i = some c) : RV K (rIx K) (.str w) (.int i) (.str ⟨#[c]⟩) := fun F H v u e rv ru Q q => by
  cases rv; cases ru
  exact .inr (.inr ⟨w, i, c, rfl, rfl, Nat.le_trans hl (by decide), h, q F H _ (Sx.refl e) (.str _)⟩)
theorem rv_or1 {r1 r2 : R2} (h : RV K r1 x y z) : RV K (fun x y H Q => r1 x y H Q ∨ r2 x y H Q) x y z := fun F H v w e rv rw Q q => .inl (h F H v w e rv rw Q q)
theorem rv_or2 {r1 r2 : R2} (h : RV K r2 x y z) : RV K (fun x y H Q => r1 x y H Q ∨ r2 x y H Q) x y z := fun F H v w e rv rw Q q => .inr (h F H v w e rv rw Q q)
theorem rv_neg {i : Int} : RU K (rU fun i => .int (-i)) (.int i) (.int (-i)) := fun F H v e rv Q q => by cases rv; exact ⟨i, rfl, q F H _ (Sx.refl e) (.int _)⟩
/-- slices -/
def cut {α : Type} (xs : List α) (lo hi : Option Int) : List α := (xs.drop (HT.sIx xs.length 0 lo)).take (HT.sIx xs.length xs.length hi - HT.sIx xs.length 0 lo)
theorem RpAll.cut {vs : List V} {ds : List PyData} (h : RpAll K F vs ds) (lo hi : Option Int) : RpAll K F (cutV vs lo hi) (cut ds lo hi) := by
  unfold cutV Sf.cut
  rw [h.length]
  exact (h.drop _).take _
theorem cut_map {α β : Type} (f : α → β) (xs : List α) (lo hi : Option Int) : cut (xs.map f) lo hi = (cut xs lo hi).map f := by
  unfold cut
  rw [List.length_map, List.map_take, List.map_drop]
theorem ev_slL {tl th : TO} {ds : List PyData} {lo hi : Option Int} (h : EvD K M te σ F H (.list ds)) (h1 : EvO K M tl σ F H lo) (h2 : EvO K M th σ F H hi) : EvD K M (tSl (rSlL K) te tl th) σ F H (.list (cut ds lo hi)) := fun F1 H1 s Q q =>
  h F1 H1 s _ fun F2 H2 v s2 rv => h1 F2 H2 (s.trans s2.up) _ fun F3 H3 s3 => h2 F3 H3 ((s.trans s2.up).trans s3.up) _ fun F4 H4 s4 => by
    have s5 := (s2.trans s3).trans s4
    have rv5 := (rv.mono s3.ff).mono s4.ff
    cases rv5 with
    | @lst a xs _ h' r => exact ⟨a, xs, rfl, .inl (.inl (s4.fh _ _ h')), fun p hp => q _ _ _ (s5.trans (Sx.new s4.fh _ hp)) (.lst upd_same ((r.cut lo hi).mono (fix_same (none_of_same s4.fh hp))))⟩
theorem ev_slT {tl th : TO} {ds : List PyData} {lo hi : Option Int} (h : EvD K M te σ F H (.tuple ds)) (h1 : EvO K M tl σ F H lo) (h2 : EvO K M th σ F H hi) : EvD K M (tSl (rSlA K) te tl th) σ F H (.tuple (cut ds lo hi)) := fun F1 H1 s Q q =>
  h F1 H1 s _ fun F2 H2 v s2 rv => h1 F2 H2 (s.trans s2.up) _ fun F3 H3 s3 => h2 F3 H3 ((s.trans s2.up).trans s3.up) _ fun F4 H4 s4 => by
    have s5 := (s2.trans s3).trans s4
    have rv5 := (rv.mono s3.ff).mono s4.ff
    cases rv5 with
    | @tup a xs _ h' r =>
      refine ⟨a, xs, rfl, same_t s4.fh h', fun z => ?_, fun _ p hp => q _ _ _ (s5.trans (Sx.new s4.fh _ hp)) (.tup (.inl (.inl upd_same)) ((r.cut lo hi).mono (fix_same (none_of_same s4.fh hp))))⟩
      have e : cut ds lo hi = ds := by
        unfold cut
        rw [← r.length, z.1, z.2, List.drop_zero, Nat.sub_zero, List.take_of_length_le (by rw [r.length]; exact Nat.le_refl _)]
      rw [e] at q
      exact q F4 H4 _ s5 (.tup h' r)
/-! ### calls of built-ins -/
theorem rc_lenL {ds : List PyData} : RC K (fun xs H Q => ∃ x n, xs = [x] ∧ LenV K x H n ∧ Q (V.int (n : Int)) H) [.list ds] (.int (ds.length : Int)) := fun F H vs e rs Q q => by
  cases rs with | cons h r => cases r; cases h with
    | @lst a xs _ h' r' => exact ⟨_, _, rfl, .inl ⟨xs, .inl (.inl (e _ _ h')), rfl⟩, by rw [r'.length]; exact q F H _ (Sx.refl e) (.int _)⟩
theorem rc_lenT {ds : List PyData} : RC K (fun xs H Q => ∃ x n, xs = [x] ∧ LenV K x H n ∧ Q (V.int (n : Int)) H) [.tuple ds] (.int (ds.length : Int)) := fun F H vs e rs Q q => by
  cases rs with | cons h r => cases r; cases h with
    | @tup a xs _ h' r' => exact ⟨_, _, rfl, .inr ⟨xs, same_t e h', rfl⟩, by rw [r'.length]; exact q F H _ (Sx.refl e) (.int _)⟩
theorem rc_lenS {w : Str} (hl : w.length ≤ 1000000) : RC K (fun xs H Q => ∃ x n, xs = [x] ∧ LenV K x H n ∧ Q (V.int (n : Int)) H) [.str w] (.int (w.length : Int)) := fun F H vs e rs Q q => by
  cases rs with | cons h r => cases r; cases h with
    | str => exact ⟨_, _, rfl, ⟨Nat.le_trans hl (by decide), rfl⟩, q F H _ (Sx.refl e) (.int _)⟩
theorem rc_listL {ds : List PyData} : RC K (fun xs H Q => ∃ p ys, xs = [V.ref p] ∧ (SqL K H p ys ∨ SqT K H p ys) ∧ ∀ (l : Addr), H l = none → Q (V.ref l) (upd H l (HO.lst ys))) [.list ds] (.list ds) := fun F H vs e rs Q q => by
  cases rs with | cons h r => cases r; cases h with
    | @lst a xs _ h' r' => exact ⟨_, _, rfl, .inl (.inl (.inl (e _ _ h'))), fun p hp => q _ _ _ (Sx.new e _ hp) (.lst upd_same (r'.mono (fix_same (none_of_same e hp))))⟩
theorem rc_listT {ds : List PyData} : RC K (fun xs H Q => ∃ p ys, xs = [V.ref p] ∧ (SqL K H p ys ∨ SqT K H p ys) ∧ ∀ (l : Addr), H l = none → Q (V.ref l) (upd H l (HO.lst ys))) [.tuple ds] (.list ds) := fun F H vs e rs Q q => by
  cases rs with | cons h r => cases r; cases h with
    | @tup a xs _ h' r' => exact ⟨_, _, rfl, .inr (same_t e h'), fun p hp => q _ _ _ (Sx.new e _ hp) (.lst upd_same (r'.mono (fix_same (none_of_same e hp))))⟩
theorem rc_tupL {ds : List PyData} : RC K (fun xs H Q => ∃ p ys, xs = [V.ref p] ∧ ((SqL K H p ys ∧ ∀ (l : Addr), H l = none → Q (V.ref l) (upd H l (HO.tup ys))) ∨ SqT K H p ys ∧ Q (V.ref p) H)) [.list ds] (.tuple ds) := fun F H vs e rs Q q => by
  cases rs with | cons h r => cases r; cases h with
    | @lst a xs _ h' r' => exact ⟨_, _, rfl, .inl ⟨.inl (.inl (e _ _ h')), fun p hp => q _ _ _ (Sx.new e _ hp) (.tup (.inl (.inl upd_same)) (r'.mono (fix_same (none_of_same e hp))))⟩⟩
theorem rc_tupT {ds : List PyData} : RC K (fun xs H Q => ∃ p ys, xs = [V.ref p] ∧ ((SqL K H p ys ∧ ∀ (l : Addr), H l = none → Q (V.ref l) (upd H l (HO.tup ys))) ∨ SqT K H p ys ∧ Q (V.ref p) H)) [.tuple ds] (.tuple ds) := fun F H vs e rs Q q => by
  cases rs with | cons h r => cases r; cases h with
    | @tup a xs _ h' r' => exact ⟨_, _, rfl, .inr ⟨same_t e h', q F H _ (Sx.refl e) (.tup h' r')⟩⟩
theorem rc_max2 {i j : Int} : RC K (fun xs H Q => ∃ i j, xs = [V.int i, V.int j] ∧ Q (V.int (if j > i then j else i)) H) [.int i, .int j] (.int (max i j)) := fun F H vs e rs Q q => by
  cases rs with | cons h r => cases r with | cons h' r' => cases r'; cases h; cases h'; exact ⟨i, j, rfl, by
    have : (if j > i then j else i) = max i j := by
      rw [Int.max_def]; split <;> split <;> omega
    rw [this]
    exact q F H _ (Sx.refl e) (.int _)⟩
theorem rc_int {i : Int} : RC K (fun xs H Q => (∃ i, xs = [V.int i] ∧ Q (V.int i) H) ∨ ∃ k, xs = [V.bl k] ∧ Q (V.int (if k = true then 1 else 0)) H) [.int i] (.int i) := fun F H vs e rs Q q => by
  cases rs with | cons h r => cases r; cases h; exact .inl ⟨i, rfl, q F H _ (Sx.refl e) (.int _)⟩
theorem rc_all {bs : List Bool} : RC K (rAll K) [.list (bs.map .bool)] (.bool (bs.all id)) := fun F H vs e rs Q q => by
  cases rs with | cons h r => cases r; cases h with
    | @lst a xs _ h' r' =>
      have := r'.of_bools
      subst this
      exact ⟨a, bs, rfl, .inl (.inl (e _ _ h')), q F H _ (Sx.refl e) (.bl _)⟩
theorem rc_any {bs : List Bool} : RC K (rAny K) [.list (bs.map .bool)] (.bool (bs.any id)) := fun F H vs e rs Q q => by
  cases rs with | cons h r => cases r; cases h with
    | @lst a xs _ h' r' =>
      have := r'.of_bools
      subst this
      exact ⟨a, bs, rfl, .inl (.inl (e _ _ h')), q F H _ (Sx.refl e) (.bl _)⟩
theorem rc_max {ns : List Int} {m : Int} (h0 : 0 < ns.length) (hm : ∀ k, k ∈ ns → (∀ y, y ∈ ns → y ≤ k) → k = m) : RC K (rMax K) [.list (ns.map .int)] (.int m) := fun F H vs e rs Q q => by
  cases rs with | cons h r => cases r; cases h with
    | @lst a xs _ h' r' =>
      have := r'.of_ints
      subst this
      exact ⟨a, ns, rfl, .inl (.inl (e _ _ h')), h0, fun k hk hl => by rw [hm k hk hl]; exact q F H _ (Sx.refl e) (.int _)⟩
/-! ### isinstance -/
def typeD : PyData → String
  | .none => "NoneType"
  | .bool _ => "bool"
  | .int _ => "int"
  | .str _ => "str"
  | .list _ => "list"
  | .tuple _ => "tuple"
  | .dict _ => "dict"
theorem tyx_of {v : V} (e : Same F H) (rv : Rp K F v d) : TyX K H v (.type (typeD d)) := by
  cases rv with
  | non => exact .base .non
  | bl b => exact .base (.bl b)
  | int i => exact .base (.int i)
  | str x => exact .base (.str x)
  | lst h r => exact .base (.lst (e _ _ h))
  | tup h r =>
    rcases h with (h | ⟨o, h⟩) | ⟨o, its, n, h1, h2, _⟩
    · exact .base (.tup (e _ _ h))
    · exact .fTuple (e _ _ h)
    · exact .kTuple h1 h2
theorem ev_isi {n : String} {b : Bool} (h : EvD K M te σ F H d) (hk : kitB (typeD d) n = some b) : EvD K M (tCB (rIsi K) (tCons te (tCons (tC (.ty n)) tNil))) σ F H (.bool b) := fun F1 H1 s Q q =>
  h F1 H1 s _ fun F2 H2 v s2 rv => ⟨v, .ty n, _, _, b, rfl, .ty n, tyx_of s2.fh rv, kit_ty hk, q F2 H2 _ s2 (.bl _)⟩
def tysA : List String → TA
  | [] => tNil
  | n :: ns => tCons (tC (.ty n)) (tysA ns)
theorem tysA_run : ∀ (ns : List String) (H : Hp) (Q : List V → Hp → Prop), Q (ns.map .ty) H → tysA ns σ H Q
  | [], H, Q, q => q
  | n :: ns, H, Q, q => tysA_run ns H _ q
theorem clsAll : ∀ ns : List String, Paired ClsV (ns.map V.ty) (ns.map Value.type)
  | [] => .nil
  | n :: ns => .cons (.ty n) (clsAll ns)
theorem kit_anyL {a : String} {f : String → Bool} : ∀ {ns : List String}, (∀ n ∈ ns, kitB a n = some (f n)) → PySem.W.kitAny K (.type a) (ns.map Value.type) = some (ns.any f)
  | [], _ => rfl
  | n :: ns, h => by
    have h1 := kit_ty (K := K) (h n (by simp))
    have h2 := kit_anyL (ns := ns) fun m hm => h m (by simp [hm])
    simp only [List.map_cons, PySem.W.kitAny, h1, List.any_cons]
    cases f n <;> simp [h2]
theorem ev_isiT (ns : List String) (f : String → Bool) {b : Bool} (h : EvD K M te σ F H d) (hk : ∀ n ∈ ns, kitB (typeD d) n = some (f n)) (hb : ns.any f = b) (hl : ns.length ≤ 1000) : EvD K M (tCB (rIsiT K) (tCons te (tCons (tTup (tysA ns)) tNil))) σ F H (.bool b) := fun F1 H1 s Q q =>
  h F1 H1 s _ fun F2 H2 v s2 rv => tysA_run ns H2 _ ⟨Nat.le_of_lt (small1000 (by rw [List.length_map]; exact hl)), fun p hp =>
    ⟨v, p, _, _, _, b, rfl, upd_same, clsAll ns, tyx_of (Sx.new (M := []) s2.fh _ hp).fh (rv.mono (fix_same (none_of_same s2.fh hp))), by rw [kit_anyL hk, hb], q _ _ _ (s2.trans (Sx.new s2.fh _ hp)) (.bl _)⟩⟩
end
end Sf

namespace Sf
open PySem L2
section
variable {K : PySem.W.Frag} {F H F' H' F1 H1 F2 H2 : Hp} {M : List Addr} {σ : L2.St} {te ta tb tc tl : TE} {tt tu : TT} {d x y z : PyData} {r r' : R2} {D : Ends} {tw tz : TS}
theorem RpAll.inv0 {vs : List V} (h : RpAll K F vs []) : vs = [] := by cases h; rfl
theorem RpAll.inv {vs : List V} {ds : List PyData} (h : RpAll K F vs (d :: ds)) : ∃ v ws, vs = v :: ws ∧ Rp K F v d ∧ RpAll K F ws ds := by
  cases h with | cons h r => exact ⟨_, _, rfl, h, r⟩
theorem RpAll.inv1 {vs : List V} (h : RpAll K F vs [x]) : ∃ v, vs = [v] ∧ Rp K F v x := by
  obtain ⟨v, ws, e, h, r⟩ := h.inv
  rw [r.inv0] at e
  exact ⟨v, e, h⟩
theorem RpAll.inv2 {vs : List V} (h : RpAll K F vs [x, y]) : ∃ v w, vs = [v, w] ∧ Rp K F v x ∧ Rp K F w y := by
  obtain ⟨v, ws, e, h, r⟩ := h.inv
  obtain ⟨w, e', h'⟩ := r.inv1
  rw [e'] at e
  exact ⟨v, w, e, h, h'⟩
theorem RpAll.inv3 {vs : List V} (h : RpAll K F vs [x, y, z]) : ∃ v w u, vs = [v, w, u] ∧ Rp K F v x ∧ Rp K F w y ∧ Rp K F u z := by
  obtain ⟨v, ws, e, h, r⟩ := h.inv
  obtain ⟨w, u, e', h', h''⟩ := r.inv2
  rw [e'] at e
  exact ⟨v, w, u, e, h, h', h''⟩
theorem Rp.int_of {v : V} {i : Int} (h : Rp K F v (.int i)) : v = .int i := by cases h; rfl
theorem Rp.bl_of {v : V} {i : Bool} (h : Rp K F v (.bool i)) : v = .bl i := by cases h; rfl
theorem Rp.str_of {v : V} {i : Str} (h : Rp K F v (.str i)) : v = .str i := by cases h; rfl
theorem Rp.non_of {v : V} (h : Rp K F v .none) : v = .non := by cases h; rfl
theorem Rp.lst_of {v : V} {ds : List PyData} (h : Rp K F v (.list ds)) : ∃ a xs, v = .ref a ∧ F a = some (.lst xs) ∧ RpAll K F xs ds := by cases h with | lst h r => exact ⟨_, _, rfl, h, r⟩
theorem Rp.tup_of {v : V} {ds : List PyData} (h : Rp K F v (.tuple ds)) : ∃ a xs, v = .ref a ∧ SqT K F a xs ∧ RpAll K F xs ds := by cases h with | tup h r => exact ⟨_, _, rfl, h, r⟩
/-! ### targets: what a target's reading stores of a datum -/
def TgD (K : PySem.W.Frag) (g : TG) (d : PyData) (P : L2.St → Hp → L2.St → Prop) : Prop :=
  ∀ F H v σ, Same F H → Rp K F v d → ∀ Q : L2.St → Hp → Prop, (∀ σ', P σ F σ' → Q σ' H) → g v σ H Q
def Nm (K : PySem.W.Frag) (i : Nat) (d : PyData) : L2.St → Hp → L2.St → Prop := fun σ F σ' => ∃ v, Rp K F v d ∧ σ' = σ.set i (some v)
def Nm2 (K : PySem.W.Frag) (i j : Nat) (d e : PyData) : L2.St → Hp → L2.St → Prop := fun σ F σ' => ∃ v w, Rp K F v d ∧ Rp K F w e ∧ σ' = (σ.set i (some v)).set j (some w)
def Nm3 (K : PySem.W.Frag) (i j k : Nat) (d e f : PyData) : L2.St → Hp → L2.St → Prop := fun σ F σ' => ∃ v w u, Rp K F v d ∧ Rp K F w e ∧ Rp K F u f ∧ σ' = ((σ.set i (some v)).set j (some w)).set k (some u)
theorem tg_nm {i : Nat} : TgD K (gName i) d (Nm K i d) := fun F H v σ e rv Q q => q _ ⟨v, rv, rfl⟩
theorem tg_nm2 {i j : Nat} {d e : PyData} : TgD K (gTup K 2 (gCons (gName i) (gCons (gName j) gNil))) (.tuple [d, e]) (Nm2 K i j d e) := fun F H v σ s rv Q q => by
  cases rv with
  | @tup a xs _ h r =>
    cases r with | cons h1 r => cases r with | cons h2 r => cases r; exact ⟨a, _, rfl, same_t s h, rfl, _, _, rfl, _, _, rfl, rfl, q _ ⟨_, _, h1, h2, rfl⟩⟩
theorem tg_nm3 {i j k : Nat} {d e f : PyData} : TgD K (gTup K 3 (gCons (gName i) (gCons (gName j) (gCons (gName k) gNil)))) (.tuple [d, e, f]) (Nm3 K i j k d e f) := fun F H v σ s rv Q q => by
  cases rv with
  | @tup a xs _ h r =>
    cases r with | cons h1 r => cases r with | cons h2 r => cases r with | cons h3 r => cases r; exact ⟨a, _, rfl, same_t s h, rfl, _, _, rfl, _, _, rfl, _, _, rfl, rfl, q _ ⟨_, _, _, h1, h2, h3, rfl⟩⟩

/-! ### comprehensions -/
/-- what holds of the list that grows at Dl: x's taken so far -/
def Lw (K : PySem.W.Frag) (F H : Hp) (Dl : Addr) (ds : List PyData) (H' : Hp) : Prop :=
  ∃ F' vs, Sx [] F H F' H' ∧ F' Dl = none ∧ H Dl = none ∧ H' Dl = some (.lst vs) ∧ RpAll K F' vs ds
theorem lw_turn {α : Type} {e g : α → PyData} {p : α → Bool} {gt : TG} {P : α → L2.St → Hp → L2.St → Prop} {vs : List Nat} {F0 H0 : Hp} {Dl : Addr} {acc : List PyData} {a : α} {v : V} {H' : Hp} (s0 : Sx M F H F0 H0)
    (hP : TgD K gt (e a) (P a)) (hw : ∀ F1 σ', P a (wipe σ vs) F1 σ' → wipe σ' vs = wipe σ vs)
    (ht : ∀ F1 H1 σ', Sx M F H F1 H1 → P a (wipe σ vs) F1 σ' → EvT K M tt σ' F1 H1 (p a))
    (he : p a = true → ∀ F1 H1 σ', Sx M F H F1 H1 → P a (wipe σ vs) F1 σ' → EvD K M te σ' F1 H1 (g a))
    (rv : Rp K F0 v (e a)) (w : Lw K F0 H0 Dl acc H') (hl : acc.length ≤ 1000000) (N : Hp → Prop) (hN : ∀ H'', Lw K F0 H0 Dl (acc ++ (if p a = true then [g a] else [])) H'' → N H'') :
    gt v (wipe σ vs) H' fun σ2 H2 => wipe σ2 vs = wipe σ vs ∧ tt σ2 H2 fun b H3 =>
      if b = true then te σ2 H3 fun y H4 => ∃ acc, H4 Dl = some (.lst acc) ∧ acc.length < sizeLine ∧ N (upd H4 Dl (.lst (acc ++ [y]))) else N H3 := by
  obtain ⟨F', ws, s, n1, n2, hD, rs⟩ := w
  refine hP F' H' v _ s.fh (rv.mono s.ff) _ fun σ' hσ => ⟨hw _ _ hσ, ?_⟩
  refine ht F' H' σ' (s0.trans s.up) hσ F' H' (Sx.refl s.fh) _ fun F2 H2 s2 => ?_
  have hD2 : H2 Dl = some (.lst ws) := s2.hh _ _ (by simp) hD
  have nF2 : F2 Dl = none := s2.sep _ n1 (by rw [hD]; simp)
  cases hp : p a with
  | false =>
    rw [hp] at hN
    exact iteF (hN _ ⟨F2, ws, s.trans s2, nF2, n2, hD2, by simpa using rs.mono s2.ff⟩)
  | true =>
    rw [hp] at hN
    refine iteT (he hp F' H' σ' (s0.trans s.up) hσ F2 H2 s2.up _ fun F3 H3 u s3 ru => ?_)
    have hD3 : H3 Dl = some (.lst ws) := s3.hh _ _ (by simp) hD2
    have nF3 : F3 Dl = none := s3.sep _ nF2 (by rw [hD2]; simp)
    refine ⟨ws, hD3, Nat.lt_of_le_of_lt (by rw [rs.length]; exact hl) (by decide), hN _ ⟨F3, _, Sx.put ((s.trans s2).trans s3) _ (.inr n2) nF3, nF3, n2, upd_same, ?_⟩⟩
    exact ((rs.mono s2.ff).mono s3.ff).append (.one ru)
def picked {α : Type} (xs : List α) (p : α → Bool) (g : α → PyData) (i : Nat) : List PyData := ((xs.take i).filter p).map g
theorem picked_next {α : Type} {xs : List α} {p : α → Bool} {g : α → PyData} {i : Nat} {a : α} (h : xs[i]? = some a) : picked xs p g (i + 1) = picked xs p g i ++ (if p a = true then [g a] else []) := by
  unfold picked
  rw [List.take_add_one, h]
  simp only [Option.toList, List.filter_append, List.map_append, List.filter_cons, List.filter_nil]
  split <;> rfl
theorem picked_le {α : Type} (xs : List α) (p : α → Bool) (g : α → PyData) (i : Nat) : (picked xs p g i).length ≤ xs.length := by
  unfold picked
  rw [List.length_map]
  exact Nat.le_trans (List.length_filter_le _ _) (by rw [List.length_take]; exact Nat.min_le_right _ _)
/-- over a list of data -/
theorem en_lcL {α : Type} (xs : List α) (e g : α → PyData) (p : α → Bool) (P : α → L2.St → Hp → L2.St → Prop) {gt : TG} {vs : List Nat} (h : EvD K M tl σ F H (.list (xs.map e))) (hz : xs.length ≤ 1000000)
    (hP : ∀ a ∈ xs, TgD K gt (e a) (P a)) (hw : ∀ a ∈ xs, ∀ F1 σ', P a (wipe σ vs) F1 σ' → wipe σ' vs = wipe σ vs)
    (ht : ∀ a ∈ xs, ∀ F1 H1 σ', Sx M F H F1 H1 → P a (wipe σ vs) F1 σ' → EvT K M tt σ' F1 H1 (p a))
    (he : ∀ a ∈ xs, p a = true → ∀ F1 H1 σ', Sx M F H F1 H1 → P a (wipe σ vs) F1 σ' → EvD K M te σ' F1 H1 (g a)) :
    EvN K M (tLc (iList K tl) gt tt te vs) σ F H ((xs.filter p).map g) := fun F1 H1 s Q q => h F1 H1 s _ fun F2 H2 v s2 rv => by
  cases rv with
  | @lst a ws _ h' rs =>
    refine ⟨a, rfl, ⟨ws, .inl (.inl (s2.fh _ _ h'))⟩, fun Dl hD => ?_⟩
    have hlen : ws.length = xs.length := by rw [rs.length, List.length_map]
    refine lc_list (xs := ws) (fun i H' => Lw K F2 H2 Dl (picked xs p g i) H') ⟨F2, [], Sx.newM s2.fh _ hD, none_of_same s2.fh hD, hD, upd_same, by unfold picked; exact .nil⟩ (fun i H' _ ⟨F', _, s3, _⟩ => .inl (.inl (s3.fh _ _ (s3.ff _ _ h')))) (fun i v H' hv w => ?_) (fun H' ⟨F', us, s3, n1, n2, hD3, r3⟩ => ?_)
    · obtain ⟨d, hd, rv⟩ := rs.of_get hv
      rw [List.getElem?_map] at hd
      cases hx : xs[i]? with
      | none => rw [hx] at hd; cases hd
      | some x =>
        rw [hx] at hd
        cases hd
        have hm : x ∈ xs := List.mem_of_getElem? hx
        refine lw_turn (e := e) (g := g) (p := p) (P := P) (s.trans s2.up) (hP x hm) (hw x hm) (ht x hm) (he x hm) rv w (Nat.le_trans (picked_le ..) hz) _ fun H'' w' => ?_
        rw [picked_next hx]
        exact w'
    · have e1 : picked xs p g ws.length = (xs.filter p).map g := by unfold picked; rw [hlen, List.take_length]
      rw [e1] at r3
      exact q F' H' Dl us (s2.trans s3) (Same.free s2.same n2) n1 hD3 r3
/-- over a tuple -/
theorem en_lcT {α : Type} (xs : List α) (e g : α → PyData) (p : α → Bool) (P : α → L2.St → Hp → L2.St → Prop) {gt : TG} {vs : List Nat} (h : EvD K M tl σ F H (.tuple (xs.map e))) (hz : xs.length ≤ 1000000)
    (hP : ∀ a ∈ xs, TgD K gt (e a) (P a)) (hw : ∀ a ∈ xs, ∀ F1 σ', P a (wipe σ vs) F1 σ' → wipe σ' vs = wipe σ vs)
    (ht : ∀ a ∈ xs, ∀ F1 H1 σ', Sx M F H F1 H1 → P a (wipe σ vs) F1 σ' → EvT K M tt σ' F1 H1 (p a))
    (he : ∀ a ∈ xs, p a = true → ∀ F1 H1 σ', Sx M F H F1 H1 → P a (wipe σ vs) F1 σ' → EvD K M te σ' F1 H1 (g a)) :
    EvN K M (tLc (iTup K tl) gt tt te vs) σ F H ((xs.filter p).map g) := fun F1 H1 s Q q => h F1 H1 s _ fun F2 H2 v s2 rv => by
  cases rv with
  | @tup a ws _ h' rs =>
    refine ⟨a, rfl, ⟨ws, same_t s2.fh h'⟩, fun Dl hD => ?_⟩
    have hlen : ws.length = xs.length := by rw [rs.length, List.length_map]
    refine lc_tup (xs := ws) (fun i H' => Lw K F2 H2 Dl (picked xs p g i) H') ⟨F2, [], Sx.newM s2.fh _ hD, none_of_same s2.fh hD, hD, upd_same, by unfold picked; exact .nil⟩ (fun i H' _ ⟨F', _, s3, _⟩ => same_t s3.fh (same_t s3.ff h')) (fun i v H' hv w => ?_) (fun H' ⟨F', us, s3, n1, n2, hD3, r3⟩ => ?_)
    · obtain ⟨d, hd, rv⟩ := rs.of_get hv
      rw [List.getElem?_map] at hd
      cases hx : xs[i]? with
      | none => rw [hx] at hd; cases hd
      | some x =>
        rw [hx] at hd
        cases hd
        have hm : x ∈ xs := List.mem_of_getElem? hx
        refine lw_turn (e := e) (g := g) (p := p) (P := P) (s.trans s2.up) (hP x hm) (hw x hm) (ht x hm) (he x hm) rv w (Nat.le_trans (picked_le ..) hz) _ fun H'' w' => ?_
        rw [picked_next hx]
        exact w'
    · have e1 : picked xs p g ws.length = (xs.filter p).map g := by unfold picked; rw [hlen, List.take_length]
      rw [e1] at r3
      exact q F' H' Dl us (s2.trans s3) (Same.free s2.same n2) n1 hD3 r3
theorem range_at {n i : Nat} (h : i < n) : (List.range n)[i]? = some i := by rw [List.getElem?_range h]
/-- over range(n) -/
theorem en_lcR1 (n : Nat) (g : Nat → PyData) (p : Nat → Bool) {ta : TA} {gt : TG} {j : Nat} {vs : List Nat} {m : Int} (h : EvA K M ta σ F H [.int m]) (hm : m = (n : Int)) (hz : n ≤ 1000000)
    (hP : gt = gName j) (hw : ∀ v, wipe ((wipe σ vs).set j (some v)) vs = wipe σ vs)
    (ht : ∀ a, a < n → ∀ F1 H1, Sx M F H F1 H1 → EvT K M tt ((wipe σ vs).set j (some (.int (a : Int)))) F1 H1 (p a))
    (he : ∀ a, a < n → p a = true → ∀ F1 H1, Sx M F H F1 H1 → EvD K M te ((wipe σ vs).set j (some (.int (a : Int)))) F1 H1 (g a)) :
    EvN K M (tLc (iRng1 ta) gt tt te vs) σ F H (((List.range n).filter p).map g) := fun F1 H1 s Q q => h F1 H1 s _ fun F2 H2 us s2 rs => by
  obtain ⟨_, rfl, h1⟩ := rs.inv1
  cases h1.int_of; subst hm; subst hP
  refine ⟨_, rfl, by omega, by omega, fun Dl hD => ?_⟩
  refine lc_range (lo := 0) (n := (n : Int).toNat) (fun i H' => Lw K F2 H2 Dl (picked (List.range n) p g i) H') ⟨F2, [], Sx.newM s2.fh _ hD, none_of_same s2.fh hD, hD, upd_same, by unfold picked; exact .nil⟩ (fun i H' hi w => ?_) (fun H' ⟨F', us, s3, n1, n2, hD3, r3⟩ => ?_)
  · have hi' : i < n := by simpa using hi
    have e0 : (0 : Int) + (i : Int) = (i : Int) := Int.zero_add _
    show gName j (.int ((0 : Int) + (i : Int))) (wipe σ vs) H' _
    rw [e0]
    refine lw_turn (K := K) (e := fun a : Nat => PyData.int (a : Int)) (g := g) (p := p) (P := fun a σ F σ' => σ' = σ.set j (some (.int (a : Int)))) (a := i) (s.trans s2.up) (fun F H v σ e rv Q q => by cases rv; exact q _ rfl) (fun F1 σ' z => by rw [z]; exact hw _)
      (fun F1 H1 σ' s1 z => by subst z; exact ht i hi' F1 H1 s1) (fun hp F1 H1 σ' s1 z => by subst z; exact he i hi' hp F1 H1 s1) (.int _) w (Nat.le_trans (picked_le ..) (by simpa using hz)) _ fun H'' w' => ?_
    rw [picked_next (range_at hi')]
    exact w'
  · have e1 : picked (List.range n) p g (n : Int).toNat = ((List.range n).filter p).map g := by
      unfold picked
      rw [Int.toNat_natCast, List.take_of_length_le (by simp)]
    rw [e1] at r3
    exact q F' H' Dl us (s2.trans s3) (Same.free s2.same n2) n1 hD3 r3
/-- over range(lo, hi) -/
theorem en_lcR2 (lo n : Nat) (g : Nat → PyData) (p : Nat → Bool) {ta : TA} {gt : TG} {j : Nat} {vs : List Nat} {m m' : Int} (h : EvA K M ta σ F H [.int m, .int m']) (hm : m = (lo : Int)) (hm' : m' = (lo : Int) + (n : Int)) (hz : n ≤ 1000000) (hz' : lo ≤ 1000000)
    (hP : gt = gName j) (hw : ∀ v, wipe ((wipe σ vs).set j (some v)) vs = wipe σ vs)
    (ht : ∀ a, lo ≤ a → a < lo + n → ∀ F1 H1, Sx M F H F1 H1 → EvT K M tt ((wipe σ vs).set j (some (.int (a : Int)))) F1 H1 (p a))
    (he : ∀ a, lo ≤ a → a < lo + n → p a = true → ∀ F1 H1, Sx M F H F1 H1 → EvD K M te ((wipe σ vs).set j (some (.int (a : Int)))) F1 H1 (g a)) :
    EvN K M (tLc (iRng2 ta) gt tt te vs) σ F H (((List.range' lo n).filter p).map g) := fun F1 H1 s Q q => h F1 H1 s _ fun F2 H2 us s2 rs => by
  obtain ⟨_, _, rfl, h1, h2⟩ := rs.inv2
  cases h1.int_of; cases h2.int_of; subst hm; subst hm'; subst hP
  refine ⟨_, _, rfl, by omega, fun Dl hD => ?_⟩
  have e9 : ((lo : Int) + (n : Int) - (lo : Int)).toNat = n := by omega
  refine lc_range (lo := (lo : Int)) (n := ((lo : Int) + (n : Int) - (lo : Int)).toNat) (fun i H' => Lw K F2 H2 Dl (picked (List.range' lo n) p g i) H') ⟨F2, [], Sx.newM s2.fh _ hD, none_of_same s2.fh hD, hD, upd_same, by unfold picked; exact .nil⟩ (fun i H' hi w => ?_) (fun H' ⟨F', us, s3, n1, n2, hD3, r3⟩ => ?_)
  · have hi' : i < n := by omega
    have hx : (List.range' lo n)[i]? = some (lo + i) := by rw [List.getElem?_range' hi']; simp
    have e0 : (lo : Int) + (i : Int) = ((lo + i : Nat) : Int) := by omega
    show gName j (.int ((lo : Int) + (i : Int))) (wipe σ vs) H' _
    rw [e0]
    refine lw_turn (K := K) (e := fun a : Nat => PyData.int (a : Int)) (g := g) (p := p) (P := fun a σ F σ' => σ' = σ.set j (some (.int (a : Int)))) (a := lo + i) (s.trans s2.up) (fun F H v σ e rv Q q => by cases rv; exact q _ rfl) (fun F1 σ' z => by rw [z]; exact hw _)
      (fun F1 H1 σ' s1 z => by subst z; exact ht _ (by omega) (by omega) F1 H1 s1) (fun hp F1 H1 σ' s1 z => by subst z; exact he _ (by omega) (by omega) hp F1 H1 s1) (.int _) w (Nat.le_trans (picked_le ..) (by simpa using hz)) _ fun H'' w' => ?_
    rw [picked_next hx]
    exact w'
  · have e1 : picked (List.range' lo n) p g ((lo : Int) + (n : Int) - (lo : Int)).toNat = ((List.range' lo n).filter p).map g := by
      unfold picked
      rw [e9, List.take_of_length_le (by simp)]
    rw [e1] at r3
    exact q F' H' Dl us (s2.trans s3) (Same.free s2.same n2) n1 hD3 r3
theorem et_yes : EvT K M tYes σ F H true := fun F1 H1 s Q q => q F1 H1 (Sx.refl s.fh)
theorem filter_yes {α : Type} (xs : List α) : xs.filter (fun _ => true) = xs := by simp

/-! ### statements -/
theorem sq {t u : TS} (h : t { D with nx := u D } σ H) : tSeq t u D σ H := h
theorem st_asg {g : TG} {P : L2.St → Hp → L2.St → Prop} (hg : TgD K g d P) (e : Same F H) (h : EvD K M te σ F H d) (k : ∀ F1 H1 σ', Sx M F H F1 H1 → P σ F1 σ' → D.nx σ' H1) : tAsg te g D σ H :=
  h F H (Sx.refl e) _ fun F1 H1 v s rv => hg F1 H1 v σ s.fh rv _ fun σ' hσ => k F1 H1 σ' s.up hσ
theorem st_set {i : Nat} (e : Same F H) (h : EvD K M te σ F H d) (k : ∀ F1 H1 v, Sx M F H F1 H1 → Rp K F1 v d → D.nx (σ.set i (some v)) H1) : tAsg te (gName i) D σ H :=
  h F H (Sx.refl e) _ fun F1 H1 v s rv => k F1 H1 v s.up rv
theorem st_setN {i : Nat} {ds : List PyData} (e : Same F H) (h : EvN K M te σ F H ds) (k : ∀ F1 H1 p vs, Sx M F H F1 H1 → H p = none → F1 p = none → H1 p = some (.lst vs) → RpAll K F1 vs ds → D.nx (σ.set i (some (.ref p))) H1) : tAsg te (gName i) D σ H :=
  h F H (Sx.refl e) _ fun F1 H1 p vs s n1 n2 hp rs => k F1 H1 p vs s.up n1 n2 hp rs
theorem st_par {i j : Nat} {ta : TA} {d e : PyData} (s0 : Same F H) (h : EvA K M ta σ F H [d, e]) (k : ∀ F1 H1 v w, Sx M F H F1 H1 → Rp K F1 v d → Rp K F1 w e → D.nx ((σ.set i (some v)).set j (some w)) H1) : tPar i j ta D σ H :=
  h F H (Sx.refl s0) _ fun F1 H1 vs s rs => by
    cases rs with | cons h1 rs => cases rs with | cons h2 rs => cases rs; exact ⟨_, _, rfl, k F1 H1 _ _ s.up h1 h2⟩
theorem st_ret (e : Same F H) (h : EvD K M te σ F H d) (k : ∀ F1 H1 v, Sx M F H F1 H1 → Rp K F1 v d → D.rt v H1) : tRet te D σ H :=
  h F H (Sx.refl e) _ fun F1 H1 v s rv => k F1 H1 v s.up rv
theorem st_if {b : Bool} (e : Same F H) (h : EvT K M tt σ F H b) (h1 : b = true → ∀ F1 H1, Sx M F H F1 H1 → tw D σ H1) (h2 : b = false → ∀ F1 H1, Sx M F H F1 H1 → tz D σ H1) : tIfS tt tw tz D σ H :=
  h F H (Sx.refl e) _ fun F1 H1 s => by
    cases b with
    | true => exact iteT (h1 rfl F1 H1 s.up)
    | false => exact iteF (h2 rfl F1 H1 s.up)
theorem st_drop (e : Same F H) (h : EvD K M te σ F H d) (k : ∀ F1 H1, Sx M F H F1 H1 → D.nx σ H1) : tDrop te D σ H :=
  h F H (Sx.refl e) _ fun F1 H1 v s rv => k F1 H1 s.up
theorem st_aug {i : Nat} {f : Int → Int → Int} {a b : Int} (e : Same F H) (hx : σ[i]? = some (some (.int a))) (h : EvD K M te σ F H (.int b)) (k : ∀ F1 H1, Sx M F H F1 H1 → D.nx (σ.set i (some (.int (f a b)))) H1) : tAug i te (ipI f) D σ H :=
  ⟨.int a, hx, h F H (Sx.refl e) _ fun F1 H1 v s rv => ⟨a, b, rfl, by cases rv; rfl, k F1 H1 s.up⟩⟩
/-- while, by a word I of the measure, the slots and the heaps -/
theorem st_while (I : Nat → L2.St → Hp → Hp → Prop) (e : Same F H) (m0 : Nat) (h0 : I m0 σ F H)
    (hs : ∀ m σ' F' H', Sx M F H F' H' → I m σ' F' H' → ∃ b M', EvT K M' tt σ' F' H' b ∧
      (b = true → ∀ F1 H1, Sx M' F' H' F1 H1 → tw { D with nx := fun σ2 H2 => ∃ m', m' < m ∧ ∃ F2, Sx M F H F2 H2 ∧ I m' σ2 F2 H2, ct := fun σ2 H2 => ∃ m', m' < m ∧ ∃ F2, Sx M F H F2 H2 ∧ I m' σ2 F2 H2, bk := D.nx } σ' H1) ∧
      (b = false → ∀ F1 H1, Sx M' F' H' F1 H1 → D.nx σ' H1)) : tWhile tt tw D σ H := by
  refine ⟨fun m σ' H' => ∃ F', Sx M F H F' H' ∧ I m σ' F' H', ⟨m0, F, Sx.refl e, h0⟩, fun m σ' H' ⟨F', s, hi⟩ => ?_⟩
  obtain ⟨b, M', hb, h1, h2⟩ := hs m σ' F' H' s hi
  refine hb F' H' (Sx.refl s.fh) _ fun F1 H1 s1 => ?_
  cases b with
  | true => exact iteT ⟨_, fun σ2 H2 z => z, h1 rfl F1 H1 s1.up⟩
  | false => exact iteF (h2 rfl F1 H1 s1.up)
/-- for over range(n) -/
theorem st_forR1 {ta : TA} {j n : Nat} {m : Int} (I : Nat → L2.St → Hp → Hp → Prop) (e : Same F H) (h : EvA K M ta σ F H [.int m]) (hm : m = (n : Int)) (hz : n ≤ 1000000) (h0 : ∀ F1 H1, Sx M F H F1 H1 → I 0 σ F1 H1)
    (hs : ∀ i σ' F' H', i < n → Sx M F H F' H' → I i σ' F' H' → tw { D with nx := fun σ2 H2 => ∃ F2, Sx M F H F2 H2 ∧ I (i + 1) σ2 F2 H2, ct := fun σ2 H2 => ∃ F2, Sx M F H F2 H2 ∧ I (i + 1) σ2 F2 H2, bk := D.nx } (σ'.set j (some (.int (i : Int)))) H')
    (hd : ∀ σ' F' H', Sx M F H F' H' → I n σ' F' H' → D.nx σ' H') : tFor (iRng1 ta) (gName j) tw D σ H :=
  h F H (Sx.refl e) _ fun F1 H1 vs s rs => by
    obtain ⟨_, rfl, h1⟩ := rs.inv1
    cases h1.int_of; subst hm
    refine ⟨_, rfl, by omega, by omega, for_range (lo := 0) (n := (n : Int).toNat) (fun i σ2 H2 => ∃ F2, Sx M F H F2 H2 ∧ I i σ2 F2 H2) ⟨F1, s.up, h0 F1 H1 s.up⟩ (fun i σ' H' hi ⟨F', s', hI⟩ => ?_) (fun σ' H' ⟨F', s', hI⟩ => hd σ' F' H' s' (by simpa using hI))⟩
    have e0 : (0 : Int) + (i : Int) = (i : Int) := Int.zero_add _
    show tw _ (σ'.set j (some (.int ((0 : Int) + (i : Int))))) H'
    rw [e0]
    exact hs i σ' F' H' (by simpa using hi) s' hI
/-- for over a list of data, a tuple of data -/
theorem st_forL {α : Type} (xs : List α) (ed : α → PyData) (P : α → L2.St → Hp → L2.St → Prop) {g : TG} (e : Same F H) (h : EvD K M tl σ F H (.list (xs.map ed))) (hP : ∀ a ∈ xs, TgD K g (ed a) (P a))
    (k : ∀ F1 H1, Sx M F H F1 H1 → ∃ I : Nat → L2.St → Hp → Hp → Prop, I 0 σ F1 H1 ∧
    (∀ i a σ' F' H' σ'', xs[i]? = some a → Sx M F1 H1 F' H' → I i σ' F' H' → P a σ' F' σ'' → tw { D with nx := fun σ2 H2 => ∃ F2, Sx M F1 H1 F2 H2 ∧ I (i + 1) σ2 F2 H2, ct := fun σ2 H2 => ∃ F2, Sx M F1 H1 F2 H2 ∧ I (i + 1) σ2 F2 H2, bk := D.nx } σ'' H') ∧
    (∀ σ' F' H', Sx M F1 H1 F' H' → I xs.length σ' F' H' → D.nx σ' H')) : tFor (iList K tl) g tw D σ H :=
  h F H (Sx.refl e) _ fun F1 H1 v s rv => by
    obtain ⟨I, h0, hs, hd⟩ := k F1 H1 s.up
    obtain ⟨a, ws, rfl, h', rs⟩ := rv.lst_of
    have hlen : ws.length = xs.length := by rw [rs.length, List.length_map]
    refine ⟨a, rfl, ⟨ws, .inl (.inl (s.fh _ _ h'))⟩, for_list (xs := ws) (fun i σ2 H2 => ∃ F2, Sx M F1 H1 F2 H2 ∧ I i σ2 F2 H2) ⟨F1, Sx.refl s.fh, h0⟩ (fun i σ2 H2 _ ⟨F2, s2, _⟩ => .inl (.inl (s2.fh _ _ (s2.ff _ _ h')))) (fun i v σ' H' hv ⟨F', s', hI⟩ => ?_) (fun σ' H' ⟨F', s', hI⟩ => hd σ' F' H' s' (by rw [← hlen]; exact hI))⟩
    obtain ⟨d, hd, rv⟩ := rs.of_get hv
    rw [List.getElem?_map] at hd
    cases hx : xs[i]? with
    | none => rw [hx] at hd; cases hd
    | some x =>
      rw [hx] at hd
      cases hd
      exact hP x (List.mem_of_getElem? hx) F' H' v σ' s'.fh (rv.mono s'.ff) _ fun σ'' hσ => hs i x σ' F' H' σ'' hx s' hI hσ
theorem st_forT {α : Type} (xs : List α) (ed : α → PyData) (P : α → L2.St → Hp → L2.St → Prop) {g : TG} (e : Same F H) (h : EvD K M tl σ F H (.tuple (xs.map ed))) (hP : ∀ a ∈ xs, TgD K g (ed a) (P a))
    (k : ∀ F1 H1, Sx M F H F1 H1 → ∃ I : Nat → L2.St → Hp → Hp → Prop, I 0 σ F1 H1 ∧
    (∀ i a σ' F' H' σ'', xs[i]? = some a → Sx M F1 H1 F' H' → I i σ' F' H' → P a σ' F' σ'' → tw { D with nx := fun σ2 H2 => ∃ F2, Sx M F1 H1 F2 H2 ∧ I (i + 1) σ2 F2 H2, ct := fun σ2 H2 => ∃ F2, Sx M F1 H1 F2 H2 ∧ I (i + 1) σ2 F2 H2, bk := D.nx } σ'' H') ∧
    (∀ σ' F' H', Sx M F1 H1 F' H' → I xs.length σ' F' H' → D.nx σ' H')) : tFor (iTup K tl) g tw D σ H :=
  h F H (Sx.refl e) _ fun F1 H1 v s rv => by
    obtain ⟨I, h0, hs, hd⟩ := k F1 H1 s.up
    obtain ⟨a, ws, rfl, h', rs⟩ := rv.tup_of
    have hlen : ws.length = xs.length := by rw [rs.length, List.length_map]
    refine ⟨a, rfl, ⟨ws, same_t s.fh h'⟩, for_tup (xs := ws) (fun i σ2 H2 => ∃ F2, Sx M F1 H1 F2 H2 ∧ I i σ2 F2 H2) ⟨F1, Sx.refl s.fh, h0⟩ (fun i σ2 H2 _ ⟨F2, s2, _⟩ => same_t s2.fh (same_t s2.ff h')) (fun i v σ' H' hv ⟨F', s', hI⟩ => ?_) (fun σ' H' ⟨F', s', hI⟩ => hd σ' F' H' s' (by rw [← hlen]; exact hI))⟩
    obtain ⟨d, hd, rv⟩ := rs.of_get hv
    rw [List.getElem?_map] at hd
    cases hx : xs[i]? with
    | none => rw [hx] at hd; cases hd
    | some x =>
      rw [hx] at hd
      cases hd
      exact hP x (List.mem_of_getElem? hx) F' H' v σ' s'.fh (rv.mono s'.ff) _ fun σ'' hσ => hs i x σ' F' H' σ'' hx s' hI hσ

/-! ### promises of pure defs -/
/-- from data (i tells them) to a datum, nothing changed -/
def spP (K : PySem.W.Frag) {ι : Type} (din : ι → List PyData) (dout : ι → PyData) (pre : ι → Prop) : Sp := fun vs H Q _ =>
  ∃ i F, Same F H ∧ RpAll K F vs (din i) ∧ pre i ∧ ∀ F' H' v, Sx [] F H F' H' → Rp K F' v (dout i) → Q v H'
theorem ev_call {ι : Type} {din : ι → List PyData} {dout : ι → PyData} {pre : ι → Prop} {E : XK} {ta : TA} (i : ι) (h : EvA K M ta σ F H (din i)) (hp : pre i) : EvD K M (tCall (spP K din dout pre) [] E ta) σ F H (dout i) := fun F1 H1 s Q q =>
  h F1 H1 s _ fun F2 H2 vs s2 rs => ⟨i, F2, s2.fh, by rw [List.append_nil]; exact rs, hp, fun F' H' v s3 rv => q F' H' v (s2.trans s3) rv⟩
end
section
variable {P : Program} {w : World} {K : PySem.W.Frag} {mg : Str → Option Value} {base : Heap}
theorem ok_spP {x qual : Str} {st : Stmt} {f : Addr} {fd : FuncData} {N ps : List Str} {k : Nat} {ι : Type} {din : ι → List PyData} {dout : ι → PyData} {pre : ι → Prop} (Fn : Fun K x qual st f fd) (S : FnScope N ps (defScope st)) (hl : ∀ i, (din i).length = ps.length)
    (body : ∀ (cdv : Value) (A : Around) (outer : List Env) (s : Shared) (H : Hp) (E : XK) (F : Hp) (i : ι) (vs : List V), Room k (A.deeper (PyProof.Rows.envOfC qual (defScope st) s.heap.objs.size f cdv)) → Same F H → RpAll K F vs (din i) → pre i →
      ∃ t, PSs (cxOf CX0 P w K mg base N qual (defScope st) f cdv A outer s H E).nox (defBody st) t ∧
        ∀ D : Ends, (∀ σ H', D.nx σ H' = D.rt .non H') → (∀ F' H' v, Sx [] F H F' H' → Rp K F' v (dout i) → D.rt v H') → t D (start N vs) H) : FnOk P w K mg base CX0 (k + 1) f fd ps (spP K din dout pre) := by
  refine Fn.ok S (fun vs H Q E h => ?_) (fun cdv A outer s H vs Q E hr h => ?_)
  · obtain ⟨i, F, _, rs, _⟩ := h
    rw [rs.length, hl]
  · obtain ⟨i, F, e, rs, hp, q⟩ := h
    obtain ⟨t, h1, h2⟩ := body cdv A outer s H E F i vs hr e rs hp
    exact ⟨t, h1, h2 { nx := fun _ H' => Q .non H', rt := Q } (fun _ _ => rfl) q⟩
end
end Sf

namespace Sf
open PySem PySem.Spec PyProof.Rows L2
theorem room65 {k : Nat} {A : Around} (r : Room k A) : A.units + 65 < cLine := by have := r.un; omega
section
variable {X : Cx}
def rOr (r1 r2 : R2) : R2 := fun x y H Q => r1 x y H Q ∨ r2 x y H Q
theorem op_or {f : Value → Value → Sem Value} {r1 r2 : R2} (h1 : OpR X f r1) (h2 : OpR X f r2) : OpR X f (rOr r1 r2) := fun pins s σ H x y v u Q I rx ry h => by
  rcases h with h | h
  · exact h1 pins s σ H x y v u Q I rx ry h
  · exact h2 pins s σ H x y v u Q I rx ry h
def iOr (w1 w2 : TI) : TI := fun σ H R => w1 σ H R ∨ w2 σ H R
theorem pi_or {tg e : Expr} {w1 w2 : TI} (h1 : PI X tg e w1) (h2 : PI X tg e w2) : PI X tg e (iOr w1 w2) := ⟨fun pins s σ H R I h => by
  rcases h with h | h
  · exact h1.run pins s σ H R I h
  · exact h2.run pins s σ H R I h⟩
def rSOr (r1 r2 : V → Option Int → Option Int → Hp → VK → Prop) : V → Option Int → Option Int → Hp → VK → Prop := fun x l u H Q => r1 x l u H Q ∨ r2 x l u H Q
theorem sl_or {r1 r2 : V → Option Int → Option Int → Hp → VK → Prop} (h1 : SlR X r1) (h2 : SlR X r2) : SlR X (rSOr r1 r2) := h1.or h2
/-! a tuple by 0, by 1 -/
theorem tup_times0 (l : Addr) (items : Array Value) (n : Nat) (dd : Option Addr) (sl : Array (Option Value)) (u : Tok) (hne : items.isEmpty = false) :
    Meets (Builtin.«tuple.__mul__» ⟨[.ref l, .int 0 u], []⟩) (fun _ R s => s.heap.get? l = some { cls := .type "tuple", dict := dd, data := .seq items n, slots := sl } ∧
      R (.ok (.ret (Value.ref s.heap.objs.size))) { s with heap := s.heap.push { cls := Value.type "tuple", data := Data.seq #[] }, toks := s.toks }) :=
  .of_wp fun prog w A R s h => by
    obtain ⟨hp, g, dr, tk, os⟩ := s
    obtain ⟨hl, h⟩ := h
    have c0 : (decide ((0 : Int) < -(2 ^ 63)) || decide ((0 : Int) ≥ 2 ^ 63)) = false := by decide
    have c1 : (items.isEmpty || (0 : Int) == 1) = false := by rw [hne]; rfl
    have f1 := AutoSeq1.idx_int
    wp_walk using wpAny_loadPart' hl
    repeat (first
      | (refine wpAny_ite_false (decide_eq_false (by rw [c0]; decide)) ?_; wp_walk using wpAny_loadPart' hl)
      | (refine wpAny_ite_false (decide_eq_false (by rw [c1]; decide)) ?_; wp_walk using wpAny_loadPart' hl)
      | (refine wpAny_ite_true (decide_eq_true (by rw [hne]; decide)) ?_; wp_walk using wpAny_loadPart' hl))
    exact ⟨_, rfl, h⟩
theorem tup_times1 (l : Addr) (items : Array Value) (n : Nat) (dd : Option Addr) (sl : Array (Option Value)) (u : Tok) :
    Meets (Builtin.«tuple.__mul__» ⟨[.ref l, .int 1 u], []⟩) (fun _ R s => s.heap.get? l = some { cls := .type "tuple", dict := dd, data := .seq items n, slots := sl } ∧
      R (.ok (.ret (Value.ref l))) s) :=
  .of_wp fun prog w A R s h => by
    obtain ⟨hp, g, dr, tk, os⟩ := s
    obtain ⟨hl, h⟩ := h
    have c0 : (decide ((1 : Int) < -(2 ^ 63)) || decide ((1 : Int) ≥ 2 ^ 63)) = false := by decide
    have c1 : (items.isEmpty || (1 : Int) == 1) = true := by rw [show ((1 : Int) == 1) = true from rfl, Bool.or_true]
    have f1 := AutoSeq1.idx_int
    wp_walk using wpAny_loadPart' hl
    repeat (first
      | (refine wpAny_ite_false (decide_eq_false (by rw [c0]; decide)) ?_; wp_walk using wpAny_loadPart' hl)
      | (refine wpAny_ite_true (decide_eq_true (by rw [c1])) ?_; wp_walk using wpAny_loadPart' hl))
    exact ⟨_, rfl, h⟩
/-- t * 0, t * 1 of a tuple that is not empty -/
def rRepS (K : PySem.W.Frag) : R2 := fun x y H Q => ∃ l k xs, x = .ref l ∧ y = .int k ∧ SqT K H l xs ∧ xs ≠ [] ∧ ((k = 1 ∧ Q (.ref l) H) ∨ (k = 0 ∧ ∀ p, H p = none → Q (.ref p) (upd H p (.tup []))))
theorem op_repS : OpR X (binaryOp .Mult) (rRepS X.K) := by
  intro pins s σ H x y v u Q I rx ry h
  obtain ⟨l, k, xs, rfl, rfl, hT, hne, q⟩ := h
  cases rx
  obtain ⟨t, rfl⟩ := ry
  obtain ⟨its, r, ⟨⟨cls, dd, data, sl⟩, ho, hc, n, hd⟩, hs⟩ := I.tuple hT
  simp only at hc hd
  subst hc hd
  have hi : its.toArray.isEmpty = false := by
    cases its with
    | nil => exact absurd (List.eq_nil_of_length_eq_zero (by rw [r.length]; rfl)) hne
    | cons a b => rfl
  rcases q with ⟨rfl, q⟩ | ⟨rfl, q⟩
  · refine wpAny_binaryOp_repeat_ref (T := "tuple") (U := "int") (by decide) ⟨_, ho, rfl⟩ (fun s' => typeIs_int s' 1 t) noFill_tuple_mul F.fills_int_mul F.slot_int_rmul repeat_tuple F.slot_int_index.lookup ?_
    refine call_meets F.slot_int_rmul (typeIs_int s 1 t) F.entry_int_rmul (F.args_int_rmul_2 _ _) (int_rmul_tuple 1 t l its.toArray n dd sl) ⟨ho, rfl, ⟨_, ho, rfl⟩, ?_⟩
    refine call_meets F.slot_tuple_mul ⟨_, ho, rfl⟩ F.entry_tuple_mul (F.args_tuple_mul_2 _ _) (tup_times1 l its.toArray n dd sl t) ⟨ho, ?_⟩
    exact ⟨.ref l, H, I, rfl, q⟩
  · refine wpAny_binaryOp_repeat_ref (T := "tuple") (U := "int") (by decide) ⟨_, ho, rfl⟩ (fun s' => typeIs_int s' 0 t) noFill_tuple_mul F.fills_int_mul F.slot_int_rmul repeat_tuple F.slot_int_index.lookup ?_
    refine call_meets F.slot_int_rmul (typeIs_int s 0 t) F.entry_int_rmul (F.args_int_rmul_2 _ _) (int_rmul_tuple 0 t l its.toArray n dd sl) ⟨ho, rfl, ⟨_, ho, rfl⟩, ?_⟩
    refine call_meets F.slot_tuple_mul ⟨_, ho, rfl⟩ F.entry_tuple_mul (F.args_tuple_mul_2 _ _) (tup_times0 l its.toArray n dd sl t hi) ⟨ho, ?_⟩
    refine ⟨.ref s.heap.objs.size, _, I.laid (t' := s.toks) (o := .tup []) (fun b ob q => Heap.get?_push_of_some _ q) (Nat.le_refl _) ?_, rfl, q _ (I.hok.fresh (Nat.le_refl _))⟩
    exact ⟨Nat.zero_le _, [], .nil, IsTup.new _ _⟩
theorem oAdd : OpR X (binaryOp .Add) (rOr (rI0 fun i j => V.int (i + j)) (rOr rCat (rCatA X.K))) := op_or op_add (op_or op_cat op_catA)
theorem oMul : OpR X (binaryOp .Mult) (rOr (rI CMul fun i j => V.int (i * j)) (rOr rRep (rOr (rRepT X.K) (rRepS X.K)))) := op_or op_mul (op_or op_rep (op_or op_repT op_repS))
theorem pi_seq {tg e : Expr} {te : TE} (h : PE X e te) : PI X tg e (iOr (iList X.K te) (iTup X.K te)) := pi_or (pi_list h) (pi_tup h)
theorem sl_seq : SlR X (rSOr (rSlL X.K) (rSlA X.K)) := sl_or sl_list sl_tupA
/-- f(k = v, ..) -/
def tCallK0 (sp : Sp) (gV : List V → List V → List V) (E : XK) (tk : TA) : TE := fun σ H Q => tk σ H fun zs H2 => sp (gV [] zs) H2 Q E
theorem pe_callK0 {CX : CXT} {k : Nat} {f : Addr} {fd : FuncData} {ps ks : List Str} {sp : Sp} {E : XK} {x : Str} {p pos : Pos} {kws : List Keyword} {tk : TA} {g : List Value → List Value → List Value} {gV : List V → List V → List V}
    (Fn : FnOk X.prog X.w X.K X.mg X.base CX k f fd ps sp) (hr : Room k X.A) (hg : Gl X x) (hm : X.mg x = some (.ref f)) (hk : PySem.W.keepIn X.K (.ref f) = true) (hb : KBinds X.K fd ps ks g gV) (hx : Passes CX X E) (hkw : PK X kws tk)
    (hall : ((backToKw pos (keywordEach kws X.env)).all fun z => z.1.isSome) = true := by rfl) (hks : ((backToKw pos (keywordEach kws X.env)).filterMap fun z => z.1) = ks := by rfl)
    (hdb : (x == ("__debug__" : Str)) = false := by decide) (hpl : (((backTo pos (starEach [] X.env)).any fun z => z.1) || (backToKw pos (keywordEach kws X.env)).any fun z => z.1.isNone) = false := by rfl) :
    PE X (.Call (.Name x p) [] kws pos) (tCallK0 sp gV E tk) := by
  refine ⟨fun pins s σ H Q I h => ?_⟩
  refine wpAny_Call_Name_kw (ld_glob I hg hm ?_ hdb)
  refine PySem.W.callWith_KW0 (h₀ := X.base) I.ok.mod.kin hk hall ?_ hpl
  refine thn (hkw.run pos pins s σ H _ I h) fun ws s2 ⟨zs, H2, I2, rz, q2⟩ => ⟨I2.kIn, ?_⟩
  rw [hks]
  exact run_fnk Fn hr hb hx I2 .nil rz q2
end
section
variable {K : PySem.W.Frag} {F H F' H' F1 H1 F2 H2 : Hp} {M : List Addr} {σ : L2.St} {te ta tb tc tl : TE} {tt tu : TT} {d x y z : PyData} {r r' : R2} {D : Ends} {tw tz : TS}
theorem rv_l {r1 r2 : R2} (h : RV K r1 x y z) : RV K (rOr r1 r2) x y z := fun F H v w e rv rw Q q => .inl (h F H v w e rv rw Q q)
theorem rv_r {r1 r2 : R2} (h : RV K r2 x y z) : RV K (rOr r1 r2) x y z := fun F H v w e rv rw Q q => .inr (h F H v w e rv rw Q q)
theorem rv_addI {i j : Int} : RV K (rOr (rI0 fun i j => V.int (i + j)) (rOr rCat (rCatA K))) (.int i) (.int j) (.int (i + j)) := rv_l rv_I0i
theorem rv_addL {ds es : List PyData} (hl : ds.length + es.length ≤ 1000000) : RV K (rOr (rI0 fun i j => V.int (i + j)) (rOr rCat (rCatA K))) (.list ds) (.list es) (.list (ds ++ es)) := rv_r (rv_l (rv_cat hl))
theorem rv_addT {ds es : List PyData} (hl : ds.length + es.length ≤ 1000000) : RV K (rOr (rI0 fun i j => V.int (i + j)) (rOr rCat (rCatA K))) (.tuple ds) (.tuple es) (.tuple (ds ++ es)) := rv_r (rv_r (rv_catA hl))
theorem rv_mulI {i j : Int} (h : CMul i j) : RV K (rOr (rI CMul fun i j => V.int (i * j)) (rOr rRep (rOr (rRepT K) (rRepS K)))) (.int i) (.int j) (.int (i * j)) := rv_l (rv_Ii h)
theorem rv_mulL {ds : List PyData} {k : Int} (hk : -(2 ^ 63) ≤ k ∧ k < 2 ^ 63) (hl : ds.length * k.toNat ≤ 1000000) : RV K (rOr (rI CMul fun i j => V.int (i * j)) (rOr rRep (rOr (rRepT K) (rRepS K)))) (.list ds) (.int k) (.list (List.replicate k.toNat ds).flatten) := rv_r (rv_l (rv_rep hk hl))
theorem rv_mulT {ds : List PyData} {k : Nat} (hne : ds ≠ []) (hk : k ≤ 1000) (hl : ds.length ≤ 1000) : RV K (rOr (rI CMul fun i j => V.int (i * j)) (rOr rRep (rOr (rRepT K) (rRepS K)))) (.tuple ds) (.int (k : Int)) (.tuple (List.replicate k ds).flatten) := fun F H v w e rv rw Q q => by
  cases rw.int_of
  obtain ⟨a, xs, rfl, h, rs⟩ := rv.tup_of
  have hx : xs ≠ [] := fun z => hne (List.eq_nil_of_length_eq_zero (by rw [← rs.length, z]; rfl))
  by_cases h2 : 2 ≤ k
  · refine .inr (.inr (.inl ⟨a, _, xs, rfl, rfl, same_t e h, hx, by omega, by omega, by rw [rs.length]; exact hl, fun p hp => ?_⟩))
    rw [Int.toNat_natCast]
    exact q _ _ _ (Sx.new e _ hp) (.tup (.inl (.inl upd_same)) ((rs.rep k).mono (fix_same (none_of_same e hp))))
  · refine .inr (.inr (.inr ⟨a, _, xs, rfl, rfl, same_t e h, hx, ?_⟩))
    by_cases h1 : k = 1
    · subst h1
      refine .inl ⟨rfl, ?_⟩
      have e1 : (List.replicate 1 ds).flatten = ds := by simp
      rw [e1] at q
      exact q F H _ (Sx.refl e) (.tup h rs)
    · have h0 : k = 0 := by omega
      subst h0
      exact .inr ⟨rfl, fun p hp => q _ _ _ (Sx.new e _ hp) (.tup (.inl (.inl upd_same)) .nil)⟩
theorem ev_slLs {tl th : TO} {ds : List PyData} {lo hi : Option Int} (h : EvD K M te σ F H (.list ds)) (h1 : EvO K M tl σ F H lo) (h2 : EvO K M th σ F H hi) : EvD K M (tSl (rSOr (rSlL K) (rSlA K)) te tl th) σ F H (.list (cut ds lo hi)) := fun F1 H1 s Q q =>
  h F1 H1 s _ fun F2 H2 v s2 rv => h1 F2 H2 (s.trans s2.up) _ fun F3 H3 s3 => h2 F3 H3 ((s.trans s2.up).trans s3.up) _ fun F4 H4 s4 => by
    have s5 := (s2.trans s3).trans s4
    obtain ⟨a, xs, rfl, h', r⟩ := ((rv.mono s3.ff).mono s4.ff).lst_of
    exact .inl ⟨a, xs, rfl, .inl (.inl (s4.fh _ _ h')), fun p hp => q _ _ _ (s5.trans (Sx.new s4.fh _ hp)) (.lst upd_same ((r.cut lo hi).mono (fix_same (none_of_same s4.fh hp))))⟩
theorem ev_slTs {tl th : TO} {ds : List PyData} {lo hi : Option Int} (h : EvD K M te σ F H (.tuple ds)) (h1 : EvO K M tl σ F H lo) (h2 : EvO K M th σ F H hi) : EvD K M (tSl (rSOr (rSlL K) (rSlA K)) te tl th) σ F H (.tuple (cut ds lo hi)) := fun F1 H1 s Q q =>
  h F1 H1 s _ fun F2 H2 v s2 rv => h1 F2 H2 (s.trans s2.up) _ fun F3 H3 s3 => h2 F3 H3 ((s.trans s2.up).trans s3.up) _ fun F4 H4 s4 => by
    have s5 := (s2.trans s3).trans s4
    have rv5 := (rv.mono s3.ff).mono s4.ff
    obtain ⟨a, xs, rfl, h', r⟩ := rv5.tup_of
    refine .inr ⟨a, xs, rfl, same_t s4.fh h', fun z => ?_, fun _ p hp => q _ _ _ (s5.trans (Sx.new s4.fh _ hp)) (.tup (.inl (.inl upd_same)) ((r.cut lo hi).mono (fix_same (none_of_same s4.fh hp))))⟩
    have e : cut ds lo hi = ds := by
      unfold cut
      rw [← r.length, z.1, z.2, List.drop_zero, Nat.sub_zero, List.take_of_length_le (by rw [r.length]; exact Nat.le_refl _)]
    rw [e] at q
    exact q F4 H4 _ s5 (.tup h' r)
theorem en_or1 {w1 w2 : TI} {g : TG} {vs : List Nat} {ds : List PyData} (h : EvN K M (tLc w1 g tt te vs) σ F H ds) : EvN K M (tLc (iOr w1 w2) g tt te vs) σ F H ds := fun F1 H1 s Q q => .inl (h F1 H1 s Q q)
theorem en_or2 {w1 w2 : TI} {g : TG} {vs : List Nat} {ds : List PyData} (h : EvN K M (tLc w2 g tt te vs) σ F H ds) : EvN K M (tLc (iOr w1 w2) g tt te vs) σ F H ds := fun F1 H1 s Q q => .inr (h F1 H1 s Q q)
theorem ev_callK0 {ι : Type} {din : ι → List PyData} {dout : ι → PyData} {pre : ι → Prop} {E : XK} {ta : TA} {gV : List V → List V → List V} {ds : List PyData} (i : ι) (h : EvA K M ta σ F H ds) (hg : ∀ F vs, RpAll K F vs ds → RpAll K F (gV [] vs) (din i)) (hp : pre i) : EvD K M (tCallK0 (spP K din dout pre) gV E ta) σ F H (dout i) := fun F1 H1 s Q q =>
  h F1 H1 s _ fun F2 H2 vs s2 rs => ⟨i, F2, s2.fh, hg _ _ rs, hp, fun F' H' v s3 rv => q F' H' v (s2.trans s3) rv⟩
end
end Sf

/-! names for the readings that deriv.py prints, and what they give of data -/
namespace Sf
open PySem L2
def rAddU (K : PySem.W.Frag) : R2 := rOr (rI0 fun i j => V.int (i + j)) (rOr rCat (rCatA K))
def rMulU (K : PySem.W.Frag) : R2 := rOr (rI CMul fun i j => V.int (i * j)) (rOr rRep (rOr (rRepT K) (rRepS K)))
def rSubI : R2 := rI0 fun i j => V.int (i - j)
def rModI : R2 := rI (fun x j => 0 < j) fun i j => V.int (i % j)
def rDivI : R2 := rI CDiv fun i j => V.int (i / j)
def rPowI : R2 := rI CPow fun i j => V.int (i ^ j.toNat)
def rLtI : R2 := rI0 fun i j => V.bl (decide (i < j))
def rLeI : R2 := rI0 fun i j => V.bl (decide (i ≤ j))
def rGtI : R2 := rI0 fun i j => V.bl (decide (i > j))
def rGeI : R2 := rI0 fun i j => V.bl (decide (i ≥ j))
def rIsN : R2 := fun x y H Q => y = V.non ∧ Q (.bl (decide (x = V.non))) H
def rNotN : R2 := fun x y H Q => y = V.non ∧ Q (.bl (!decide (x = V.non))) H
def rNegI : V → Hp → VK → Prop := rU fun i => .int (-i)
def rLen (K : PySem.W.Frag) : List V → Hp → VK → Prop := fun xs H Q => ∃ x n, xs = [x] ∧ LenV K x H n ∧ Q (V.int (n : Int)) H
def rMax2 : List V → Hp → VK → Prop := fun xs H Q => ∃ i j, xs = [V.int i, V.int j] ∧ Q (V.int (if j > i then j else i)) H
def rInt1 : List V → Hp → VK → Prop := fun xs H Q => (∃ i, xs = [V.int i] ∧ Q (V.int i) H) ∨ ∃ k, xs = [V.bl k] ∧ Q (V.int (if k = true then 1 else 0)) H
def rListOf (K : PySem.W.Frag) : List V → Hp → VK → Prop := fun xs H Q => ∃ p ys, xs = [V.ref p] ∧ (SqL K H p ys ∨ SqT K H p ys) ∧ ∀ (l : Addr), H l = none → Q (V.ref l) (upd H l (HO.lst ys))
def rTupleOf (K : PySem.W.Frag) : List V → Hp → VK → Prop := fun xs H Q => ∃ p ys, xs = [V.ref p] ∧ ((SqL K H p ys ∧ ∀ (l : Addr), H l = none → Q (V.ref l) (upd H l (HO.tup ys))) ∨ SqT K H p ys ∧ Q (V.ref p) H)
def tTru (K : PySem.W.Frag) (te : TE) : TT := fun σ H Q => te σ H fun x H' => ∃ k, TruV K x H' k ∧ Q k H'
def tIs (K : PySem.W.Frag) (te : TE) (n : String) : TE := tCB (rIsi K) (tCons te (tCons (tC (.ty n)) tNil))
def tIsT (K : PySem.W.Frag) (te : TE) (ns : List String) : TE := tCB (rIsiT K) (tCons te (tCons (tTup (tysA ns)) tNil))
def iSeq (K : PySem.W.Frag) (te : TE) : TI := iOr (iList K te) (iTup K te)
def rSlU (K : PySem.W.Frag) := rSOr (rSlL K) (rSlA K)
section
variable {K : PySem.W.Frag} {F H F' H' F1 H1 F2 H2 : Hp} {M : List Addr} {σ : L2.St} {te ta tb tc tl : TE} {tt tu : TT} {d x y z : PyData} {r r' : R2} {D : Ends} {tw tz : TS}
theorem xAddI {i j : Int} : RV K (rAddU K) (.int i) (.int j) (.int (i + j)) := rv_addI
theorem xAddL {ds es : List PyData} (hl : ds.length + es.length ≤ 1000000) : RV K (rAddU K) (.list ds) (.list es) (.list (ds ++ es)) := rv_addL hl
theorem xAddT {ds es : List PyData} (hl : ds.length + es.length ≤ 1000000) : RV K (rAddU K) (.tuple ds) (.tuple es) (.tuple (ds ++ es)) := rv_addT hl
theorem xMulI {i j : Int} (h : CMul i j) : RV K (rMulU K) (.int i) (.int j) (.int (i * j)) := rv_mulI h
theorem xMulL {ds : List PyData} {k : Int} (hk : -(2 ^ 63) ≤ k ∧ k < 2 ^ 63) (hl : ds.length * k.toNat ≤ 1000000) : RV K (rMulU K) (.list ds) (.int k) (.list (List.replicate k.toNat ds).flatten) := rv_mulL hk hl
theorem xMulT {ds : List PyData} {k : Nat} (hne : ds ≠ []) (hk : k ≤ 1000) (hl : ds.length ≤ 1000) : RV K (rMulU K) (.tuple ds) (.int (k : Int)) (.tuple (List.replicate k ds).flatten) := rv_mulT hne hk hl
theorem xSub {i j : Int} : RV K rSubI (.int i) (.int j) (.int (i - j)) := rv_I0i
theorem xMod {i j : Int} (h : 0 < j) : RV K rModI (.int i) (.int j) (.int (i % j)) := rv_Ii h
theorem xDiv {i j : Int} (h : 0 < j ∧ j < 1073741824) : RV K rDivI (.int i) (.int j) (.int (i / j)) := rv_Ii h
theorem xPow {i j : Int} (h : 0 ≤ j ∧ j ≤ 1000000 ∧ i.natAbs < 2 ^ 64) : RV K rPowI (.int i) (.int j) (.int (i ^ j.toNat)) := rv_Ii h
theorem xLt {i j : Int} : RV K rLtI (.int i) (.int j) (.bool (decide (i < j))) := rv_I0b
theorem xLe {i j : Int} : RV K rLeI (.int i) (.int j) (.bool (decide (i ≤ j))) := rv_I0b
theorem xGt {i j : Int} : RV K rGtI (.int i) (.int j) (.bool (decide (i > j))) := rv_I0b
theorem xGe {i j : Int} : RV K rGeI (.int i) (.int j) (.bool (decide (i ≥ j))) := rv_I0b
theorem xIsN : RV K rIsN x .none (.bool (isNon x)) := rv_isN
theorem xNotN : RV K rNotN x .none (.bool (!isNon x)) := rv_notN
theorem xNeg {i : Int} : RU K rNegI (.int i) (.int (-i)) := rv_neg
theorem xLenL {ds : List PyData} : RC K (rLen K) [.list ds] (.int (ds.length : Int)) := rc_lenL
theorem xLenT {ds : List PyData} : RC K (rLen K) [.tuple ds] (.int (ds.length : Int)) := rc_lenT
theorem xLenS {w : Str} (hl : w.length ≤ 1000000) : RC K (rLen K) [.str w] (.int (w.length : Int)) := rc_lenS hl
theorem xMax2 {i j : Int} : RC K rMax2 [.int i, .int j] (.int (max i j)) := rc_max2
theorem xInt {i : Int} : RC K rInt1 [.int i] (.int i) := rc_int
theorem xListL {ds : List PyData} : RC K (rListOf K) [.list ds] (.list ds) := rc_listL
theorem xListT {ds : List PyData} : RC K (rListOf K) [.tuple ds] (.list ds) := rc_listT
theorem xTupL {ds : List PyData} : RC K (rTupleOf K) [.list ds] (.tuple ds) := rc_tupL
theorem xTupT {ds : List PyData} : RC K (rTupleOf K) [.tuple ds] (.tuple ds) := rc_tupT
theorem xTru {b : Bool} (h : EvD K M te σ F H d) (hd : truthD d = some b) : EvT K M (tTru K te) σ F H b := et_tru h hd
theorem xIs {n : String} {b : Bool} (t : String) (h : EvD K M te σ F H d) (ht : typeD d = t) (hk : kitB t n = some b) : EvD K M (tIs K te n) σ F H (.bool b) := ev_isi h (by rw [ht]; exact hk)
theorem xIsT {ns : List String} (f : String → Bool) {b : Bool} (h : EvD K M te σ F H d) (hk : ∀ n ∈ ns, kitB (typeD d) n = some (f n)) (hb : ns.any f = b) (hl : ns.length ≤ 1000) : EvD K M (tIsT K te ns) σ F H (.bool b) := ev_isiT ns f h hk hb hl
theorem xSlL {tl th : TO} {ds : List PyData} {lo hi : Option Int} (h : EvD K M te σ F H (.list ds)) (h1 : EvO K M tl σ F H lo) (h2 : EvO K M th σ F H hi) : EvD K M (tSl (rSlU K) te tl th) σ F H (.list (cut ds lo hi)) := ev_slLs h h1 h2
theorem xSlT {tl th : TO} {ds : List PyData} {lo hi : Option Int} (h : EvD K M te σ F H (.tuple ds)) (h1 : EvO K M tl σ F H lo) (h2 : EvO K M th σ F H hi) : EvD K M (tSl (rSlU K) te tl th) σ F H (.tuple (cut ds lo hi)) := ev_slTs h h1 h2
theorem xLcL {g : TG} {vs : List Nat} {ds : List PyData} (h : EvN K M (tLc (iList K tl) g tt te vs) σ F H ds) : EvN K M (tLc (iSeq K tl) g tt te vs) σ F H ds := en_or1 h
theorem xLcT {g : TG} {vs : List Nat} {ds : List PyData} (h : EvN K M (tLc (iTup K tl) g tt te vs) σ F H ds) : EvN K M (tLc (iSeq K tl) g tt te vs) σ F H ds := en_or2 h
theorem xForL {g : TG} (h : tFor (iList K tl) g tw D σ H) : tFor (iSeq K tl) g tw D σ H := .inl h
theorem xForT {g : TG} (h : tFor (iTup K tl) g tw D σ H) : tFor (iSeq K tl) g tw D σ H := .inr h
/-- isinstance by a table of answers -/
def kitA (t n : String) : Bool := (kitB t n).getD false
def kitOk (t n : String) : Bool := (kitB t n).isSome
theorem kit_all {t : String} {ns : List String} (h : ns.all (kitOk t) = true) : ∀ n ∈ ns, kitB t n = some (kitA t n) := fun n hn => by
  have := List.all_eq_true.mp h n hn
  unfold kitOk at this
  unfold kitA
  cases e : kitB t n with
  | none => rw [e] at this; cases this
  | some b => rfl
theorem xIsT' {ns : List String} {b : Bool} (t : String) (h : EvD K M te σ F H d) (ht : typeD d = t) (hk : ns.all (kitOk t) = true) (hb : ns.any (kitA t) = b) (hl : ns.length ≤ 1000) : EvD K M (tIsT K te ns) σ F H (.bool b) := xIsT _ h (by rw [ht]; exact kit_all hk) hb hl
/-! statements with something behind -/
theorem q_asg {g : TG} {P : L2.St → Hp → L2.St → Prop} (hg : TgD K g d P) (e : Same F H) (h : EvD K M te σ F H d) (k : ∀ F1 H1 σ', Sx M F H F1 H1 → P σ F1 σ' → tw D σ' H1) : tSeq (tAsg te g) tw D σ H := st_asg (D := { D with nx := tw D }) hg e h k
theorem q_set {i : Nat} (e : Same F H) (h : EvD K M te σ F H d) (k : ∀ F1 H1 v, Sx M F H F1 H1 → Rp K F1 v d → tw D (σ.set i (some v)) H1) : tSeq (tAsg te (gName i)) tw D σ H := st_set (D := { D with nx := tw D }) e h k
theorem q_setN {i : Nat} {ds : List PyData} (e : Same F H) (h : EvN K M te σ F H ds) (k : ∀ F1 H1 p vs, Sx M F H F1 H1 → H p = none → F1 p = none → H1 p = some (.lst vs) → RpAll K F1 vs ds → tw D (σ.set i (some (.ref p))) H1) : tSeq (tAsg te (gName i)) tw D σ H := st_setN (D := { D with nx := tw D }) e h k
theorem q_par {i j : Nat} {ta : TA} {d e : PyData} (s0 : Same F H) (h : EvA K M ta σ F H [d, e]) (k : ∀ F1 H1 v w, Sx M F H F1 H1 → Rp K F1 v d → Rp K F1 w e → tw D ((σ.set i (some v)).set j (some w)) H1) : tSeq (tPar i j ta) tw D σ H := st_par (D := { D with nx := tw D }) s0 h k
theorem q_if {b : Bool} {tv : TS} (e : Same F H) (h : EvT K M tt σ F H b) (h1 : b = true → ∀ F1 H1, Sx M F H F1 H1 → tw { D with nx := tv D } σ H1) (h2 : b = false → ∀ F1 H1, Sx M F H F1 H1 → tz { D with nx := tv D } σ H1) : tSeq (tIfS tt tw tz) tv D σ H := st_if (D := { D with nx := tv D }) e h h1 h2
/-- if without else -/
theorem q_when {b : Bool} {tv : TS} (e : Same F H) (h : EvT K M tt σ F H b) (h1 : b = true → ∀ F1 H1, Sx M F H F1 H1 → tw { D with nx := tv D } σ H1) (h2 : b = false → ∀ F1 H1, Sx M F H F1 H1 → tv D σ H1) : tSeq (tIfS tt tw tNext) tv D σ H := st_if (D := { D with nx := tv D }) (tz := tNext) e h h1 h2
theorem q_drop (e : Same F H) (h : EvD K M te σ F H d) (k : ∀ F1 H1, Sx M F H F1 H1 → tw D σ H1) : tSeq (tDrop te) tw D σ H := st_drop (D := { D with nx := tw D }) e h k
theorem q_aug {i : Nat} {f : Int → Int → Int} {a b : Int} (e : Same F H) (hx : σ[i]? = some (some (.int a))) (h : EvD K M te σ F H (.int b)) (k : ∀ F1 H1, Sx M F H F1 H1 → tw D (σ.set i (some (.int (f a b)))) H1) : tSeq (tAug i te (ipI f)) tw D σ H := st_aug (D := { D with nx := tw D }) e hx h k
theorem q_while {tv : TS} (I : Nat → L2.St → Hp → Hp → Prop) (e : Same F H) (m0 : Nat) (h0 : I m0 σ F H)
    (hs : ∀ m σ' F' H', Sx M F H F' H' → I m σ' F' H' → ∃ b M', EvT K M' tt σ' F' H' b ∧
      (b = true → ∀ F1 H1, Sx M' F' H' F1 H1 → tw { D with nx := fun σ2 H2 => ∃ m', m' < m ∧ ∃ F2, Sx M F H F2 H2 ∧ I m' σ2 F2 H2, ct := fun σ2 H2 => ∃ m', m' < m ∧ ∃ F2, Sx M F H F2 H2 ∧ I m' σ2 F2 H2, bk := tv D } σ' H1) ∧
      (b = false → ∀ F1 H1, Sx M' F' H' F1 H1 → tv D σ' H1)) : tSeq (tWhile tt tw) tv D σ H := st_while (D := { D with nx := tv D }) I e m0 h0 hs
theorem q_forR1 {tv : TS} {ta : TA} {j n : Nat} {m : Int} (I : Nat → L2.St → Hp → Hp → Prop) (e : Same F H) (h : EvA K M ta σ F H [.int m]) (hm : m = (n : Int)) (hz : n ≤ 1000000) (h0 : ∀ F1 H1, Sx M F H F1 H1 → I 0 σ F1 H1)
    (hs : ∀ i σ' F' H', i < n → Sx M F H F' H' → I i σ' F' H' → tw { D with nx := fun σ2 H2 => ∃ F2, Sx M F H F2 H2 ∧ I (i + 1) σ2 F2 H2, ct := fun σ2 H2 => ∃ F2, Sx M F H F2 H2 ∧ I (i + 1) σ2 F2 H2, bk := tv D } (σ'.set j (some (.int (i : Int)))) H')
    (hd : ∀ σ' F' H', Sx M F H F' H' → I n σ' F' H' → tv D σ' H') : tSeq (tFor (iRng1 ta) (gName j) tw) tv D σ H := st_forR1 (D := { D with nx := tv D }) I e h hm hz h0 hs hd
theorem q_forL {tv : TS} {α : Type} (xs : List α) (ed : α → PyData) (P : α → L2.St → Hp → L2.St → Prop) {g : TG} (e : Same F H) (h : EvD K M tl σ F H (.list (xs.map ed))) (hP : ∀ a ∈ xs, TgD K g (ed a) (P a))
    (k : ∀ F1 H1, Sx M F H F1 H1 → ∃ I : Nat → L2.St → Hp → Hp → Prop, I 0 σ F1 H1 ∧
    (∀ i a σ' F' H' σ'', xs[i]? = some a → Sx M F1 H1 F' H' → I i σ' F' H' → P a σ' F' σ'' → tw { D with nx := fun σ2 H2 => ∃ F2, Sx M F1 H1 F2 H2 ∧ I (i + 1) σ2 F2 H2, ct := fun σ2 H2 => ∃ F2, Sx M F1 H1 F2 H2 ∧ I (i + 1) σ2 F2 H2, bk := tv D } σ'' H') ∧
    (∀ σ' F' H', Sx M F1 H1 F' H' → I xs.length σ' F' H' → tv D σ' H')) : tSeq (tFor (iList K tl) g tw) tv D σ H := st_forL (D := { D with nx := tv D }) xs ed P e h hP k
theorem q_forT {tv : TS} {α : Type} (xs : List α) (ed : α → PyData) (P : α → L2.St → Hp → L2.St → Prop) {g : TG} (e : Same F H) (h : EvD K M tl σ F H (.tuple (xs.map ed))) (hP : ∀ a ∈ xs, TgD K g (ed a) (P a))
    (k : ∀ F1 H1, Sx M F H F1 H1 → ∃ I : Nat → L2.St → Hp → Hp → Prop, I 0 σ F1 H1 ∧
    (∀ i a σ' F' H' σ'', xs[i]? = some a → Sx M F1 H1 F' H' → I i σ' F' H' → P a σ' F' σ'' → tw { D with nx := fun σ2 H2 => ∃ F2, Sx M F1 H1 F2 H2 ∧ I (i + 1) σ2 F2 H2, ct := fun σ2 H2 => ∃ F2, Sx M F1 H1 F2 H2 ∧ I (i + 1) σ2 F2 H2, bk := tv D } σ'' H') ∧
    (∀ σ' F' H', Sx M F1 H1 F' H' → I xs.length σ' F' H' → tv D σ' H')) : tSeq (tFor (iTup K tl) g tw) tv D σ H := st_forT (D := { D with nx := tv D }) xs ed P e h hP k
theorem xForL' {tv : TS} {g : TG} (h : tSeq (tFor (iList K tl) g tw) tv D σ H) : tSeq (tFor (iSeq K tl) g tw) tv D σ H := .inl h
theorem xForT' {tv : TS} {g : TG} (h : tSeq (tFor (iTup K tl) g tw) tv D σ H) : tSeq (tFor (iSeq K tl) g tw) tv D σ H := .inr h
/-- a way that leaves nothing behind is the way on -/
theorem st_next (h : D.nx σ H) : tNext D σ H := h
/-! equality of plain data -/
theorem eqv_bools : ∀ {xs ys : List Bool}, PyData.eqvAll (xs.map .bool) (ys.map .bool) = decide (xs = ys)
  | [], [] => by simp [PyData.eqvAll]
  | [], _ :: _ => by simp [PyData.eqvAll]
  | _ :: _, [] => by simp [PyData.eqvAll]
  | x :: xs, y :: ys => by
    simp only [List.map_cons, PyData.eqvAll, PyData.eqv, eqv_bools (xs := xs) (ys := ys), List.cons.injEq]
    cases x <;> cases y <;> simp
theorem eqv_int {i j : Int} : PyData.eqv (.int i) (.int j) = decide (i = j) := by
  simp only [PyData.eqv]
  by_cases h : i = j <;> simp [h]
theorem eqv_bool {i j : Bool} : PyData.eqv (.bool i) (.bool j) = decide (i = j) := by
  simp only [PyData.eqv]
  cases i <;> cases j <;> rfl
theorem eqv_lnil {ds : List PyData} : PyData.eqv (.list ds) (.list []) = ds.isEmpty := by cases ds <;> simp [PyData.eqv, PyData.eqvAll]
/-- small data: no dict, texts of codes, no deeper than n -/
def Lay (n : Nat) (d : PyData) : Prop := d.canLay0 = true ∧ d.depth ≤ n
theorem layAll {n : Nat} : ∀ {ds : List PyData}, (∀ d ∈ ds, Lay n d) → PyData.canLayAll0 ds = true ∧ PyData.depthAll ds ≤ n
  | [], _ => by simp [PyData.canLayAll0, PyData.depthAll]
  | d :: ds, h => by
    have h1 := h d (by simp)
    have h2 := layAll (ds := ds) fun e he => h e (by simp [he])
    refine ⟨by simp [PyData.canLayAll0, h1.1, h2.1], ?_⟩
    simp only [PyData.depthAll]
    have := h1.2
    have := h2.2
    omega
theorem Lay.list {n : Nat} {ds : List PyData} (h : ∀ d ∈ ds, Lay n d) : Lay (n + 1) (.list ds) := by
  obtain ⟨h1, h2⟩ := layAll h
  exact ⟨by simp only [PyData.canLay0]; exact h1, by simp only [PyData.depth]; omega⟩
theorem Lay.tuple {n : Nat} {ds : List PyData} (h : ∀ d ∈ ds, Lay n d) : Lay (n + 1) (.tuple ds) := by
  obtain ⟨h1, h2⟩ := layAll h
  exact ⟨by simp only [PyData.canLay0]; exact h1, by simp only [PyData.depth]; omega⟩
theorem Lay.int {n : Nat} {i : Int} : Lay n (.int i) := ⟨by simp [PyData.canLay0], by simp [PyData.depth]⟩
theorem Lay.bool {n : Nat} {i : Bool} : Lay n (.bool i) := ⟨by simp [PyData.canLay0], by simp [PyData.depth]⟩
theorem Lay.non {n : Nat} : Lay n .none := ⟨by simp [PyData.canLay0], by simp [PyData.depth]⟩
theorem Lay.shaped {n : Nat} (h : Lay n d) (hn : n ≤ 64) : SeqAt.shaped d = true := by
  unfold SeqAt.shaped
  rw [h.1, decide_eq_true (Nat.le_trans h.2 hn)]
  rfl
theorem Lay.bools {n : Nat} {bs : List Bool} : ∀ d ∈ bs.map PyData.bool, Lay n d := fun d h => by
  obtain ⟨b, _, rfl⟩ := List.mem_map.mp h
  exact .bool
theorem Lay.ints {n : Nat} {bs : List Int} : ∀ d ∈ bs.map PyData.int, Lay n d := fun d h => by
  obtain ⟨b, _, rfl⟩ := List.mem_map.mp h
  exact .int
theorem sh_int {i : Int} : SeqAt.shaped (.int i) = true := (Lay.int (n := 0)).shaped (by decide)
theorem sh_bool {i : Bool} : SeqAt.shaped (.bool i) = true := (Lay.bool (n := 0)).shaped (by decide)
theorem sh_non : SeqAt.shaped .none = true := (Lay.non (n := 0)).shaped (by decide)
theorem sh_lB {bs : List Bool} : SeqAt.shaped (.list (bs.map .bool)) = true := (Lay.list (n := 0) Lay.bools).shaped (by decide)
theorem sh_tB {bs : List Bool} : SeqAt.shaped (.tuple (bs.map .bool)) = true := (Lay.tuple (n := 0) Lay.bools).shaped (by decide)
theorem sh_lI {bs : List Int} : SeqAt.shaped (.list (bs.map .int)) = true := (Lay.list (n := 0) Lay.ints).shaped (by decide)
theorem sh_nil : SeqAt.shaped (.list []) = true := (Lay.list (n := 0) (by simp)).shaped (by decide)
theorem xEqI {i j : Int} : RV K (rEqD K) (.int i) (.int j) (.bool (decide (i = j))) := by rw [← eqv_int]; exact rv_eqD sh_int sh_int
theorem xNeI {i j : Int} : RV K (rNeD K) (.int i) (.int j) (.bool (!decide (i = j))) := by rw [← eqv_int]; exact rv_neD sh_int sh_int
theorem xEqB {i j : Bool} : RV K (rEqD K) (.bool i) (.bool j) (.bool (decide (i = j))) := by rw [← eqv_bool]; exact rv_eqD sh_bool sh_bool
theorem xNeB {i j : Bool} : RV K (rNeD K) (.bool i) (.bool j) (.bool (!decide (i = j))) := by rw [← eqv_bool]; exact rv_neD sh_bool sh_bool
theorem xEqLB {xs ys : List Bool} : RV K (rEqD K) (.list (xs.map .bool)) (.list (ys.map .bool)) (.bool (decide (xs = ys))) := by
  have := rv_eqD (K := K) (sh_lB (bs := xs)) (sh_lB (bs := ys))
  rwa [PyData.eqv, eqv_bools] at this
theorem xEqTB {xs ys : List Bool} : RV K (rEqD K) (.tuple (xs.map .bool)) (.tuple (ys.map .bool)) (.bool (decide (xs = ys))) := by
  have := rv_eqD (K := K) (sh_tB (bs := xs)) (sh_tB (bs := ys))
  rwa [PyData.eqv, eqv_bools] at this
theorem xNeTB {xs ys : List Bool} : RV K (rNeD K) (.tuple (xs.map .bool)) (.tuple (ys.map .bool)) (.bool (!decide (xs = ys))) := by
  have := rv_neD (K := K) (sh_tB (bs := xs)) (sh_tB (bs := ys))
  rwa [PyData.eqv, eqv_bools] at this
theorem xEqNil {ds : List PyData} (h : SeqAt.shaped (.list ds) = true) : RV K (rEqD K) (.list ds) (.list []) (.bool ds.isEmpty) := by rw [← eqv_lnil]; exact rv_eqD h sh_nil
theorem xNeNil {ds : List PyData} (h : SeqAt.shaped (.list ds) = true) : RV K (rNeD K) (.list ds) (.list []) (.bool (!ds.isEmpty)) := by rw [← eqv_lnil]; exact rv_neD h sh_nil
/-! slices -/
theorem cut_init {α : Type} {xs : List α} : cut xs none (some (-1)) = xs.dropLast := by
  unfold cut
  rw [HT.sIx_none, List.drop_zero, Nat.sub_zero, List.dropLast_eq_take]
  show xs.take (if (-1 : Int) < 0 then (-1 + (xs.length : Int)).toNat else min (-1 : Int).toNat xs.length) = _
  rw [if_pos (by decide)]
  congr 1
  omega
theorem cut_tail1 {α : Type} {xs : List α} {a : α} (h : xs.getLast? = some a) : cut xs (some (-1)) none = [a] := by
  have hne : xs ≠ [] := fun z => by subst z; cases h
  obtain ⟨ys, rfl⟩ : ∃ ys, xs = ys ++ [a] := by
    refine ⟨xs.dropLast, ?_⟩
    rw [List.getLast?_eq_getLast hne] at h
    cases h
    exact (List.dropLast_concat_getLast hne).symm
  unfold cut
  rw [HT.sIx_none]
  show ((ys ++ [a]).drop (if (-1 : Int) < 0 then (-1 + ((ys ++ [a]).length : Int)).toNat else min (-1 : Int).toNat (ys ++ [a]).length)).take ((ys ++ [a]).length - (if (-1 : Int) < 0 then (-1 + ((ys ++ [a]).length : Int)).toNat else min (-1 : Int).toNat (ys ++ [a]).length)) = [a]
  rw [if_pos (by decide), show (-1 + ((ys ++ [a]).length : Int)).toNat = ys.length by (rw [List.length_append, List.length_singleton]; omega), List.drop_left]
  simp
theorem cut_take {α : Type} {xs : List α} {k : Nat} : cut xs none (some (k : Int)) = xs.take k := by
  unfold cut
  rw [HT.sIx_none, HT.sIx_nat, List.drop_zero, Nat.sub_zero, List.take_eq_take_iff]
  omega
theorem cut_drop {α : Type} {xs : List α} {k : Nat} : cut xs (some (k : Int)) none = xs.drop k := by
  unfold cut
  rw [HT.sIx_none, HT.sIx_nat]
  by_cases h : k ≤ xs.length
  · rw [Nat.min_eq_left h, List.take_of_length_le (by rw [List.length_drop]; exact Nat.le_refl _)]
  · rw [Nat.min_eq_right (by omega), List.drop_of_length_le (Nat.le_refl _), List.drop_of_length_le (by omega), List.take_nil]
theorem cut_all {α : Type} {xs : List α} : cut xs none none = xs := by
  unfold cut
  rw [HT.sIx_none, HT.sIx_none, List.drop_zero, Nat.sub_zero, List.take_length]
theorem cut_mid {α : Type} {xs : List α} {i j : Nat} : cut xs (some (i : Int)) (some (j : Int)) = (xs.take j).drop i := by
  unfold cut
  rw [HT.sIx_nat, HT.sIx_nat]
  apply List.ext_getElem?
  intro m
  simp only [List.getElem?_take, List.getElem?_drop]
  by_cases h : m < min j xs.length - min i xs.length
  · rw [if_pos h, if_pos (by omega)]
    congr 1
    omega
  · rw [if_neg h]
    split
    · rw [List.getElem?_eq_none (by omega)]
    · rfl
theorem xTakeT {α : Type} {f : α → PyData} {xs : List α} {th : TO} {k : Nat} (h : EvD K M te σ F H (.tuple (xs.map f))) (h2 : EvO K M th σ F H (some (k : Int))) : EvD K M (tSl (rSlU K) te tNoPart th) σ F H (.tuple ((xs.take k).map f)) := (xSlT h eo_none h2).is (by rw [cut_map, cut_take])
theorem xTakeL {α : Type} {f : α → PyData} {xs : List α} {th : TO} {k : Nat} (h : EvD K M te σ F H (.list (xs.map f))) (h2 : EvO K M th σ F H (some (k : Int))) : EvD K M (tSl (rSlU K) te tNoPart th) σ F H (.list ((xs.take k).map f)) := (xSlL h eo_none h2).is (by rw [cut_map, cut_take])
theorem xDropT {α : Type} {f : α → PyData} {xs : List α} {tl : TO} {k : Nat} (h : EvD K M te σ F H (.tuple (xs.map f))) (h2 : EvO K M tl σ F H (some (k : Int))) : EvD K M (tSl (rSlU K) te tl tNoPart) σ F H (.tuple ((xs.drop k).map f)) := (xSlT h h2 eo_none).is (by rw [cut_map, cut_drop])
theorem xDropL {α : Type} {f : α → PyData} {xs : List α} {tl : TO} {k : Nat} (h : EvD K M te σ F H (.list (xs.map f))) (h2 : EvO K M tl σ F H (some (k : Int))) : EvD K M (tSl (rSlU K) te tl tNoPart) σ F H (.list ((xs.drop k).map f)) := (xSlL h h2 eo_none).is (by rw [cut_map, cut_drop])
theorem xInitT {α : Type} {f : α → PyData} {xs : List α} {th : TO} (h : EvD K M te σ F H (.tuple (xs.map f))) (h2 : EvO K M th σ F H (some (-1))) : EvD K M (tSl (rSlU K) te tNoPart th) σ F H (.tuple (xs.dropLast.map f)) := (xSlT h eo_none h2).is (by rw [cut_map, cut_init])
theorem xInitL {α : Type} {f : α → PyData} {xs : List α} {th : TO} (h : EvD K M te σ F H (.list (xs.map f))) (h2 : EvO K M th σ F H (some (-1))) : EvD K M (tSl (rSlU K) te tNoPart th) σ F H (.list (xs.dropLast.map f)) := (xSlL h eo_none h2).is (by rw [cut_map, cut_init])
theorem xTail1T {α : Type} {f : α → PyData} {xs : List α} {a : α} {tl : TO} (ha : xs.getLast? = some a) (h : EvD K M te σ F H (.tuple (xs.map f))) (h2 : EvO K M tl σ F H (some (-1))) : EvD K M (tSl (rSlU K) te tl tNoPart) σ F H (.tuple ([a].map f)) := (xSlT h h2 eo_none).is (by rw [cut_map, cut_tail1 ha])
theorem xTail1L {α : Type} {f : α → PyData} {xs : List α} {a : α} {tl : TO} (ha : xs.getLast? = some a) (h : EvD K M te σ F H (.list (xs.map f))) (h2 : EvO K M tl σ F H (some (-1))) : EvD K M (tSl (rSlU K) te tl tNoPart) σ F H (.list ([a].map f)) := (xSlL h h2 eo_none).is (by rw [cut_map, cut_tail1 ha])
theorem atI_last1 {α β : Type} {f : α → β} {xs : List α} {a : α} (h : xs.getLast? = some a) : atI (xs.map f) (-1) = some (f a) := by
  have hne : xs ≠ [] := fun z => by subst z; cases h
  obtain ⟨ys, rfl⟩ : ∃ ys, xs = ys ++ [a] := by
    refine ⟨xs.dropLast, ?_⟩
    rw [List.getLast?_eq_getLast hne] at h
    cases h
    exact (List.dropLast_concat_getLast hne).symm
  rw [List.map_append]
  exact atI_last _ _
theorem atI_at {α β : Type} {f : α → β} {xs : List α} {n : Nat} {a : α} (h : xs[n]? = some a) : atI (xs.map f) (n : Int) = some (f a) := atI_nat (by rw [List.getElem?_map, h]; rfl)
theorem xInD {ds : List PyData} (hx : SeqAt.shaped x = true) (hd : SeqAt.shaped (.list ds) = true) : RV K (rInD K) x (.list ds) (.bool (ds.any fun z => PyData.eqv z x)) := fun F H v w e rv rw Q q =>
  ⟨x, ds, (rv.mono e).dp, (rw.mono e).dp, hx, hd, q F H _ (Sx.refl e) (.bl _)⟩
end
end Sf

/-! the law's spring of draws -/
namespace Sf
open PySem L2
/-! evaluation, construct by construct -/
local macro_rules | `(tactic| walk_at "rp") => `(tactic| first | assumption | exact .int _ | exact .bl _ | exact .str _ | exact .non | exact Rp.mono (Sx.ff (by assumption)) (by walk_at "rp"))
local macro_rules | `(tactic| walk_at "sc") => `(tactic| first | rfl | assumption | omega | decide | (simp; done) | (simp; omega))
local macro_rules | `(tactic| walk_at "ix") => `(tactic| first | rfl | assumption)
local macro_rules | `(tactic| walk_at "rv") => `(tactic| first
  | exact xAddI | exact xSub | exact xLt | exact xLe | exact xGt | exact xGe | exact xIsN | exact xNotN | exact xEqI | exact xNeI | exact xEqB | exact xNeB | exact xEqLB | exact xEqTB | exact xNeTB
  | exact xMod (by walk_at "sc")
  | exact xDiv (by walk_at "sc")
  | exact xPow (by walk_at "sc")
  | exact xMulI (by walk_at "sc")
  | exact rv_ixt (by walk_at "ix")
  | exact rv_ixl (by walk_at "ix")
  | exact xAddL (by walk_at "sc")
  | exact xAddT (by walk_at "sc"))
local macro_rules | `(tactic| walk_at "rc") => `(tactic| first | exact xLenL | exact xLenT | exact xListL | exact xListT | exact xTupL | exact xTupT | exact xMax2 | exact xInt | exact rc_all | exact rc_any)
local macro_rules | `(tactic| walk_at "ea") => `(tactic| first | exact ea_nil | refine ea_cons (by walk_at "ev") (by walk_at "ea"))
local macro_rules | `(tactic| walk_at "eo") => `(tactic| first | exact eo_none | refine eo_some (by walk_at "ev"))
local macro_rules | `(tactic| walk_at "et") => `(tactic| first
  | ((with_reducible show EvT _ _ (tTest _) _ _ _ _); exact et_test (by walk_at "ev"))
  | ((with_reducible show EvT _ _ (tNot _) _ _ _ _); exact et_not (by walk_at "et"))
  | ((with_reducible show EvT _ _ (tAnd _ _) _ _ _ _); exact et_and (by walk_at "et") (fun hh => by walk_at "et"))
  | ((with_reducible show EvT _ _ (tOr _ _) _ _ _ _); exact et_or (by walk_at "et") (fun hh => by walk_at "et"))
  | ((with_reducible show EvT _ _ (tTru _ _) _ _ _ _); exact xTru (by walk_at "ev") (by walk_at "sc"))
  | ((with_reducible show EvT _ _ tYes _ _ _ _); exact et_yes))
local macro_rules | `(tactic| walk_at "ev") => `(tactic| first
  | ((with_reducible show EvD _ _ (tC _) _ _ _ _); first | exact ev_int | exact ev_bl | exact ev_str | exact ev_non)
  | ((with_reducible show EvD _ _ (tVar _) _ _ _ _); exact ev_var (by rfl) (by walk_at "rp"))
  | ((with_reducible show EvD _ _ (tOp _ _ _) _ _ _ _); exact ev_op (by walk_at "ev") (by walk_at "ev") (by walk_at "rv"))
  | ((with_reducible show EvD _ _ (tUn _ _) _ _ _ _); exact ev_un (by walk_at "ev") xNeg)
  | ((with_reducible show EvD _ _ (tCB _ _) _ _ _ _); exact ev_cb (by walk_at "ea") (by walk_at "rc"))
  | ((with_reducible show EvD _ _ (tTup _) _ _ _ _); exact ev_tup (by walk_at "ea") (by walk_at "sc"))
  | ((with_reducible show EvD _ _ (tLst _) _ _ _ _); exact ev_lst (by walk_at "ea") (by walk_at "sc"))
  | ((with_reducible show EvD _ _ (tSl _ _ _ _) _ _ _ _); first | exact xSlL (by walk_at "ev") (by walk_at "eo") (by walk_at "eo") | exact xSlT (by walk_at "ev") (by walk_at "eo") (by walk_at "eo"))
  | ((with_reducible show EvD _ _ (tNotT _ _) _ _ _ _); exact ev_notT (by walk_at "ev") (by walk_at "sc"))
  | ((with_reducible show EvD _ _ (tAndT _ _ _) _ _ _ _); exact ev_andB (by walk_at "ev") (fun hh => by walk_at "ev"))
  | ((with_reducible show EvD _ _ (tOrT _ _ _) _ _ _ _); exact ev_orB (by walk_at "ev") (fun hh => by walk_at "ev")))

section
variable {K : PySem.W.Frag} {F H F' H' F1 H1 F2 H2 : Hp} {M : List Addr} {σ : L2.St} {te ta tb tc tl : TE} {tt tu : TT} {d x y z : PyData} {r r' : R2} {D : Ends} {tw tz : TS}
/-- an item of a list of ours that may change -/
theorem ev_ixM {i : Nat} {p : Addr} {vs : List V} {k : Int} {v : V} (h : σ[i]? = some (some (.ref p))) (hp : H p = some (.lst vs)) (hk : atI vs k = some v) (rv : Rp K F v d) : EvD K [] (tOp (rIx K) (tVar i) (tC (.int k))) σ F H d := fun F1 H1 s Q q =>
  ⟨.ref p, h, .inl ⟨p, vs, k, v, rfl, rfl, .inl (.inl (s.hh _ _ (by simp) hp)), hk, q F1 H1 v (Sx.refl s.fh) (rv.mono s.ff)⟩⟩
theorem q_setM {i : Nat} {p : Addr} {vs : List V} {k : Int} {j : Nat} (e : Same F H) (h : EvD K [] te σ F H d) (hv : σ[i]? = some (some (.ref p))) (hp : H p = some (.lst vs)) (hk : ixN vs.length k = some j)
    (kk : ∀ F1 H1 v, Sx [] F H F1 H1 → H1 p = some (.lst vs) → Rp K F1 v d → tw D σ (upd H1 p (.lst (vs.set j v)))) : tSeq (tAsg te (gSub (tVar i) (tC (.int k)) rSetL)) tw D σ H :=
  h F H (Sx.refl e) _ fun F1 H1 v s rv => ⟨.ref p, hv, p, vs, k, j, rfl, rfl, s.hh _ _ (by simp) hp, hk, kk F1 H1 v s (s.hh _ _ (by simp) hp) rv⟩
theorem st_setM {i : Nat} {p : Addr} {vs : List V} {k : Int} {j : Nat} (e : Same F H) (h : EvD K [] te σ F H d) (hv : σ[i]? = some (some (.ref p))) (hp : H p = some (.lst vs)) (hk : ixN vs.length k = some j)
    (kk : ∀ F1 H1 v, Sx [] F H F1 H1 → H1 p = some (.lst vs) → Rp K F1 v d → D.nx σ (upd H1 p (.lst (vs.set j v)))) : tAsg te (gSub (tVar i) (tC (.int k)) rSetL) D σ H :=
  h F H (Sx.refl e) _ fun F1 H1 v s rv => ⟨.ref p, hv, p, vs, k, j, rfl, rfl, s.hh _ _ (by simp) hp, hk, kk F1 H1 v s (s.hh _ _ (by simp) hp) rv⟩
theorem DpAll.ints' {ns : List Int} : DpAll K H (ns.map .int) (ns.map .int) := by
  induction ns with
  | nil => exact .nil
  | cons n ns ih => exact .cons (.int n) ih
/-- the spring: the cells left, what is left of a great one, how many were drawn, what mixes -/
def Stm (F H : Hp) (p q : Addr) (n : Nat) : Prop := ∃ (cs : List Int) (a b c : Int), H p = some (.lst [.ref q, .int a, .int b, .int c]) ∧ H q = some (.lst (cs.map .int)) ∧ F p = none ∧ F q = none ∧ p ≠ q ∧ 0 ≤ a ∧ 0 ≤ b ∧ b ≤ n ∧ 0 ≤ c ∧ c < 2147483647
theorem Stm.le {p q : Addr} {n m : Nat} (h : Stm F H p q n) (hm : n ≤ m) : Stm F H p q m := by
  obtain ⟨cs, a, b, c, h1, h2, h3, h4, h5, h6, h7, h8, h9⟩ := h
  exact ⟨cs, a, b, c, h1, h2, h3, h4, h5, h6, h7, by omega, h9⟩
theorem Stm.pure {p q : Addr} {n : Nat} (h : Stm F H p q n) (s : Sx [] F H F1 H1) : Stm F1 H1 p q n := by
  obtain ⟨cs, a, b, c, h1, h2, h3, h4, h5⟩ := h
  exact ⟨cs, a, b, c, s.hh _ _ (by simp) h1, s.hh _ _ (by simp) h2, s.sep _ h3 (by rw [h1]; simp), s.sep _ h4 (by rw [h2]; simp), h5⟩
/-! ### _law_start -/
def sp_law_start (K : PySem.W.Frag) : Sp := fun vs H Q _ => ∃ (a : Addr) (ns : List Int) (F : Hp), vs = [.ref a] ∧ Same F H ∧ SqL K H a (ns.map .int) ∧ ∀ H' p q, Sx [] F H F H' → H p = none → H q = none → Stm F H' p q 0 → Q (.ref p) H'
theorem len_law_start {vs : List V} {Q : VK} {E : XK} (h : sp_law_start K vs H Q E) : vs.length = ["script"].length := by
  obtain ⟨a, ns, F, rfl, _⟩ := h
  rfl
abbrev N_law_start : List Str := ["script"]
def t_law_start (K : PySem.W.Frag) : TS :=
  (tRet (tLst (tCons (tCB (rListOf K) (tCons (tVar 0) tNil)) (tCons (tC (.int 0)) (tCons (tC (.int 0)) (tCons (tC (.int 71)) tNil))))))
theorem rd_law_start {vs : List V} {Q : VK} {E : XK} (h : sp_law_start K vs H Q E) : t_law_start K { nx := fun _ H' => Q .non H', rt := Q } (L2.start N_law_start vs) H := by
  obtain ⟨a, ns, F, rfl, e, hs, q⟩ := h
  refine ⟨.ref a, rfl, a, _, rfl, .inl hs, fun l hl => ⟨Nat.le_of_lt (small1000 (by simp)), fun p hp => ?_⟩⟩
  have nlp : l ≠ p := fun z => by subst z; rw [upd_same] at hp; cases hp
  have hp0 : H p = none := by rw [upd_ne nlp.symm] at hp; exact hp
  refine q _ p l ((Sx.newM e _ hl).trans (Sx.newM (Sx.newM (M := []) e _ hl).fh _ hp)) hp0 hl ⟨ns, 0, 0, 71, upd_same, ?_, none_of_same e hp0, none_of_same e hl, nlp.symm, by decide, by decide, by decide, by decide, by decide⟩
  rw [upd_ne nlp, upd_same]
/-! ### _law_below -/
def sp_law_below (K : PySem.W.Frag) : Sp := fun vs H Q _ => ∃ (p q : Addr) (n m : Nat) (F : Hp), vs = [.ref p, .int (m : Int)] ∧ Same F H ∧ Stm F H p q n ∧ 1 ≤ m ∧ m < 1073741824 ∧ n ≤ 1000000000 ∧
  ∀ F' H' (r : Nat), Sx [p, q] F H F' H' → Stm F' H' p q (n + 1) → r < m → Q (.int (r : Int)) H'
theorem len_law_below {vs : List V} {Q : VK} {E : XK} (h : sp_law_below K vs H Q E) : vs.length = ["stream", "many"].length := by
  obtain ⟨p, q, n, m, F, rfl, _⟩ := h
  rfl
/-- stream[0] != [] -/
theorem et_some {i : Nat} {p q : Addr} {vs : List V} {cs : List Int} (h : σ[i]? = some (some (.ref p))) (hp : H p = some (.lst (.ref q :: vs))) (hq : H q = some (.lst (cs.map .int))) :
    EvT K [] (tTest (tOp (rNeD K) (tOp (rIx K) (tVar i) (tC (.int 0))) (tLst tNil))) σ F H (!cs.isEmpty) := fun F1 H1 s Q k =>
  ⟨.ref p, h, .inl ⟨p, _, 0, .ref q, rfl, rfl, .inl (.inl (s.hh _ _ (by simp) hp)), atI_nat (j := 0) rfl, Nat.zero_le _, fun l hl => by
    have hq1 := s.hh _ _ (by simp) hq
    have s2 := Sx.newM (M := []) s.fh (.lst []) hl
    refine ⟨.list (cs.map .int), .list [], .lst (.inl (.inl (s2.hh _ _ (by simp) hq1))) DpAll.ints', .lst (.inl (.inl upd_same)) .nil, sh_lI, sh_nil, !cs.isEmpty, ?_, k F1 _ s2⟩
    rw [eqv_lnil]
    cases cs <;> rfl⟩⟩
/-- cell = stream[0].pop(0) -/
theorem q_popM {i j : Nat} {p q : Addr} {vs : List V} {c : Int} {cs : List Int} (h : σ[i]? = some (some (.ref p))) (hp : H p = some (.lst (.ref q :: vs))) (hq : H q = some (.lst ((c :: cs).map .int)))
    (k : tw D (σ.set j (some (.int c))) (upd H q (.lst (cs.map .int)))) : tSeq (tAsg (tBM K "list" rPopAt (tOp (rIx K) (tVar i) (tC (.int 0))) (tCons (tC (.int 0)) tNil)) (gName j)) tw D σ H :=
  ⟨.ref p, h, .inl ⟨p, _, 0, .ref q, rfl, rfl, .inl (.inl hp), atI_nat (j := 0) rfl, .inl ⟨rfl, _, .inl (.inl hq)⟩, q, _, 0, 0, .int c, rfl, rfl, hq, by decide, by decide, by
    unfold seqIndex?
    simp, rfl, k⟩⟩
abbrev N_law_below : List Str := ["stream", "many", "mixed", "cell", "digit"]
def t_law_below (K : PySem.W.Frag) : TS :=
  (tSeq (tAsg (tOp (rAddU K) (tOp (rIx K) (tVar 0) (tC (.int 2))) (tC (.int 1))) (gSub (tVar 0) (tC (.int 2)) rSetL))
  (tSeq (tWhile (tAnd (tTest (tOp (rEqD K) (tOp (rIx K) (tVar 0) (tC (.int 1))) (tC (.int 0)))) (tTest (tOp (rNeD K) (tOp (rIx K) (tVar 0) (tC (.int 0))) (tLst tNil))))
   (tSeq (tAsg (tBM K "list" rPopAt (tOp (rIx K) (tVar 0) (tC (.int 0))) (tCons (tC (.int 0)) tNil)) (gName 3))
    (tSeq (tAsg (tOp rModI (tCB rInt1 (tCons (tOp (rAddU K) (tOp (rAddU K) (tOp (rMulU K) (tOp (rIx K) (tVar 0) (tC (.int 3))) (tC (.int 69031))) (tVar 3)) (tC (.int 13))) tNil)) (tC (.int 2147483647))) (gSub (tVar 0) (tC (.int 3)) rSetL))
    (tAsg (tIf (tTest (tOp rGeI (tVar 3) (tOp rPowI (tC (.int 10)) (tC (.int 18))))) (tVar 3) (tC (.int 0))) (gSub (tVar 0) (tC (.int 1)) rSetL)))))
  (tSeq (tIfS (tTest (tOp rGtI (tOp (rIx K) (tVar 0) (tC (.int 1))) (tC (.int 0))))
   (tSeq (tAsg (tOp rModI (tCB rInt1 (tCons (tOp (rIx K) (tVar 0) (tC (.int 1))) tNil)) (tVar 1)) (gName 4))
    (tSeq (tAsg (tOp rDivI (tOp (rIx K) (tVar 0) (tC (.int 1))) (tVar 1)) (gSub (tVar 0) (tC (.int 1)) rSetL))
    (tRet (tVar 4))))
   tNext)
  (tSeq (tAsg (tOp rModI (tCB rInt1 (tCons (tOp rPowI (tOp (rAddU K) (tOp (rAddU K) (tOp (rIx K) (tVar 0) (tC (.int 3))) (tOp (rMulU K) (tC (.int 9049)) (tOp (rIx K) (tVar 0) (tC (.int 2))))) (tC (.int 130073))) (tC (.int 5))) tNil)) (tC (.int 2147483629))) (gName 2))
  (tRet (tOp rModI (tOp rModI (tCB rInt1 (tCons (tOp rPowI (tOp (rAddU K) (tOp (rAddU K) (tOp (rMulU K) (tVar 2) (tC (.int 44089))) (tOp (rMulU K) (tC (.int 60077)) (tOp (rIx K) (tVar 0) (tC (.int 2))))) (tC (.int 47))) (tC (.int 3))) tNil)) (tC (.int 1000000007))) (tVar 1)))))))
theorem pow5_small {i : Int} (h0 : 0 ≤ i) (h : i < 2 ^ 60) : 0 ≤ (5 : Int) ∧ (5 : Int) ≤ 1000000 ∧ i.natAbs < 2 ^ 64 := ⟨by decide, by decide, by omega⟩
theorem pow3_small {i : Int} (h0 : 0 ≤ i) (h : i < 2 ^ 60) : 0 ≤ (3 : Int) ∧ (3 : Int) ≤ 1000000 ∧ i.natAbs < 2 ^ 64 := ⟨by decide, by decide, by omega⟩
theorem rd_law_below {vs : List V} {Q : VK} {E : XK} (h : sp_law_below K vs H Q E) : t_law_below K { nx := fun _ H' => Q .non H', rt := Q } (L2.start N_law_below vs) H := by
  obtain ⟨p, q, n, m, F, rfl, e, ⟨cs, a, b, c, hp, hq, fp, fq, npq, ha, hb, hbn, hc, hc2⟩, hm1, hm2, hn, k⟩ := h
  have mp : p ∈ [p, q] := by simp
  have mq : q ∈ [p, q] := by simp
  refine q_setM (K := K) (j := 2) (d := .int (b + 1)) e (ev_op (ev_ixM (d := .int b) rfl hp (atI_nat (j := 2) rfl) (.int _)) ev_int xAddI) rfl hp rfl fun F1 H1 v s1 hp1 rv => ?_
  cases rv.int_of
  have f1p : F1 p = none := s1.sep _ fp (by rw [hp]; simp)
  have f1q : F1 q = none := s1.sep _ fq (by rw [hq]; simp)
  have s1' : Sx [p, q] F H F1 (upd H1 p (.lst [.ref q, .int a, .int (b + 1), .int c])) := Sx.put s1.up _ (.inl mp) f1p
  refine q_while (K := K) (M := [p, q]) (fun k σ' F' H' => ∃ (cs : List Int) (a c : Int) (v3 : Option V), H' p = some (.lst [.ref q, .int a, .int (b + 1), .int c]) ∧ H' q = some (.lst (cs.map .int)) ∧ F' p = none ∧ F' q = none ∧ 0 ≤ a ∧ 0 ≤ c ∧ c < 2147483647 ∧ k = cs.length ∧ σ' = [some (.ref p), some (.int (m : Int)), none, v3, none]) s1'.fh cs.length
    ⟨cs, a, c, none, upd_same, by rw [upd_ne npq.symm]; exact s1.hh _ _ (by simp) hq, f1p, f1q, ha, hc, hc2, rfl, rfl⟩ ?_
  rintro k' σ' F' H' s' ⟨cs, a, c, v3, hp, hq, fp, fq, ha, hc, hc2, rfl, rfl⟩
  have fin : Sx [p, q] F H F' H' := s1'.trans s'
  refine ⟨decide (a = 0) && !cs.isEmpty, [], et_and (et_test (ev_op (ev_ixM (d := .int a) rfl hp (atI_nat (j := 1) rfl) (.int _)) ev_int xEqI)) (fun _ => et_some rfl hp hq), fun hb F2 H2 s2 => ?_, fun hb F2 H2 s2 => ?_⟩
  · -- a cell more
    have hp2 := s2.hh _ _ (by simp) hp
    have hq2 := s2.hh _ _ (by simp) hq
    have f2p : F2 p = none := s2.sep _ fp (by rw [hp]; simp)
    have f2q : F2 q = none := s2.sep _ fq (by rw [hq]; simp)
    cases cs with
    | nil => simp at hb
    | cons cell cs =>
      refine q_popM rfl hp2 hq2 ?_
      have s4 := Sx.put (s'.trans s2.up) (.lst (cs.map .int)) (.inl mq) f2q
      have hp4 : (upd H2 q (.lst (cs.map .int))) p = some (.lst [.ref q, .int a, .int (b + 1), .int c]) := by rw [upd_ne npq]; exact hp2
      refine q_setM (K := K) (j := 3) (d := .int ((c * 69031 + cell + 13) % 2147483647)) s4.fh (ev_op (ev_cb (ea_cons (ev_op (ev_op (ev_op (ev_ixM (d := .int c) rfl hp4 (atI_nat (j := 3) rfl) (.int _)) ev_int (xMulI (.inl ⟨by omega, by omega⟩))) (ev_var rfl (.int cell)) xAddI) ev_int xAddI) ea_nil) xInt) ev_int (xMod (by decide))) rfl hp4 rfl fun F5 H5 v s5 hp5 rv => ?_
      cases rv.int_of
      have f5p : F5 p = none := s5.sep _ f2p (by rw [hp4]; simp)
      have f5q : F5 q = none := s5.sep _ f2q (by rw [upd_same]; simp)
      have s6 := Sx.put (s4.trans s5.up) (.lst [.ref q, .int a, .int (b + 1), .int ((c * 69031 + cell + 13) % 2147483647)]) (.inl mp) f5p
      have hq5 : H5 q = some (.lst (cs.map .int)) := s5.hh _ _ (by simp) upd_same
      refine st_setM (K := K) (j := 1) (d := .int (if decide (cell ≥ (10 : Int) ^ (18 : Int).toNat) = true then cell else 0)) s6.fh (EvD.is (ev_ifB (et_test (ev_op (ev_var rfl (.int cell)) (ev_op ev_int ev_int (xPow (by decide))) xGe)) (fun _ => ev_var rfl (.int cell)) (fun _ => ev_int)) (by split <;> rfl)) rfl upd_same rfl fun F7 H7 v s7 hp7 rv => ?_
      cases rv.int_of
      have f7p : F7 p = none := s7.sep _ f5p (by rw [upd_same]; simp)
      have f7q : F7 q = none := s7.sep _ f5q (by rw [upd_ne npq.symm, hq5]; simp)
      have hq7 : H7 q = some (.lst (cs.map .int)) := s7.hh _ _ (by simp) (by rw [upd_ne npq.symm]; exact hq5)
      refine ⟨cs.length, by simp, F7, Sx.put (s6.trans s7.up) _ (.inl mp) f7p, cs, _, _, some (.int cell), upd_same, by rw [upd_ne npq.symm]; exact hq7, f7p, f7q, ?_, Int.emod_nonneg _ (by decide), Int.emod_lt_of_pos _ (by decide), rfl, rfl⟩
      split
      · rename_i hge
        have : cell ≥ (10 : Int) ^ (18 : Int).toNat := of_decide_eq_true hge
        have h18 : (10 : Int) ^ (18 : Int).toNat = 1000000000000000000 := by decide
        omega
      · decide
  · -- behind the loop
    have hp2 := s2.hh _ _ (by simp) hp
    have hq2 := s2.hh _ _ (by simp) hq
    have f2p : F2 p = none := s2.sep _ fp (by rw [hp]; simp)
    have f2q : F2 q = none := s2.sep _ fq (by rw [hq]; simp)
    have s2' := fin.trans s2.up
    refine q_when (K := K) (M := []) (b := decide (a > 0)) s2.fh (et_test (ev_op (ev_ixM (d := .int a) rfl hp2 (atI_nat (j := 1) rfl) (.int _)) ev_int xGt)) (fun ha0 F3 H3 s3 => ?_) (fun ha0 F3 H3 s3 => ?_)
    · have hp3 := s3.hh _ _ (by simp) hp2
      have hq3 := s3.hh _ _ (by simp) hq2
      have f3p : F3 p = none := s3.sep _ f2p (by rw [hp2]; simp)
      have f3q : F3 q = none := s3.sep _ f2q (by rw [hq2]; simp)
      refine q_set (K := K) (M := []) (d := .int (a % (m : Int))) s3.fh (ev_op (ev_cb (ea_cons (ev_ixM (d := .int a) rfl hp3 (atI_nat (j := 1) rfl) (.int _)) ea_nil) xInt) (ev_var rfl (.int (m : Int))) (xMod (by omega))) fun F4 H4 v s4 rv => ?_
      cases rv.int_of
      have hp4 := s4.hh _ _ (by simp) hp3
      have hq4 := s4.hh _ _ (by simp) hq3
      have f4p : F4 p = none := s4.sep _ f3p (by rw [hp3]; simp)
      have f4q : F4 q = none := s4.sep _ f3q (by rw [hq3]; simp)
      refine q_setM (K := K) (j := 1) (d := .int (a / (m : Int))) s4.fh (ev_op (ev_ixM (d := .int a) rfl hp4 (atI_nat (j := 1) rfl) (.int _)) (ev_var rfl (.int (m : Int))) (xDiv ⟨by omega, by omega⟩)) rfl hp4 rfl fun F5 H5 v s5 hp5 rv => ?_
      cases rv.int_of
      have hq5 := s5.hh _ _ (by simp) hq4
      have f5p : F5 p = none := s5.sep _ f4p (by rw [hp4]; simp)
      have f5q : F5 q = none := s5.sep _ f4q (by rw [hq4]; simp)
      have s6 := Sx.put (((s2'.trans s3.up).trans s4.up).trans s5.up) (.lst [.ref q, .int (a / (m : Int)), .int (b + 1), .int c]) (.inl mp) f5p
      refine ⟨.int (a % (m : Int)), rfl, ?_⟩
      have hr0 := Int.emod_nonneg a (show (m : Int) ≠ 0 by omega)
      have hr1 := Int.emod_lt_of_pos a (show (0 : Int) < (m : Int) by omega)
      have er : a % (m : Int) = ((a % (m : Int)).toNat : Int) := by omega
      rw [er]
      refine k F5 _ _ s6 ⟨cs, _, _, _, upd_same, by rw [upd_ne npq.symm]; exact hq5, f5p, f5q, npq, Int.ediv_nonneg ha (by omega), by omega, by omega, hc, hc2⟩ (by omega)
    · have hp3 := s3.hh _ _ (by simp) hp2
      have hq3 := s3.hh _ _ (by simp) hq2
      have f3p : F3 p = none := s3.sep _ f2p (by rw [hp2]; simp)
      have f3q : F3 q = none := s3.sep _ f2q (by rw [hq2]; simp)
      refine q_set (K := K) (M := []) (d := .int ((c + 9049 * (b + 1) + 130073) ^ (5 : Int).toNat % 2147483629)) s3.fh (ev_op (ev_cb (ea_cons (ev_op (ev_op (ev_op (ev_ixM (d := .int c) rfl hp3 (atI_nat (j := 3) rfl) (.int _)) (ev_op ev_int (ev_ixM (d := .int (b + 1)) rfl hp3 (atI_nat (j := 2) rfl) (.int _)) (xMulI (.inl ⟨by decide, by decide⟩))) xAddI) ev_int xAddI) ev_int (xPow (pow5_small (by omega) (by omega)))) ea_nil) xInt) ev_int (xMod (by decide))) fun F4 H4 v s4 rv => ?_
      cases rv.int_of
      have hp4 := s4.hh _ _ (by simp) hp3
      have hq4 := s4.hh _ _ (by simp) hq3
      have f4p : F4 p = none := s4.sep _ f3p (by rw [hp3]; simp)
      have f4q : F4 q = none := s4.sep _ f3q (by rw [hq3]; simp)
      generalize hmx : (c + 9049 * (b + 1) + 130073) ^ (5 : Int).toNat % 2147483629 = mx
      have mx0 : 0 ≤ mx := by rw [← hmx]; exact Int.emod_nonneg _ (by decide)
      have mx1 : mx < 2147483629 := by rw [← hmx]; exact Int.emod_lt_of_pos _ (by decide)
      refine st_ret (K := K) (M := []) (d := .int ((mx * 44089 + 60077 * (b + 1) + 47) ^ (3 : Int).toNat % 1000000007 % (m : Int))) s4.fh (ev_op (ev_op (ev_cb (ea_cons (ev_op (ev_op (ev_op (ev_op (ev_var rfl (.int mx)) ev_int (xMulI (.inr ⟨by decide, by decide⟩))) (ev_op ev_int (ev_ixM (d := .int (b + 1)) rfl hp4 (atI_nat (j := 2) rfl) (.int _)) (xMulI (.inl ⟨by decide, by decide⟩))) xAddI) ev_int xAddI) ev_int (xPow (pow3_small (by omega) (by omega)))) ea_nil) xInt) ev_int (xMod (by decide))) (ev_var rfl (.int (m : Int))) (xMod (by omega))) fun F5 H5 v s5 rv => ?_
      cases rv.int_of
      have s6 := ((s2'.trans s3.up).trans s4.up).trans s5.up
      generalize (mx * 44089 + 60077 * (b + 1) + 47) ^ (3 : Int).toNat % 1000000007 = y
      have hr0 := Int.emod_nonneg y (show (m : Int) ≠ 0 by omega)
      have hr1 := Int.emod_lt_of_pos y (show (0 : Int) < (m : Int) by omega)
      have er : y % (m : Int) = ((y % (m : Int)).toNat : Int) := by omega
      rw [er]
      exact k F5 _ _ s6 (Stm.pure ⟨cs, a, b + 1, c, hp4, hq4, f4p, f4q, npq, ha, by omega, by omega, hc, hc2⟩ s5) (by omega)
end
end Sf

/-! what is walked, as data; evaluation that draws -/
namespace Sf
open PySem L2 RZ
/-! evaluation, construct by construct -/
local macro_rules | `(tactic| walk_at "rp") => `(tactic| first | assumption | exact .int _ | exact .bl _ | exact .str _ | exact .non | exact Rp.mono (Sx.ff (by assumption)) (by walk_at "rp"))
local macro_rules | `(tactic| walk_at "sc") => `(tactic| first | rfl | assumption | omega | decide | (simp; done) | (simp; omega))
local macro_rules | `(tactic| walk_at "ix") => `(tactic| first | rfl | assumption)
local macro_rules | `(tactic| walk_at "rv") => `(tactic| first
  | exact xAddI | exact xSub | exact xLt | exact xLe | exact xGt | exact xGe | exact xIsN | exact xNotN | exact xEqI | exact xNeI | exact xEqB | exact xNeB | exact xEqLB | exact xEqTB | exact xNeTB
  | exact xMod (by walk_at "sc")
  | exact xDiv (by walk_at "sc")
  | exact xPow (by walk_at "sc")
  | exact xMulI (by walk_at "sc")
  | exact rv_ixt (by walk_at "ix")
  | exact rv_ixl (by walk_at "ix")
  | exact xAddL (by walk_at "sc")
  | exact xAddT (by walk_at "sc"))
local macro_rules | `(tactic| walk_at "rc") => `(tactic| first | exact xLenL | exact xLenT | exact xListL | exact xListT | exact xTupL | exact xTupT | exact xMax2 | exact xInt | exact rc_all | exact rc_any)
local macro_rules | `(tactic| walk_at "ea") => `(tactic| first | exact ea_nil | refine ea_cons (by walk_at "ev") (by walk_at "ea"))
local macro_rules | `(tactic| walk_at "eo") => `(tactic| first | exact eo_none | refine eo_some (by walk_at "ev"))
local macro_rules | `(tactic| walk_at "et") => `(tactic| first
  | ((with_reducible show EvT _ _ (tTest _) _ _ _ _); exact et_test (by walk_at "ev"))
  | ((with_reducible show EvT _ _ (tNot _) _ _ _ _); exact et_not (by walk_at "et"))
  | ((with_reducible show EvT _ _ (tAnd _ _) _ _ _ _); exact et_and (by walk_at "et") (fun hh => by walk_at "et"))
  | ((with_reducible show EvT _ _ (tOr _ _) _ _ _ _); exact et_or (by walk_at "et") (fun hh => by walk_at "et"))
  | ((with_reducible show EvT _ _ (tTru _ _) _ _ _ _); exact xTru (by walk_at "ev") (by walk_at "sc"))
  | ((with_reducible show EvT _ _ tYes _ _ _ _); exact et_yes))
local macro_rules | `(tactic| walk_at "ev") => `(tactic| first
  | ((with_reducible show EvD _ _ (tC _) _ _ _ _); first | exact ev_int | exact ev_bl | exact ev_str | exact ev_non)
  | ((with_reducible show EvD _ _ (tVar _) _ _ _ _); exact ev_var (by rfl) (by walk_at "rp"))
  | ((with_reducible show EvD _ _ (tOp _ _ _) _ _ _ _); exact ev_op (by walk_at "ev") (by walk_at "ev") (by walk_at "rv"))
  | ((with_reducible show EvD _ _ (tUn _ _) _ _ _ _); exact ev_un (by walk_at "ev") xNeg)
  | ((with_reducible show EvD _ _ (tCB _ _) _ _ _ _); exact ev_cb (by walk_at "ea") (by walk_at "rc"))
  | ((with_reducible show EvD _ _ (tTup _) _ _ _ _); exact ev_tup (by walk_at "ea") (by walk_at "sc"))
  | ((with_reducible show EvD _ _ (tLst _) _ _ _ _); exact ev_lst (by walk_at "ea") (by walk_at "sc"))
  | ((with_reducible show EvD _ _ (tSl _ _ _ _) _ _ _ _); first | exact xSlL (by walk_at "ev") (by walk_at "eo") (by walk_at "eo") | exact xSlT (by walk_at "ev") (by walk_at "eo") (by walk_at "eo"))
  | ((with_reducible show EvD _ _ (tNotT _ _) _ _ _ _); exact ev_notT (by walk_at "ev") (by walk_at "sc"))
  | ((with_reducible show EvD _ _ (tAndT _ _ _) _ _ _ _); exact ev_andB (by walk_at "ev") (fun hh => by walk_at "ev"))
  | ((with_reducible show EvD _ _ (tOrT _ _ _) _ _ _ _); exact ev_orB (by walk_at "ev") (fun hh => by walk_at "ev")))

section
variable {K : PySem.W.Frag} {F H F' H' F1 H1 F2 H2 : Hp} {M : List Addr} {σ : L2.St} {te ta tb tc tl : TE} {tt tu : TT} {d x y z : PyData} {r r' : R2} {D : Ends} {tw tz : TS}
/-! ### walkers -/
/-- n turns; turn i gives the datum e i -/
def WkD (K : PySem.W.Frag) (J : It) (n : Nat) (F : Hp) (e : Nat → PyData) : Prop :=
  ∃ G Y, Walk J n G Y ∧ (∀ F' H', Same F F' → Same F' H' → G H') ∧ ∀ i H' v H'', i < n → Y i H' v H'' → ∀ F', Same F F' → Same F' H' → ∃ F'', Sx [] F' H' F'' H'' ∧ Rp K F'' v (e i)
def EvW (K : PySem.W.Frag) (M : List Addr) (wi : TI) (σ : L2.St) (F H : Hp) (n : Nat) (e : Nat → PyData) : Prop :=
  ∀ F1 H1, Sx M F H F1 H1 → ∀ R : It → Hp → Prop, (∀ F2 H2 J, Sx [] F1 H1 F2 H2 → WkD K J n F2 e → R J H2) → wi σ H1 R
theorem ew_list {ds : List PyData} {n : Nat} {e : Nat → PyData} (h : EvD K M te σ F H (.list ds)) (hn : n = ds.length) (he : ∀ i, i < n → ds[i]? = some (e i)) : EvW K M (iList K te) σ F H n e := fun F1 H1 s R q => h F1 H1 s _ fun F2 H2 v s2 rv => by
  obtain ⟨a, xs, rfl, ha, rs⟩ := rv.lst_of
  have hl : n = xs.length := by rw [hn, rs.length]
  refine ⟨a, rfl, ⟨xs, .inl (.inl (s2.fh _ _ ha))⟩, q F2 H2 _ s2 ⟨_, _, hl ▸ walk_list, fun F' H' e1 e2 => .inl (.inl (e2 _ _ (e1 _ _ ha))), fun i H' v H'' hi y F' e1 e2 => ?_⟩⟩
  obtain ⟨rfl, hv⟩ := y
  obtain ⟨d, hd, rv⟩ := rs.of_get hv
  rw [he i hi] at hd
  cases hd
  exact ⟨F', Sx.refl e2, rv.mono e1⟩
theorem ew_tup {ds : List PyData} {n : Nat} {e : Nat → PyData} (h : EvD K M te σ F H (.tuple ds)) (hn : n = ds.length) (he : ∀ i, i < n → ds[i]? = some (e i)) : EvW K M (iTup K te) σ F H n e := fun F1 H1 s R q => h F1 H1 s _ fun F2 H2 v s2 rv => by
  obtain ⟨a, xs, rfl, ha, rs⟩ := rv.tup_of
  have hl : n = xs.length := by rw [hn, rs.length]
  refine ⟨a, rfl, ⟨xs, same_t s2.fh ha⟩, q F2 H2 _ s2 ⟨_, _, hl ▸ walk_tup, fun F' H' e1 e2 => same_t e2 (same_t e1 ha), fun i H' v H'' hi y F' e1 e2 => ?_⟩⟩
  obtain ⟨rfl, hv⟩ := y
  obtain ⟨d, hd, rv⟩ := rs.of_get hv
  rw [he i hi] at hd
  cases hd
  exact ⟨F', Sx.refl e2, rv.mono e1⟩
theorem ew_or1 {w1 w2 : TI} {n : Nat} {e : Nat → PyData} (h : EvW K M w1 σ F H n e) : EvW K M (iOr w1 w2) σ F H n e := fun F1 H1 s R q => .inl (h F1 H1 s R q)
theorem ew_or2 {w1 w2 : TI} {n : Nat} {e : Nat → PyData} (h : EvW K M w2 σ F H n e) : EvW K M (iOr w1 w2) σ F H n e := fun F1 H1 s R q => .inr (h F1 H1 s R q)
theorem ew_seqL {ds : List PyData} {n : Nat} {e : Nat → PyData} (h : EvD K M te σ F H (.list ds)) (hn : n = ds.length) (he : ∀ i, i < n → ds[i]? = some (e i)) : EvW K M (iSeq K te) σ F H n e := ew_or1 (ew_list h hn he)
theorem ew_seqT {ds : List PyData} {n : Nat} {e : Nat → PyData} (h : EvD K M te σ F H (.tuple ds)) (hn : n = ds.length) (he : ∀ i, i < n → ds[i]? = some (e i)) : EvW K M (iSeq K te) σ F H n e := ew_or2 (ew_tup h hn he)
theorem ew_rng1 {ta : TA} {n : Nat} {m : Int} (h : EvA K M ta σ F H [.int m]) (hm : m.toNat = n) (hz : m ≤ 1000000) (hz' : -1000000 ≤ m) : EvW K M (iRng1 ta) σ F H n (fun i => .int (i : Int)) := fun F1 H1 s R q => h F1 H1 s _ fun F2 H2 us s2 rs => by
  obtain ⟨_, rfl, h1⟩ := rs.inv1
  cases h1.int_of
  subst hm
  refine ⟨m, rfl, by omega, by omega, q F2 H2 _ s2 ⟨_, _, walk_range, fun _ _ _ _ => trivial, fun i H' v H'' hi y F' e1 e2 => ?_⟩⟩
  obtain ⟨rfl, rfl⟩ := y
  refine ⟨F', Sx.refl e2, ?_⟩
  show Rp K F' (.int (0 + (i : Int))) (.int (i : Int))
  rw [Int.zero_add]
  exact .int _
theorem ew_rng2 {ta : TA} {n : Nat} {lo m : Int} (h : EvA K M ta σ F H [.int lo, .int m]) (hm : (m - lo).toNat = n) (hz : -1000000 ≤ lo ∧ lo ≤ 1000000 ∧ -1000000 ≤ m ∧ m ≤ 1000000) : EvW K M (iRng2 ta) σ F H n (fun i => .int (lo + (i : Int))) := fun F1 H1 s R q => h F1 H1 s _ fun F2 H2 us s2 rs => by
  obtain ⟨_, _, rfl, h1, h2⟩ := rs.inv2
  cases h1.int_of
  cases h2.int_of
  subst hm
  refine ⟨lo, m, rfl, by omega, q F2 H2 _ s2 ⟨_, _, walk_range, fun _ _ _ _ => trivial, fun i H' v H'' hi y F' e1 e2 => ?_⟩⟩
  obtain ⟨rfl, rfl⟩ := y
  exact ⟨F', Sx.refl e2, .int _⟩
theorem walk_zipT {a b : Addr} {xs ys : List V} {n : Nat} (hn : n = min xs.length ys.length) : Walk (ItzT K a b) n (fun H => SqT K H a xs ∧ SqT K H b ys) (YPair (fun i => xs[i]?) (fun i => ys[i]?)) where
  goes i H hi q := ⟨xs, ys, xs[i]'(by omega), ys[i]'(by omega), q.1, q.2, List.getElem?_eq_getElem _, List.getElem?_eq_getElem _⟩
  stops H q := ⟨xs, ys, q.1, q.2, by omega⟩
  yields i H x H' hi q y := by
    obtain ⟨T, x', z', g1, g2, g3, g4, g5⟩ := y
    exact ⟨T, x', z', g1, g2, g3, g4 _ q.1, g5 _ q.2⟩
theorem zip_turn {F' H' H'' : Hp} {v : V} {i : Nat} {xs ys : List V} {ds es : List PyData} {e e' : Nat → PyData} (rs : RpAll K F xs ds) (rs' : RpAll K F ys es) (hd : ds[i]? = some (e i)) (he : es[i]? = some (e' i)) (y : YPair (fun i => xs[i]?) (fun i => ys[i]?) i H' v H'') (e1 : Same F F') (e2 : Same F' H') :
    ∃ F'', Sx [] F' H' F'' H'' ∧ Rp K F'' v (.tuple [e i, e' i]) := by
  obtain ⟨T, x, z, rfl, hT, rfl, hx, hz⟩ := y
  obtain ⟨d1, hd1, r1⟩ := rs.of_get hx
  obtain ⟨d2, hd2, r2⟩ := rs'.of_get hz
  rw [hd] at hd1
  rw [he] at hd2
  cases hd1
  cases hd2
  have sm := fix_same (o := HO.tup [x, z]) (none_of_same e2 hT)
  exact ⟨upd F' T (.tup [x, z]), Sx.new e2 _ hT, .tup (.inl (.inl upd_same)) (.cons ((r1.mono e1).mono sm) (.one ((r2.mono e1).mono sm)))⟩
theorem ew_zipL {ta : TA} {ds es : List PyData} {n : Nat} {e e' : Nat → PyData} (h : EvA K M ta σ F H [.list ds, .list es]) (hn : n = min ds.length es.length) (hd : ∀ i, i < n → ds[i]? = some (e i)) (he : ∀ i, i < n → es[i]? = some (e' i)) : EvW K M (iZipA K ta) σ F H n (fun i => .tuple [e i, e' i]) := fun F1 H1 s R q => h F1 H1 s _ fun F2 H2 us s2 rs => by
  obtain ⟨_, _, rfl, h1, h2⟩ := rs.inv2
  obtain ⟨a, xs, rfl, ha, ra⟩ := h1.lst_of
  obtain ⟨b, ys, rfl, hb, rb⟩ := h2.lst_of
  exact ⟨a, b, xs, ys, rfl, .inl ⟨.inl (.inl (s2.fh _ _ ha)), .inl (.inl (s2.fh _ _ hb)), q F2 H2 _ s2 ⟨_, _, walk_zip (by rw [hn, ra.length, rb.length]), fun F' H' e1 e2 => ⟨.inl (.inl (e2 _ _ (e1 _ _ ha))), .inl (.inl (e2 _ _ (e1 _ _ hb)))⟩, fun i H' v H'' hi y F' e1 e2 => zip_turn ra rb (hd i hi) (he i hi) y e1 e2⟩⟩⟩
theorem ew_zipT {ta : TA} {ds es : List PyData} {n : Nat} {e e' : Nat → PyData} (h : EvA K M ta σ F H [.tuple ds, .tuple es]) (hn : n = min ds.length es.length) (hd : ∀ i, i < n → ds[i]? = some (e i)) (he : ∀ i, i < n → es[i]? = some (e' i)) : EvW K M (iZipA K ta) σ F H n (fun i => .tuple [e i, e' i]) := fun F1 H1 s R q => h F1 H1 s _ fun F2 H2 us s2 rs => by
  obtain ⟨_, _, rfl, h1, h2⟩ := rs.inv2
  obtain ⟨a, xs, rfl, ha, ra⟩ := h1.tup_of
  obtain ⟨b, ys, rfl, hb, rb⟩ := h2.tup_of
  exact ⟨a, b, xs, ys, rfl, .inr ⟨same_t s2.fh ha, same_t s2.fh hb, q F2 H2 _ s2 ⟨_, _, walk_zipT (by rw [hn, ra.length, rb.length]), fun F' H' e1 e2 => ⟨same_t e2 (same_t e1 ha), same_t e2 (same_t e1 hb)⟩, fun i H' v H'' hi y F' e1 e2 => zip_turn ra rb (hd i hi) (he i hi) y e1 e2⟩⟩⟩
/-- a comprehension over whatever is walked -/
theorem en_lc {wi : TI} {gt : TG} {vs : List Nat} (n : Nat) (e g : Nat → PyData) (p : Nat → Bool) (P : Nat → L2.St → Hp → L2.St → Prop) (h : EvW K M wi σ F H n e) (hz : n ≤ 1000000)
    (hP : ∀ i, i < n → TgD K gt (e i) (P i)) (hw : ∀ i, i < n → ∀ F1 σ', P i (wipe σ vs) F1 σ' → wipe σ' vs = wipe σ vs)
    (ht : ∀ i, i < n → ∀ F1 H1 σ', Sx M F H F1 H1 → P i (wipe σ vs) F1 σ' → EvT K M tt σ' F1 H1 (p i))
    (he : ∀ i, i < n → p i = true → ∀ F1 H1 σ', Sx M F H F1 H1 → P i (wipe σ vs) F1 σ' → EvD K M te σ' F1 H1 (g i)) :
    EvN K M (tLc wi gt tt te vs) σ F H (((List.range n).filter p).map g) := fun F1 H1 s Q q => h F1 H1 s _ fun F2 H2 J s2 ⟨G, Y, wk, hG, hY⟩ => fun Dl hD => by
  refine lc_it wk (fun i H' => Lw K F2 H2 Dl (picked (List.range n) p g i) H') ⟨F2, [], Sx.newM s2.fh _ hD, none_of_same s2.fh hD, hD, upd_same, by unfold picked; exact .nil⟩ (fun i H' _ ⟨F', _, s3, _⟩ => hG F' H' s3.ff s3.fh) (fun i v H' H'' hi w y => ?_) (fun H' ⟨F', us, s3, n1, n2, hD3, r3⟩ => ?_)
  · obtain ⟨F3, ws, s3, n1, n2, hD3, r3⟩ := w
    obtain ⟨F4, s4, rv⟩ := hY i H' v H'' hi y F3 s3.ff s3.fh
    have w' : Lw K F2 H2 Dl (picked (List.range n) p g i) H'' := ⟨F4, ws, s3.trans s4, s4.sep _ n1 (by rw [hD3]; simp), n2, s4.hh _ _ (by simp) hD3, r3.mono s4.ff⟩
    have w5 : Lw K F4 H'' Dl (picked (List.range n) p g i) H'' → False := fun ⟨_, _, _, _, z, _⟩ => by rw [s4.hh _ _ (by simp) hD3] at z; cases z
    have s04 : Sx M F H F4 H'' := ((s.trans s2.up).trans s3.up).trans s4.up
    refine hP i hi F4 H'' v _ s4.fh rv _ fun σ' hσ => ⟨hw i hi _ _ hσ, ?_⟩
    refine ht i hi F4 H'' σ' s04 hσ F4 H'' (Sx.refl s4.fh) _ fun F5 H5 s5 => ?_
    have s35 := (s3.trans s4).trans s5
    have hD5 : H5 Dl = some (.lst ws) := s5.hh _ _ (by simp) (s4.hh _ _ (by simp) hD3)
    have nF5 : F5 Dl = none := s5.sep _ (s4.sep _ n1 (by rw [hD3]; simp)) (by rw [s4.hh _ _ (by simp) hD3]; simp)
    have r5 := (r3.mono s4.ff).mono s5.ff
    have hnx := picked_next (p := p) (g := g) (range_at hi)
    cases hp : p i with
    | false =>
      rw [hp] at hnx
      refine iteF ⟨F5, ws, s35, nF5, n2, hD5, ?_⟩
      rw [hnx]
      simpa using r5
    | true =>
      rw [hp] at hnx
      refine iteT (he i hi hp F4 H'' σ' s04 hσ F5 H5 s5.up _ fun F6 H6 u s6 ru => ?_)
      have hD6 : H6 Dl = some (.lst ws) := s6.hh _ _ (by simp) hD5
      have nF6 : F6 Dl = none := s6.sep _ nF5 (by rw [hD5]; simp)
      refine ⟨ws, hD6, Nat.lt_of_le_of_lt (by rw [r3.length]; exact Nat.le_trans (picked_le ..) (by simpa using hz)) (by decide), F6, _, Sx.put (s35.trans s6) _ (.inr n2) nF6, nF6, n2, upd_same, ?_⟩
      rw [hnx]
      exact (r5.mono s6.ff).append (.one ru)
  · have e1 : picked (List.range n) p g n = ((List.range n).filter p).map g := by
      unfold picked
      rw [List.take_of_length_le (by simp)]
    rw [e1] at r3
    exact q F' H' Dl us (s2.trans s3) (Same.free s2.same n2) n1 hD3 r3
/-! ### evaluation that draws -/
def EvS (K : PySem.W.Frag) (p q : Addr) (te : TE) (σ : L2.St) (F H : Hp) (c : Nat) (P : PyData → Prop) : Prop :=
  ∀ F1 H1 n, Sx [p, q] F H F1 H1 → Stm F1 H1 p q n → n + c ≤ 1000000000 → ∀ Q : VK, (∀ F2 H2 v d, Sx [p, q] F1 H1 F2 H2 → Stm F2 H2 p q (n + c) → P d → Rp K F2 v d → Q v H2) → te σ H1 Q
def EvSA (K : PySem.W.Frag) (p q : Addr) (ta : TA) (σ : L2.St) (F H : Hp) (c : Nat) (P : List PyData → Prop) : Prop :=
  ∀ F1 H1 n, Sx [p, q] F H F1 H1 → Stm F1 H1 p q n → n + c ≤ 1000000000 → ∀ Q : List V → Hp → Prop, (∀ F2 H2 vs ds, Sx [p, q] F1 H1 F2 H2 → Stm F2 H2 p q (n + c) → P ds → RpAll K F2 vs ds → Q vs H2) → ta σ H1 Q
def EvST (K : PySem.W.Frag) (p q : Addr) (tt : TT) (σ : L2.St) (F H : Hp) (c : Nat) (P : Bool → Prop) : Prop :=
  ∀ F1 H1 n, Sx [p, q] F H F1 H1 → Stm F1 H1 p q n → n + c ≤ 1000000000 → ∀ Q : Bool → Hp → Prop, (∀ F2 H2 b, Sx [p, q] F1 H1 F2 H2 → Stm F2 H2 p q (n + c) → P b → Q b H2) → tt σ H1 Q
variable {p q : Addr} {c c' : Nat} {Px Py Pz : PyData → Prop}
theorem es_d (h : EvD K [p, q] te σ F H d) : EvS K p q te σ F H 0 (fun x => x = d) := fun F1 H1 n s st hn Q k => h F1 H1 s Q fun F2 H2 v s2 rv => k F2 H2 v d s2.up (st.pure s2) rfl rv
theorem EvS.weak (h : EvS K p q te σ F H c Px) (hc : c ≤ c') (hP : ∀ d, Px d → Py d) : EvS K p q te σ F H c' Py := fun F1 H1 n s st hn Q k => h F1 H1 n s st (by omega) Q fun F2 H2 v d s2 st2 hd rv => k F2 H2 v d s2 (st2.le (by omega)) (hP d hd) rv
theorem es_op (ha : EvS K p q ta σ F H c Px) (hb : EvS K p q tb σ F H c' Py) (hr : ∀ x y, Px x → Py y → ∃ z, RV K r x y z ∧ Pz z) : EvS K p q (tOp r ta tb) σ F H (c + c') Pz := fun F1 H1 n s st hn Q k =>
  ha F1 H1 n s st (by omega) _ fun F2 H2 v x s2 st2 hx rv => hb F2 H2 (n + c) (s.trans s2) st2 (by omega) _ fun F3 H3 w y s3 st3 hy rw => by
    obtain ⟨z, hz, pz⟩ := hr x y hx hy
    exact hz F3 H3 v w s3.fh (rv.mono s3.ff) rw Q fun F4 H4 u s4 ru => k F4 H4 u z ((s2.trans s3).trans s4.up) ((st3.le (by omega)).pure s4) pz ru
theorem esa_nil : EvSA K p q tNil σ F H 0 (fun ds => ds = []) := fun F1 H1 n s st hn Q k => k F1 H1 [] [] (Sx.refl s.fh) st rfl .nil
theorem esa_cons {tr : TA} {Pr Pq : List PyData → Prop} (ha : EvS K p q ta σ F H c Px) (hb : EvSA K p q tr σ F H c' Pr) (hP : ∀ x ds, Px x → Pr ds → Pq (x :: ds)) : EvSA K p q (tCons ta tr) σ F H (c + c') Pq := fun F1 H1 n s st hn Q k =>
  ha F1 H1 n s st (by omega) _ fun F2 H2 v x s2 st2 hx rv => hb F2 H2 (n + c) (s.trans s2) st2 (by omega) _ fun F3 H3 vs ds s3 st3 hds rs => k F3 H3 _ _ (s2.trans s3) (st3.le (by omega)) (hP x ds hx hds) (.cons (rv.mono s3.ff) rs)
theorem esa_d {ta : TA} {ds : List PyData} (h : EvA K [p, q] ta σ F H ds) : EvSA K p q ta σ F H 0 (fun x => x = ds) := fun F1 H1 n s st hn Q k => h F1 H1 s Q fun F2 H2 vs s2 rs => k F2 H2 vs ds s2.up (st.pure s2) rfl rs
theorem es_cb {rr : List V → Hp → VK → Prop} {ta : TA} {Pr : List PyData → Prop} (h : EvSA K p q ta σ F H c Pr) (hr : ∀ ds, Pr ds → ∃ z, RC K rr ds z ∧ Pz z) : EvS K p q (tCB rr ta) σ F H c Pz := fun F1 H1 n s st hn Q k =>
  h F1 H1 n s st hn _ fun F2 H2 vs ds s2 st2 hds rs => by
    obtain ⟨z, hz, pz⟩ := hr ds hds
    exact hz F2 H2 vs s2.fh rs Q fun F4 H4 u s4 ru => k F4 H4 u z (s2.trans s4.up) (st2.pure s4) pz ru
theorem es_tup {ta : TA} {Pr : List PyData → Prop} (h : EvSA K p q ta σ F H c Pr) (hl : ∀ ds, Pr ds → ds.length ≤ 1000) : EvS K p q (tTup ta) σ F H c (fun z => ∃ ds, Pr ds ∧ z = .tuple ds) := fun F1 H1 n s st hn Q k =>
  h F1 H1 n s st hn _ fun F2 H2 vs ds s2 st2 hds rs => ⟨Nat.le_of_lt (small1000 (by rw [rs.length]; exact hl ds hds)), fun l hl => k (upd F2 l (.tup vs)) _ _ _ (s2.trans (Sx.new s2.fh _ hl)) (st2.pure (Sx.new s2.fh _ hl)) ⟨ds, hds, rfl⟩ (.tup (.inl (.inl upd_same)) (rs.mono (fix_same (none_of_same s2.fh hl))))⟩
theorem es_lst {ta : TA} {Pr : List PyData → Prop} (h : EvSA K p q ta σ F H c Pr) (hl : ∀ ds, Pr ds → ds.length ≤ 1000) : EvS K p q (tLst ta) σ F H c (fun z => ∃ ds, Pr ds ∧ z = .list ds) := fun F1 H1 n s st hn Q k =>
  h F1 H1 n s st hn _ fun F2 H2 vs ds s2 st2 hds rs => ⟨Nat.le_of_lt (small1000 (by rw [rs.length]; exact hl ds hds)), fun l hl => k (upd F2 l (.lst vs)) _ _ _ (s2.trans (Sx.new s2.fh _ hl)) (st2.pure (Sx.new s2.fh _ hl)) ⟨ds, hds, rfl⟩ (.lst upd_same (rs.mono (fix_same (none_of_same s2.fh hl))))⟩
theorem est_test {Pb : Bool → Prop} (h : EvS K p q te σ F H c (fun d => ∃ b, d = .bool b ∧ Pb b)) : EvST K p q (tTest te) σ F H c Pb := fun F1 H1 n s st hn Q k => h F1 H1 n s st hn _ fun F2 H2 v d s2 st2 hd rv => by
  obtain ⟨b, rfl, hb⟩ := hd
  cases rv.bl_of
  exact ⟨b, rfl, k F2 H2 b s2 st2 hb⟩
theorem est_tru {Pb : Bool → Prop} (h : EvS K p q te σ F H c (fun d => ∃ b, truthD d = some b ∧ Pb b)) : EvST K p q (tTru K te) σ F H c Pb := fun F1 H1 n s st hn Q k => h F1 H1 n s st hn _ fun F2 H2 v d s2 st2 hd rv => by
  obtain ⟨b, hb, pb⟩ := hd
  exact ⟨b, truV_of s2.fh rv hb, k F2 H2 b s2 st2 pb⟩
theorem est_t {b : Bool} (h : EvT K [p, q] tt σ F H b) : EvST K p q tt σ F H 0 (fun x => x = b) := fun F1 H1 n s st hn Q k => h F1 H1 s Q fun F2 H2 s2 => k F2 H2 b s2.up (st.pure s2) rfl
theorem est_not {Pb : Bool → Prop} (h : EvST K p q tt σ F H c Pb) : EvST K p q (tNot tt) σ F H c (fun b => Pb (!b)) := fun F1 H1 n s st hn Q k => h F1 H1 n s st hn _ fun F2 H2 b s2 st2 hb => k F2 H2 (!b) s2 st2 (by show Pb (!(!b)); rw [Bool.not_not]; exact hb)
theorem es_if {c1 c2 c3 : Nat} {Pb : Bool → Prop} (h : EvST K p q tt σ F H c1 Pb) (h1 : Pb true → EvS K p q ta σ F H c2 Pz) (h2 : Pb false → EvS K p q tb σ F H c3 Pz) : EvS K p q (tIf tt ta tb) σ F H (c1 + c2 + c3) Pz := fun F1 H1 n s st hn Q k =>
  h F1 H1 n s st (by omega) _ fun F2 H2 b s2 st2 hb => by
    cases b with
    | true => exact iteT (h1 hb F2 H2 _ (s.trans s2) st2 (by omega) Q fun F3 H3 v d s3 st3 hd rv => k F3 H3 v d (s2.trans s3) (st3.le (by omega)) hd rv)
    | false => exact iteF (h2 hb F2 H2 _ (s.trans s2) st2 (by omega) Q fun F3 H3 v d s3 st3 hd rv => k F3 H3 v d (s2.trans s3) (st3.le (by omega)) hd rv)
/-- a draw -/
theorem es_below {i m : Nat} {E : XK} (h : σ[i]? = some (some (.ref p))) (hm : EvD K [p, q] te σ F H (.int (m : Int))) (h1 : 1 ≤ m) (h2 : m < 1073741824) : EvS K p q (tCall (sp_law_below K) [] E (tCons (tVar i) (tCons te tNil))) σ F H 1 (fun d => ∃ r : Nat, r < m ∧ d = .int (r : Int)) := fun F1 H1 n s st hn Q k =>
  ⟨.ref p, h, hm F1 H1 s _ fun F2 H2 v s2 rv => by
    cases rv.int_of
    exact ⟨p, q, n, m, F2, rfl, s2.fh, st.pure s2, h1, h2, by omega, fun F' H' r s3 st3 hr => k F' H' _ _ (s2.up.trans s3) st3 ⟨r, hr, rfl⟩ (.int _)⟩⟩
/-- a pure def called with drawn data -/
theorem es_callP {ι : Type} {din : ι → List PyData} {dout : ι → PyData} {pre : ι → Prop} {E : XK} {ta : TA} {Pr : List PyData → Prop} (h : EvSA K p q ta σ F H c Pr) (hi : ∀ ds, Pr ds → ∃ i, din i = ds ∧ pre i ∧ Pz (dout i)) : EvS K p q (tCall (spP K din dout pre) [] E ta) σ F H c Pz := fun F1 H1 n s st hn Q k =>
  h F1 H1 n s st hn _ fun F2 H2 vs ds s2 st2 hds rs => by
    obtain ⟨i, hi, hp, pz⟩ := hi ds hds
    exact ⟨i, F2, s2.fh, by rw [List.append_nil, hi]; exact rs, hp, fun F' H' v s3 rv => k F' H' v _ (s2.trans s3.up) (st2.pure s3) pz rv⟩
/-- what holds of a comprehension's list that draws -/
def Sw (K : PySem.W.Frag) (p q : Addr) (F H : Hp) (n c : Nat) (Dl : Addr) (Pg : Nat → PyData → Prop) (i : Nat) (H' : Hp) : Prop :=
  ∃ F' vs ds, Sx [p, q] F H F' H' ∧ Stm F' H' p q (n + c * i) ∧ F' Dl = none ∧ H Dl = none ∧ Dl ≠ p ∧ Dl ≠ q ∧ H' Dl = some (.lst vs) ∧ RpAll K F' vs ds ∧ ds.length = i ∧ ∀ j d, ds[j]? = some d → Pg j d
theorem Stm.put {n : Nat} {l : Addr} {o : HO} (st : Stm F H p q n) (h1 : l ≠ p) (h2 : l ≠ q) : Stm F (upd H l o) p q n := by
  obtain ⟨cs, a, b, c, e1, e2, r⟩ := st
  exact ⟨cs, a, b, c, by rw [upd_ne h1.symm]; exact e1, by rw [upd_ne h2.symm]; exact e2, r⟩
theorem Stm.nep {n : Nat} {l : Addr} (st : Stm F H p q n) (h : H l = none) : l ≠ p ∧ l ≠ q := by
  obtain ⟨cs, a, b, c, e1, e2, r⟩ := st
  exact ⟨fun z => (by rw [z, e1] at h; cases h), fun z => (by rw [z, e2] at h; cases h)⟩
theorem es_lc {wi : TI} {gt : TG} {vs : List Nat} (m : Nat) (e : Nat → PyData) (P : Nat → L2.St → Hp → L2.St → Prop) (Pg : Nat → PyData → Prop) (h : EvW K [p, q] wi σ F H m e) (hz : m ≤ 1000000)
    (hP : ∀ i, i < m → TgD K gt (e i) (P i)) (hw : ∀ i, i < m → ∀ F1 σ', P i (wipe σ vs) F1 σ' → wipe σ' vs = wipe σ vs)
    (he : ∀ i, i < m → ∀ F1 H1 σ', Sx [p, q] F H F1 H1 → P i (wipe σ vs) F1 σ' → EvS K p q te σ' F1 H1 c (Pg i)) :
    EvS K p q (tLc wi gt tYes te vs) σ F H (c * m) (fun d => ∃ ds, d = .list ds ∧ ds.length = m ∧ ∀ j d, ds[j]? = some d → Pg j d) := fun F1 H1 n s st hn Q k => h F1 H1 s _ fun F2 H2 J s2 ⟨G, Y, wk, hG, hY⟩ => fun Dl hD => by
  have st2 := st.pure s2
  obtain ⟨nep, neq⟩ := st2.nep hD
  refine lc_it wk (fun i H' => Sw K p q F2 H2 n c Dl Pg i H') ⟨F2, [], [], Sx.newM s2.fh _ hD, by rw [Nat.mul_zero]; exact st2.put nep neq, none_of_same s2.fh hD, hD, nep, neq, upd_same, .nil, rfl, by simp⟩ (fun i H' _ ⟨F', _, _, s3, _⟩ => hG F' H' s3.ff s3.fh) (fun i v H' H'' hi w y => ?_) (fun H' ⟨F', us, ds, s3, st3, n1, n2, _, _, hD3, r3, hl, hd⟩ => ?_)
  · obtain ⟨F3, ws, ds, s3, st3, n1, n2, _, _, hD3, r3, hl, hd⟩ := w
    obtain ⟨F4, s4, rv⟩ := hY i H' v H'' hi y F3 s3.ff s3.fh
    have s04 : Sx [p, q] F H F4 H'' := ((s.trans s2.up).trans s3).trans s4.up
    refine hP i hi F4 H'' v _ s4.fh rv _ fun σ' hσ => ⟨hw i hi _ _ hσ, ?_⟩
    unfold tYes
    dsimp only
    rw [if_pos rfl]
    have hle : c * (i + 1) ≤ c * m := Nat.mul_le_mul_left c hi
    have hmul : c * (i + 1) = c * i + c := Nat.mul_succ c i
    refine he i hi F4 H'' σ' s04 hσ F4 H'' (n + c * i) (Sx.refl s4.fh) (st3.pure s4) (by omega) _ fun F6 H6 u d s6 st6 pd ru => ?_
    have hD4 : H'' Dl = some (.lst ws) := s4.hh _ _ (by simp) hD3
    have hD6 : H6 Dl = some (.lst ws) := s6.hh _ _ (by simp [nep, neq]) hD4
    have nF6 : F6 Dl = none := s6.sep _ (s4.sep _ n1 (by rw [hD3]; simp)) (by rw [hD4]; simp)
    refine ⟨ws, hD6, Nat.lt_of_le_of_lt (by rw [r3.length, hl]; omega) (by decide : 1000000 < sizeLine), F6, _, ds ++ [d], Sx.put ((s3.trans s4.up).trans s6) _ (.inr n2) nF6, ?_, nF6, n2, nep, neq, upd_same, ((r3.mono s4.ff).mono s6.ff).append (.one ru), by simp [hl], fun j d' hj => ?_⟩
    · rw [hmul, ← Nat.add_assoc]
      exact st6.put nep neq
    · rcases Nat.lt_or_ge j ds.length with hlt | hge
      · rw [List.getElem?_append_left hlt] at hj
        exact hd j d' hj
      · rw [List.getElem?_append_right hge] at hj
        have : j - ds.length = 0 := by
          rcases Nat.eq_zero_or_pos (j - ds.length) with h | h
          · exact h
          · rw [List.getElem?_eq_none (by simp; omega)] at hj; cases hj
        rw [this] at hj
        simp at hj
        subst hj
        rw [show j = i by omega]
        exact pd
  · exact k (upd F' Dl (.lst us)) H' _ _ (Sx.fix (s2.up.trans s3) (Same.free s2.same n2) hD3 n1) (by
      obtain ⟨cs, a, b, cc, e1, e2, f1, f2, r⟩ := st3
      exact ⟨cs, a, b, cc, e1, e2, by rw [upd_ne nep.symm]; exact f1, by rw [upd_ne neq.symm]; exact f2, r⟩) ⟨ds, rfl, hl, hd⟩ (.lst upd_same (r3.mono (fix_same n1)))
/-! statements that draw -/
theorem qs_set {n i : Nat} (e : Same F H) (st : Stm F H p q n) (h : EvS K p q te σ F H c Px) (hn : n + c ≤ 1000000000) (k : ∀ F1 H1 v d, Sx [p, q] F H F1 H1 → Stm F1 H1 p q (n + c) → Px d → Rp K F1 v d → tw D (σ.set i (some v)) H1) : tSeq (tAsg te (gName i)) tw D σ H :=
  h F H n (Sx.refl e) st hn _ fun F1 H1 v d s st1 hd rv => k F1 H1 v d s st1 hd rv
theorem qs_asg {n : Nat} {g : TG} {P : PyData → L2.St → Hp → L2.St → Prop} (hg : ∀ d, Px d → TgD K g d (P d)) (e : Same F H) (st : Stm F H p q n) (h : EvS K p q te σ F H c Px) (hn : n + c ≤ 1000000000) (k : ∀ F1 H1 σ' d, Sx [p, q] F H F1 H1 → Stm F1 H1 p q (n + c) → Px d → P d σ F1 σ' → tw D σ' H1) : tSeq (tAsg te g) tw D σ H :=
  h F H n (Sx.refl e) st hn _ fun F1 H1 v d s st1 hd rv => hg d hd F1 H1 v σ s.fh rv _ fun σ' hσ => k F1 H1 σ' d s st1 hd hσ
theorem qs_par {n i j : Nat} {ta : TA} {Pr : PyData → PyData → Prop} (e : Same F H) (st : Stm F H p q n) (h : EvSA K p q ta σ F H c (fun ds => ∃ x y, ds = [x, y] ∧ Pr x y)) (hn : n + c ≤ 1000000000) (k : ∀ F1 H1 v w x y, Sx [p, q] F H F1 H1 → Stm F1 H1 p q (n + c) → Pr x y → Rp K F1 v x → Rp K F1 w y → tw D ((σ.set i (some v)).set j (some w)) H1) : tSeq (tPar i j ta) tw D σ H :=
  h F H n (Sx.refl e) st hn _ fun F1 H1 vs ds s st1 ⟨x, y, hd, hp⟩ rs => by
    subst hd
    obtain ⟨v, w, rfl, r1, r2⟩ := rs.inv2
    exact ⟨v, w, rfl, k F1 H1 v w x y s st1 hp r1 r2⟩
theorem ss_ret {n : Nat} (e : Same F H) (st : Stm F H p q n) (h : EvS K p q te σ F H c Px) (hn : n + c ≤ 1000000000) (k : ∀ F1 H1 v d, Sx [p, q] F H F1 H1 → Stm F1 H1 p q (n + c) → Px d → Rp K F1 v d → D.rt v H1) : tRet te D σ H :=
  h F H n (Sx.refl e) st hn _ fun F1 H1 v d s st1 hd rv => k F1 H1 v d s st1 hd rv
theorem qs_if {n : Nat} {Pb : Bool → Prop} {tv : TS} (e : Same F H) (st : Stm F H p q n) (h : EvST K p q tt σ F H c Pb) (hn : n + c ≤ 1000000000) (h1 : Pb true → ∀ F1 H1, Sx [p, q] F H F1 H1 → Stm F1 H1 p q (n + c) → tw { D with nx := tv D } σ H1) (h2 : Pb false → ∀ F1 H1, Sx [p, q] F H F1 H1 → Stm F1 H1 p q (n + c) → tz { D with nx := tv D } σ H1) : tSeq (tIfS tt tw tz) tv D σ H :=
  h F H n (Sx.refl e) st hn _ fun F1 H1 b s st1 hb => by
    cases b with
    | true => exact iteT (h1 hb F1 H1 s st1)
    | false => exact iteF (h2 hb F1 H1 s st1)
end
end Sf

/-! the law's own hands: chance, same, loose -/
namespace Sf
open PySem L2 RZ
/-! evaluation, construct by construct -/
local macro_rules | `(tactic| walk_at "rp") => `(tactic| first | assumption | exact .int _ | exact .bl _ | exact .str _ | exact .non | exact Rp.mono (Sx.ff (by assumption)) (by walk_at "rp"))
local macro_rules | `(tactic| walk_at "sc") => `(tactic| first | rfl | assumption | omega | decide | (simp; done) | (simp; omega))
local macro_rules | `(tactic| walk_at "ix") => `(tactic| first | rfl | assumption)
local macro_rules | `(tactic| walk_at "rv") => `(tactic| first
  | exact xAddI | exact xSub | exact xLt | exact xLe | exact xGt | exact xGe | exact xIsN | exact xNotN | exact xEqI | exact xNeI | exact xEqB | exact xNeB | exact xEqLB | exact xEqTB | exact xNeTB
  | exact xMod (by walk_at "sc")
  | exact xDiv (by walk_at "sc")
  | exact xPow (by walk_at "sc")
  | exact xMulI (by walk_at "sc")
  | exact rv_ixt (by walk_at "ix")
  | exact rv_ixl (by walk_at "ix")
  | exact xAddL (by walk_at "sc")
  | exact xAddT (by walk_at "sc"))
local macro_rules | `(tactic| walk_at "rc") => `(tactic| first | exact xLenL | exact xLenT | exact xListL | exact xListT | exact xTupL | exact xTupT | exact xMax2 | exact xInt | exact rc_all | exact rc_any)
local macro_rules | `(tactic| walk_at "ea") => `(tactic| first | exact ea_nil | refine ea_cons (by walk_at "ev") (by walk_at "ea"))
local macro_rules | `(tactic| walk_at "eo") => `(tactic| first | exact eo_none | refine eo_some (by walk_at "ev"))
local macro_rules | `(tactic| walk_at "et") => `(tactic| first
  | ((with_reducible show EvT _ _ (tTest _) _ _ _ _); exact et_test (by walk_at "ev"))
  | ((with_reducible show EvT _ _ (tNot _) _ _ _ _); exact et_not (by walk_at "et"))
  | ((with_reducible show EvT _ _ (tAnd _ _) _ _ _ _); exact et_and (by walk_at "et") (fun hh => by walk_at "et"))
  | ((with_reducible show EvT _ _ (tOr _ _) _ _ _ _); exact et_or (by walk_at "et") (fun hh => by walk_at "et"))
  | ((with_reducible show EvT _ _ (tTru _ _) _ _ _ _); exact xTru (by walk_at "ev") (by walk_at "sc"))
  | ((with_reducible show EvT _ _ tYes _ _ _ _); exact et_yes))
local macro_rules | `(tactic| walk_at "ev") => `(tactic| first
  | ((with_reducible show EvD _ _ (tC _) _ _ _ _); first | exact ev_int | exact ev_bl | exact ev_str | exact ev_non)
  | ((with_reducible show EvD _ _ (tVar _) _ _ _ _); exact ev_var (by rfl) (by walk_at "rp"))
  | ((with_reducible show EvD _ _ (tOp _ _ _) _ _ _ _); exact ev_op (by walk_at "ev") (by walk_at "ev") (by walk_at "rv"))
  | ((with_reducible show EvD _ _ (tUn _ _) _ _ _ _); exact ev_un (by walk_at "ev") xNeg)
  | ((with_reducible show EvD _ _ (tCB _ _) _ _ _ _); exact ev_cb (by walk_at "ea") (by walk_at "rc"))
  | ((with_reducible show EvD _ _ (tTup _) _ _ _ _); exact ev_tup (by walk_at "ea") (by walk_at "sc"))
  | ((with_reducible show EvD _ _ (tLst _) _ _ _ _); exact ev_lst (by walk_at "ea") (by walk_at "sc"))
  | ((with_reducible show EvD _ _ (tSl _ _ _ _) _ _ _ _); first | exact xSlL (by walk_at "ev") (by walk_at "eo") (by walk_at "eo") | exact xSlT (by walk_at "ev") (by walk_at "eo") (by walk_at "eo"))
  | ((with_reducible show EvD _ _ (tNotT _ _) _ _ _ _); exact ev_notT (by walk_at "ev") (by walk_at "sc"))
  | ((with_reducible show EvD _ _ (tAndT _ _ _) _ _ _ _); exact ev_andB (by walk_at "ev") (fun hh => by walk_at "ev"))
  | ((with_reducible show EvD _ _ (tOrT _ _ _) _ _ _ _); exact ev_orB (by walk_at "ev") (fun hh => by walk_at "ev")))

/-- plain data: no dict, texts of codes, no deeper than n, no list too long -/
inductive Pl : Nat → PyData → Prop where
  | non {n : Nat} : Pl n .none
  | bool {n : Nat} {b : Bool} : Pl n (.bool b)
  | int {n : Nat} {i : Int} : Pl n (.int i)
  | str {n : Nat} {x : Str} (h : PyData.strOk x = true) : Pl n (.str x)
  | list {n : Nat} {ds : List PyData} (h : ∀ d, d ∈ ds → Pl n d) (hl : ds.length ≤ 1000000) : Pl (n + 1) (.list ds)
  | tuple {n : Nat} {ds : List PyData} (h : ∀ d, d ∈ ds → Pl n d) (hl : ds.length ≤ 1000000) : Pl (n + 1) (.tuple ds)
theorem Pl.lay {n : Nat} {d : PyData} (h : Pl n d) : Lay n d := by
  induction h with
  | non => exact .non
  | bool => exact .bool
  | int => exact .int
  | str h => exact ⟨by simpa [PyData.canLay0] using h, by simp [PyData.depth]⟩
  | list h _ ih => exact Lay.list ih
  | tuple h _ ih => exact Lay.tuple ih
theorem Pl.up {n : Nat} {d : PyData} (h : Pl n d) : Pl (n + 1) d := by
  induction h with
  | non => exact .non
  | bool => exact .bool
  | int => exact .int
  | str h => exact .str h
  | list h hl ih => exact .list ih hl
  | tuple h hl ih => exact .tuple ih hl
theorem Pl.le {n m : Nat} {d : PyData} (h : Pl n d) (hm : n ≤ m) : Pl m d := by
  induction m with
  | zero => rw [Nat.le_zero.mp hm] at h; exact h
  | succ m ih =>
    rcases Nat.lt_or_eq_of_le hm with h1 | h1
    · exact (ih (by omega)).up
    · rw [← h1]; exact h
theorem Pl.bools {n : Nat} {bs : List Bool} : ∀ d, d ∈ bs.map PyData.bool → Pl n d := fun d h => by
  obtain ⟨b, _, rfl⟩ := List.mem_map.mp h
  exact .bool
theorem Pl.ints {n : Nat} {α : Type} {f : α → Int} {bs : List α} : ∀ d, d ∈ bs.map (fun a => PyData.int (f a)) → Pl n d := fun d h => by
  obtain ⟨b, _, rfl⟩ := List.mem_map.mp h
  exact .int
theorem Pl.one {n : Nat} {d : PyData} (h : Pl n d) : ∀ e, e ∈ [d] → Pl n e := fun e he => by
  rw [List.mem_singleton] at he; rw [he]; exact h
theorem Pl.cons {n : Nat} {d : PyData} {ds : List PyData} (h : Pl n d) (hs : ∀ e, e ∈ ds → Pl n e) : ∀ e, e ∈ d :: ds → Pl n e := fun e he => by
  rcases List.mem_cons.mp he with rfl | he
  · exact h
  · exact hs e he
theorem Pl.nil {n : Nat} : ∀ e, e ∈ ([] : List PyData) → Pl n e := fun e he => by cases he
section
variable {K : PySem.W.Frag} {F H F' H' F1 H1 F2 H2 : Hp} {M : List Addr} {σ : L2.St} {te ta tb tc tl : TE} {tt tu : TT} {d x y z : PyData} {r r' : R2} {D : Ends} {tw tz : TS}
/-! ### _law_chance -/
def sp_law_chance (K : PySem.W.Frag) : Sp := fun vs H Q _ => ∃ (p q : Addr) (n m : Nat) (F : Hp), vs = [.ref p, .int (m : Int)] ∧ Same F H ∧ Stm F H p q n ∧ 1 ≤ m ∧ m < 1073741824 ∧ n + 1 ≤ 1000000000 ∧
  ∀ F' H' (b : Bool), Sx [p, q] F H F' H' → Stm F' H' p q (n + 1) → Q (.bl b) H'
theorem len_law_chance {vs : List V} {Q : VK} {E : XK} (h : sp_law_chance K vs H Q E) : vs.length = ["stream", "many"].length := by
  obtain ⟨p, q, n, m, F, rfl, _⟩ := h
  rfl
abbrev N_law_chance : List Str := ["stream", "many"]
def t_law_chance (K : PySem.W.Frag) : TS :=
  (tRet (tOp (rEqD K) (tCall (sp_law_below K) [] E0 (tCons (tVar 0) (tCons (tVar 1) tNil))) (tC (.int 0))))
theorem rd_law_chance {vs : List V} {Q : VK} {E : XK} (h : sp_law_chance K vs H Q E) : t_law_chance K { nx := fun _ H' => Q .non H', rt := Q } (L2.start N_law_chance vs) H := by
  obtain ⟨p, q, n, m, F, rfl, e, st, h1, h2, hn, k⟩ := h
  refine ss_ret (K := K) e st (es_op (Pz := fun z => ∃ b, z = .bool b) (es_below rfl (ev_var rfl (.int (m : Int))) h1 h2) (es_d ev_int) ?_) (by omega) fun F1 H1 v d s st1 ⟨b, hd⟩ rv => ?_
  · rintro _ _ ⟨r, _, rfl⟩ rfl
    exact ⟨_, xEqI, _, rfl⟩
  · subst hd
    cases rv.bl_of
    exact k F1 H1 b s st1
theorem es_chance {p q : Addr} {i m : Nat} {E : XK} (h : σ[i]? = some (some (.ref p))) (hm : EvD K [p, q] te σ F H (.int (m : Int))) (h1 : 1 ≤ m) (h2 : m < 1073741824) : EvS K p q (tCall (sp_law_chance K) [] E (tCons (tVar i) (tCons te tNil))) σ F H 1 (fun d => ∃ b, d = .bool b) := fun F1 H1 n s st hn Q k =>
  ⟨.ref p, h, hm F1 H1 s _ fun F2 H2 v s2 rv => by
    cases rv.int_of
    exact ⟨p, q, n, m, F2, rfl, s2.fh, st.pure s2, h1, h2, by omega, fun F' H' b s3 st3 => k F' H' _ _ (s2.up.trans s3) st3 ⟨b, rfl⟩ (.bl _)⟩⟩
/-! ### _law_same -/
def spn_law_same (n : Nat) (K : PySem.W.Frag) : Sp := fun vs H Q _ => ∃ (F : Hp) (v w : V) (d : PyData), vs = [v, w] ∧ Same F H ∧ Rp K F v d ∧ Rp K F w d ∧ Pl n d ∧ ∀ F' H', Sx [] F H F' H' → Q (.bl true) H'
def rc_law_same : Nat → PySem.W.Frag → Sp
  | 0, _ => fun _ _ _ _ => False
  | n + 1, K => spn_law_same n K
def sp_law_same (K : PySem.W.Frag) : Sp := spn_law_same 8 K
theorem len_law_same {n : Nat} {vs : List V} {Q : VK} {E : XK} (h : spn_law_same n K vs H Q E) : vs.length = ["found", "due"].length := by
  obtain ⟨F, v, w, d, rfl, _⟩ := h
  rfl
abbrev N_law_same : List Str := ["found", "due", "x", "y"]
def t_law_same (K : PySem.W.Frag) (rc : Sp) : TS :=
  (tSeq (tIfS (tTru K (tIsT K (tVar 1) ["list", "tuple"]))
   (tSeq (tIfS (tOr (tTest (tOp (rNeD K) (tIs K (tVar 0) "list") (tIs K (tVar 1) "list"))) (tTest (tOp (rNeD K) (tIs K (tVar 0) "tuple") (tIs K (tVar 1) "tuple"))))
     (tRet (tC (.bl false)))
     tNext)
    (tRet (tAndT K (tOp (rEqD K) (tCB (rLen K) (tCons (tVar 0) tNil)) (tCB (rLen K) (tCons (tVar 1) tNil))) (tCB (rAll K) (tCons (tLc (iZipA K (tCons (tVar 0) (tCons (tVar 1) tNil))) (gTup K 2 (gCons (gName 2) (gCons (gName 3) gNil))) tYes (tCall rc [] E0 (tCons (tVar 2) (tCons (tVar 3) tNil))) [2, 3]) tNil)))))
   tNext)
  (tSeq (tIfS (tTru K (tIs K (tVar 1) "dict"))
   tNever
   tNext)
  (tSeq (tIfS (tTru K (tIs K (tVar 1) "int"))
   (tRet (tAndT K (tIs K (tVar 0) "int") (tAndT K (tOp (rEqD K) (tIs K (tVar 0) "bool") (tIs K (tVar 1) "bool")) (tOp (rEqD K) (tVar 0) (tVar 1)))))
   tNext)
  (tSeq (tIfS (tTest (tOp rIsN (tVar 1) (tC (.non))))
   (tRet (tOp rIsN (tVar 0) (tC (.non))))
   tNext)
  (tSeq (tIfS (tTru K (tIs K (tVar 1) "str"))
   (tRet (tAndT K (tIs K (tVar 0) "str") (tOp (rEqD K) (tVar 0) (tVar 1))))
   tNext)
  tNever)))))
theorem ev_samen {n : Nat} {E : XK} (ha : EvD K M ta σ F H d) (hb : EvD K M tb σ F H d) (h : Pl n d) : EvD K M (tCall (spn_law_same n K) [] E (tCons ta (tCons tb tNil))) σ F H (.bool true) := fun F1 H1 s Q q =>
  ha F1 H1 s _ fun F2 H2 v s2 rv => hb F2 H2 (s.trans s2.up) _ fun F3 H3 w s3 rw => ⟨F3, v, w, d, rfl, s3.fh, rv.mono s3.ff, rw, h, fun F' H' s4 => q F' H' _ ((s2.trans s3).trans s4) (.bl _)⟩
theorem ev_same {E : XK} (ha : EvD K M ta σ F H d) (hb : EvD K M tb σ F H d) (h : Pl 8 d) : EvD K M (tCall (sp_law_same K) [] E (tCons ta (tCons tb tNil))) σ F H (.bool true) := ev_samen ha hb h
theorem all_true (n : Nat) : ((List.range n).filter fun _ => true).map (fun _ => PyData.bool true) = (List.replicate n true).map PyData.bool := by
  rw [filter_yes, List.map_const', List.map_replicate, List.length_range]
theorem kB (t n : String) (b : Bool) (h : kitB t n = some b) : kitB t n = some b := h
theorem rd_law_same (n : Nat) {vs : List V} {Q : VK} {E : XK} (h : spn_law_same n K vs H Q E) : t_law_same K (rc_law_same n K) { nx := fun _ H' => Q .non H', rt := Q } (L2.start N_law_same vs) H := by
  obtain ⟨F, v, w, d, rfl, e, hv, hw, hp, k⟩ := h
  cases hp with
  | non =>
    refine q_when (K := K) (M := []) (b := false) e (xTru (xIsT' "NoneType" (d := .none) (by walk_at "ev") rfl (by decide +kernel) (by decide +kernel) (by decide)) rfl) (fun hb => absurd hb (by decide)) fun _ F1 H1 s1 => ?_
    refine q_when (K := K) (M := []) (b := false) s1.fh (xTru (xIs "NoneType" (d := .none) (by walk_at "ev") rfl (by decide +kernel)) rfl) (fun hb => absurd hb (by decide)) fun _ F2 H2 s2 => ?_
    refine q_when (K := K) (M := []) (b := false) s2.fh (xTru (xIs "NoneType" (d := .none) (by walk_at "ev") rfl (by decide +kernel)) rfl) (fun hb => absurd hb (by decide)) fun _ F3 H3 s3 => ?_
    refine q_when (K := K) (M := []) (b := true) s3.fh (et_test (EvD.is (ev_op (x := .none) (by walk_at "ev") ev_non xIsN) rfl)) (fun _ F4 H4 s4 => ?_) (fun hb => absurd hb (by decide))
    exact st_ret (K := K) (M := []) (d := .bool true) s4.fh (EvD.is (ev_op (x := .none) (by walk_at "ev") ev_non xIsN) rfl) fun F5 H5 u s5 ru => by cases ru.bl_of; exact k _ _ ((((s1.trans s2).trans s3).trans s4).trans s5)
  | @bool _ b =>
    refine q_when (K := K) (M := []) (b := false) e (xTru (xIsT' "bool" (d := .bool b) (by walk_at "ev") rfl (by decide +kernel) (by decide +kernel) (by decide)) rfl) (fun hb => absurd hb (by decide)) fun _ F1 H1 s1 => ?_
    refine q_when (K := K) (M := []) (b := false) s1.fh (xTru (xIs "bool" (d := .bool b) (by walk_at "ev") rfl (by decide +kernel)) rfl) (fun hb => absurd hb (by decide)) fun _ F2 H2 s2 => ?_
    refine q_when (K := K) (M := []) (b := true) s2.fh (xTru (xIs "bool" (d := .bool b) (by walk_at "ev") rfl (by decide +kernel)) rfl) (fun _ F3 H3 s3 => ?_) (fun hb => absurd hb (by decide))
    exact st_ret (K := K) (M := []) (d := .bool (true && (decide (true = true) && decide (b = b)))) s3.fh (ev_andB (xIs "bool" (d := .bool b) (by walk_at "ev") rfl (by decide +kernel)) fun _ => ev_andB (ev_op (xIs "bool" (d := .bool b) (by walk_at "ev") rfl (by decide +kernel)) (xIs "bool" (d := .bool b) (by walk_at "ev") rfl (by decide +kernel)) xEqB) fun _ => ev_op (x := .bool b) (by walk_at "ev") (y := .bool b) (by walk_at "ev") xEqB) fun F5 H5 u s5 ru => by rw [decide_eq_true rfl, decide_eq_true rfl] at ru; cases ru.bl_of; exact k _ _ (((s1.trans s2).trans s3).trans s5)
  | @int _ i =>
    refine q_when (K := K) (M := []) (b := false) e (xTru (xIsT' "int" (d := .int i) (by walk_at "ev") rfl (by decide +kernel) (by decide +kernel) (by decide)) rfl) (fun hb => absurd hb (by decide)) fun _ F1 H1 s1 => ?_
    refine q_when (K := K) (M := []) (b := false) s1.fh (xTru (xIs "int" (d := .int i) (by walk_at "ev") rfl (by decide +kernel)) rfl) (fun hb => absurd hb (by decide)) fun _ F2 H2 s2 => ?_
    refine q_when (K := K) (M := []) (b := true) s2.fh (xTru (xIs "int" (d := .int i) (by walk_at "ev") rfl (by decide +kernel)) rfl) (fun _ F3 H3 s3 => ?_) (fun hb => absurd hb (by decide))
    exact st_ret (K := K) (M := []) (d := .bool (true && (decide (false = false) && decide (i = i)))) s3.fh (ev_andB (xIs "int" (d := .int i) (by walk_at "ev") rfl (by decide +kernel)) fun _ => ev_andB (ev_op (xIs "int" (d := .int i) (by walk_at "ev") rfl (by decide +kernel)) (xIs "int" (d := .int i) (by walk_at "ev") rfl (by decide +kernel)) xEqB) fun _ => ev_op (x := .int i) (by walk_at "ev") (y := .int i) (by walk_at "ev") xEqI) fun F5 H5 u s5 ru => by rw [decide_eq_true rfl, decide_eq_true rfl] at ru; cases ru.bl_of; exact k _ _ (((s1.trans s2).trans s3).trans s5)
  | @str _ x hx =>
    have hsh : SeqAt.shaped (.str x) = true := (Pl.str (n := 0) hx).lay.shaped (by decide)
    refine q_when (K := K) (M := []) (b := false) e (xTru (xIsT' "str" (d := .str x) (by walk_at "ev") rfl (by decide +kernel) (by decide +kernel) (by decide)) rfl) (fun hb => absurd hb (by decide)) fun _ F1 H1 s1 => ?_
    refine q_when (K := K) (M := []) (b := false) s1.fh (xTru (xIs "str" (d := .str x) (by walk_at "ev") rfl (by decide +kernel)) rfl) (fun hb => absurd hb (by decide)) fun _ F2 H2 s2 => ?_
    refine q_when (K := K) (M := []) (b := false) s2.fh (xTru (xIs "str" (d := .str x) (by walk_at "ev") rfl (by decide +kernel)) rfl) (fun hb => absurd hb (by decide)) fun _ F3 H3 s3 => ?_
    refine q_when (K := K) (M := []) (b := false) s3.fh (et_test (EvD.is (ev_op (x := .str x) (by walk_at "ev") ev_non xIsN) rfl)) (fun hb => absurd hb (by decide)) fun _ F4 H4 s4 => ?_
    refine q_when (K := K) (M := []) (b := true) s4.fh (xTru (xIs "str" (d := .str x) (by walk_at "ev") rfl (by decide +kernel)) rfl) (fun _ F5 H5 s5 => ?_) (fun hb => absurd hb (by decide))
    exact st_ret (K := K) (M := []) (d := .bool (true && PyData.eqv (.str x) (.str x))) s5.fh (ev_andB (xIs "str" (d := .str x) (by walk_at "ev") rfl (by decide +kernel)) fun _ => ev_op (x := .str x) (by walk_at "ev") (y := .str x) (by walk_at "ev") (rv_eqD hsh hsh)) fun F6 H6 u s6 ru => by
      rw [SeqAt.eqv_refl _ (Pl.str (n := 0) hx).lay.1] at ru; cases ru.bl_of; exact k _ _ (((((s1.trans s2).trans s3).trans s4).trans s5).trans s6)
  | @list m ds hd hl =>
    refine q_when (K := K) (M := []) (b := true) e (xTru (xIsT' "list" (d := .list ds) (by walk_at "ev") rfl (by decide +kernel) (by decide +kernel) (by decide)) rfl) (fun _ F1 H1 s1 => ?_) (fun hb => absurd hb (by decide))
    refine q_when (K := K) (M := []) (b := !decide (true = true) || !decide (false = false)) s1.fh (et_or (et_test (ev_op (xIs "list" (d := .list ds) (by walk_at "ev") rfl (by decide +kernel)) (xIs "list" (d := .list ds) (by walk_at "ev") rfl (by decide +kernel)) xNeB)) fun _ => et_test (ev_op (xIs "list" (d := .list ds) (by walk_at "ev") rfl (by decide +kernel)) (xIs "list" (d := .list ds) (by walk_at "ev") rfl (by decide +kernel)) xNeB)) (fun hb => absurd hb (by decide)) fun _ F2 H2 s2 => ?_
    refine st_ret (K := K) (M := []) (d := .bool (decide ((ds.length : Int) = (ds.length : Int)) && (List.replicate ds.length true).all id)) s2.fh (ev_andB (ev_op (ev_cb (ea_cons (x := .list ds) (by walk_at "ev") ea_nil) xLenL) (ev_cb (ea_cons (x := .list ds) (by walk_at "ev") ea_nil) xLenL) xEqI) fun _ => ev_cb (ea_cons (EvD.is (EvN.ev (en_lc ds.length (fun i => .tuple [ds.getD i .none, ds.getD i .none]) (fun _ => .bool true) (fun _ => true) (fun i => Nm2 K 2 3 (ds.getD i .none) (ds.getD i .none)) (ew_zipL (ds := ds) (es := ds) (e := fun i => ds.getD i .none) (e' := fun i => ds.getD i .none) (by walk_at "ea") (by simp) (fun i hi => by simp [List.getD_eq_getElem?_getD, hi]) (fun i hi => by simp [List.getD_eq_getElem?_getD, hi])) hl (fun _ _ => tg_nm2) ?_ (fun _ _ _ _ _ _ _ => et_yes) ?_)) (congrArg PyData.list (all_true _))) ea_nil) rc_all) fun F5 H5 u s5 ru => by
        rw [decide_eq_true rfl, show (List.replicate ds.length true).all id = true by simp] at ru; cases ru.bl_of; exact k _ _ ((s1.trans s2).trans s5)
    · rintro i _ F1 _ ⟨a, b, _, _, rfl⟩; rfl
    · rintro i hi _ F4 H4 _ s4 ⟨a, b, ha, hb, rfl⟩
      exact ev_samen (ev_var rfl ha) (ev_var rfl hb) (hd _ (by simp [List.getD_eq_getElem?_getD, hi]))
  | @tuple m ds hd hl =>
    refine q_when (K := K) (M := []) (b := true) e (xTru (xIsT' "tuple" (d := .tuple ds) (by walk_at "ev") rfl (by decide +kernel) (by decide +kernel) (by decide)) rfl) (fun _ F1 H1 s1 => ?_) (fun hb => absurd hb (by decide))
    refine q_when (K := K) (M := []) (b := !decide (false = false) || !decide (true = true)) s1.fh (et_or (et_test (ev_op (xIs "tuple" (d := .tuple ds) (by walk_at "ev") rfl (by decide +kernel)) (xIs "tuple" (d := .tuple ds) (by walk_at "ev") rfl (by decide +kernel)) xNeB)) fun _ => et_test (ev_op (xIs "tuple" (d := .tuple ds) (by walk_at "ev") rfl (by decide +kernel)) (xIs "tuple" (d := .tuple ds) (by walk_at "ev") rfl (by decide +kernel)) xNeB)) (fun hb => absurd hb (by decide)) fun _ F2 H2 s2 => ?_
    refine st_ret (K := K) (M := []) (d := .bool (decide ((ds.length : Int) = (ds.length : Int)) && (List.replicate ds.length true).all id)) s2.fh (ev_andB (ev_op (ev_cb (ea_cons (x := .tuple ds) (by walk_at "ev") ea_nil) xLenT) (ev_cb (ea_cons (x := .tuple ds) (by walk_at "ev") ea_nil) xLenT) xEqI) fun _ => ev_cb (ea_cons (EvD.is (EvN.ev (en_lc ds.length (fun i => .tuple [ds.getD i .none, ds.getD i .none]) (fun _ => .bool true) (fun _ => true) (fun i => Nm2 K 2 3 (ds.getD i .none) (ds.getD i .none)) (ew_zipT (ds := ds) (es := ds) (e := fun i => ds.getD i .none) (e' := fun i => ds.getD i .none) (by walk_at "ea") (by simp) (fun i hi => by simp [List.getD_eq_getElem?_getD, hi]) (fun i hi => by simp [List.getD_eq_getElem?_getD, hi])) hl (fun _ _ => tg_nm2) ?_ (fun _ _ _ _ _ _ _ => et_yes) ?_)) (congrArg PyData.list (all_true _))) ea_nil) rc_all) fun F5 H5 u s5 ru => by
        rw [decide_eq_true rfl, show (List.replicate ds.length true).all id = true by simp] at ru; cases ru.bl_of; exact k _ _ ((s1.trans s2).trans s5)
    · rintro i _ F1 _ ⟨a, b, _, _, rfl⟩; rfl
    · rintro i hi _ F4 H4 _ s4 ⟨a, b, ha, hb, rfl⟩
      exact ev_samen (ev_var rfl ha) (ev_var rfl hb) (hd _ (by simp [List.getD_eq_getElem?_getD, hi]))
/-! ### _law_loose -/
mutual
/-- how many draws a thing wants to be told loosely -/
def cst : PyData → Nat
  | .list ds => mxc ds * ds.length + 1
  | .tuple ds => mxc ds * ds.length + 1
  | _ => 0
def mxc : List PyData → Nat
  | [] => 0
  | d :: ds => max (cst d) (mxc ds)
end
theorem cst_le : ∀ {ds : List PyData} {d : PyData}, d ∈ ds → cst d ≤ mxc ds
  | [], _, h => by cases h
  | e :: ds, d, h => by
    rw [mxc]
    rcases List.mem_cons.mp h with rfl | h
    · omega
    · have := cst_le h; omega
/-- the same but for lists and tuples -/
inductive Loose : PyData → PyData → Prop where
  | atom {d : PyData} (h : (∀ ds, d ≠ .list ds) ∧ (∀ ds, d ≠ .tuple ds)) : Loose d d
  | row {ds es : List PyData} {d d' : PyData} (hd : d = .list ds ∨ d = .tuple ds) (he : d' = .list es ∨ d' = .tuple es) (hl : ds.length = es.length) (h : ∀ (i : Nat) x y, ds[i]? = some x → es[i]? = some y → Loose x y) : Loose d d'
def spn_law_loose (n : Nat) (K : PySem.W.Frag) : Sp := fun vs H Q _ => ∃ (p q : Addr) (m : Nat) (F : Hp) (v : V) (d : PyData), vs = [.ref p, v] ∧ Same F H ∧ Stm F H p q m ∧ Rp K F v d ∧ Pl n d ∧ m + cst d ≤ 1000000000 ∧
  ∀ F' H' v' d', Sx [p, q] F H F' H' → Stm F' H' p q (m + cst d) → Loose d d' → Rp K F' v' d' → Q v' H'
def rc_law_loose : Nat → PySem.W.Frag → Sp
  | 0, _ => fun _ _ _ _ => False
  | n + 1, K => spn_law_loose n K
def sp_law_loose (K : PySem.W.Frag) : Sp := spn_law_loose 8 K
theorem len_law_loose {n : Nat} {vs : List V} {Q : VK} {E : XK} (h : spn_law_loose n K vs H Q E) : vs.length = ["stream", "thing"].length := by
  obtain ⟨p, q, m, F, v, d, rfl, _⟩ := h
  rfl
abbrev N_law_loose : List Str := ["stream", "thing", "found", "part", "key"]
def t_law_loose (K : PySem.W.Frag) (rc : Sp) : TS :=
  (tSeq (tIfS (tTru K (tIs K (tVar 1) "dict"))
   tNever
   tNext)
  (tSeq (tIfS (tNot (tTru K (tIsT K (tVar 1) ["list", "tuple"])))
   (tRet (tVar 1))
   tNext)
  (tSeq (tAsg (tLc (iSeq K (tVar 1)) (gName 3) tYes (tCall rc [] E0 (tCons (tVar 0) (tCons (tVar 3) tNil))) [3]) (gName 2))
  (tRet (tIf (tTest (tOp (rEqD K) (tCall (sp_law_below K) [] E0 (tCons (tVar 0) (tCons (tC (.int 2)) tNil))) (tC (.int 0)))) (tVar 2) (tCB (rTupleOf K) (tCons (tVar 2) tNil)))))))
theorem es_loosen {n i : Nat} {p q : Addr} {E : XK} (h : σ[i]? = some (some (.ref p))) (hb : EvD K [p, q] tb σ F H d) (hp : Pl n d) : EvS K p q (tCall (spn_law_loose n K) [] E (tCons (tVar i) (tCons tb tNil))) σ F H (cst d) (Loose d) := fun F1 H1 m s st hn Q k =>
  ⟨.ref p, h, hb F1 H1 s _ fun F2 H2 v s2 rv => ⟨p, q, m, F2, v, d, rfl, s2.fh, st.pure s2, rv, hp, hn, fun F' H' v' d' s3 st3 hl rv' => k F' H' v' d' (s2.up.trans s3) st3 hl rv'⟩⟩
theorem es_loose {i : Nat} {p q : Addr} {E : XK} (h : σ[i]? = some (some (.ref p))) (hb : EvD K [p, q] tb σ F H d) (hp : Pl 8 d) : EvS K p q (tCall (sp_law_loose K) [] E (tCons (tVar i) (tCons tb tNil))) σ F H (cst d) (Loose d) := es_loosen h hb hp
/-- the end of a row -/
theorem loose_row {n : Nat} {p q : Addr} {m : Nat} {v : V} {ds : List PyData} {Q : VK} (hd : d = .list ds ∨ d = .tuple ds) (hl : ds.length ≤ 1000000) (hp : ∀ e, e ∈ ds → Pl n e) (e : Same F H) (st : Stm F H p q m) (hv : Rp K F v d) (hc : m + (mxc ds * ds.length + 1) ≤ 1000000000)
    (k : ∀ F' H' v' d', Sx [p, q] F H F' H' → Stm F' H' p q (m + (mxc ds * ds.length + 1)) → Loose d d' → Rp K F' v' d' → Q v' H') :
    (tSeq (tAsg (tLc (iSeq K (tVar 1)) (gName 3) tYes (tCall (spn_law_loose n K) [] E0 (tCons (tVar 0) (tCons (tVar 3) tNil))) [3]) (gName 2))
      (tRet (tIf (tTest (tOp (rEqD K) (tCall (sp_law_below K) [] E0 (tCons (tVar 0) (tCons (tC (.int 2)) tNil))) (tC (.int 0)))) (tVar 2) (tCB (rTupleOf K) (tCons (tVar 2) tNil))))) { nx := fun _ H' => Q .non H', rt := Q } [some (.ref p), some v, none, none, none] H := by
  have hw : EvW K [p, q] (iSeq K (tVar 1)) [some (.ref p), some v, none, none, none] F H ds.length (fun i => ds.getD i .none) := by
    rcases hd with rfl | rfl
    · exact ew_seqL (ds := ds) (ev_var rfl hv) rfl fun i hi => by simp [List.getD_eq_getElem?_getD, hi]
    · exact ew_seqT (ds := ds) (ev_var rfl hv) rfl fun i hi => by simp [List.getD_eq_getElem?_getD, hi]
  refine qs_set (K := K) e st (es_lc (c := mxc ds) ds.length (fun i => ds.getD i .none) (fun i => Nm K 3 (ds.getD i .none)) (fun i => Loose (ds.getD i .none)) hw hl (fun _ _ => tg_nm) ?_ ?_) (by omega) fun F1 H1 u d1 s1 st1 ⟨es, hd1, hle, hes⟩ ru => ?_
  · rintro i _ F1 _ ⟨a, _, rfl⟩; rfl
  · rintro i hi F4 H4 _ s4 ⟨a, ha, rfl⟩
    have hm : ds.getD i .none ∈ ds := by simp [List.getD_eq_getElem?_getD, hi]
    exact (es_loosen rfl (ev_var rfl ha) (hp _ hm)).weak (cst_le hm) fun _ h => h
  · subst hd1
    have hlo : ∀ (i : Nat) x y, ds[i]? = some x → es[i]? = some y → Loose x y := fun i x y hx hy => by
      have := hes i y hy
      rwa [List.getD_eq_getElem?_getD, hx] at this
    refine ss_ret (K := K) (c := 1 + 0 + 0) (Px := fun z => z = .list es ∨ z = .tuple es) s1.fh st1 (es_if (Pb := fun _ => True) (est_test (EvS.weak (es_op (Pz := fun z => ∃ b, z = .bool b ∧ True) (es_below rfl ev_int (by decide : 1 ≤ 2) (by decide)) (es_d ev_int) ?_) (Nat.le_refl _) fun _ h => h)) (fun _ => (es_d (ev_var rfl ru)).weak (Nat.le_refl _) fun _ h => .inl h) (fun _ => (es_d (ev_cb (ea_cons (ev_var rfl ru) ea_nil) xTupL)).weak (Nat.le_refl _) fun _ h => .inr h)) (by omega) fun F2 H2 w d2 s2 st2 hd2 rw => k F2 H2 w d2 (s1.trans s2) (st2.le (by omega)) (.row hd hd2 hle.symm hlo) rw
    rintro _ _ ⟨r, _, rfl⟩ rfl
    exact ⟨_, xEqI, _, rfl, trivial⟩
theorem rd_law_loose (n : Nat) {vs : List V} {Q : VK} {E : XK} (h : spn_law_loose n K vs H Q E) : t_law_loose K (rc_law_loose n K) { nx := fun _ H' => Q .non H', rt := Q } (L2.start N_law_loose vs) H := by
  obtain ⟨p, q, m, F, v, d, rfl, e, st, hv, hp, hc, k⟩ := h
  cases hp with
  | non =>
    refine q_when (K := K) (M := []) (b := false) e (xTru (xIs "NoneType" (d := .none) (by walk_at "ev") rfl (by decide +kernel)) rfl) (fun hb => absurd hb (by decide)) fun _ F1 H1 s1 => ?_
    refine q_when (K := K) (M := []) (b := true) s1.fh (et_not (xTru (xIsT' "NoneType" (d := .none) (by walk_at "ev") rfl (by decide +kernel) (b := false) (by decide +kernel) (by decide)) rfl)) (fun _ F2 H2 s2 => ?_) (fun hb => absurd hb (by decide))
    exact st_ret (K := K) (M := []) (d := .none) s2.fh (by walk_at "ev") fun F5 H5 u s5 ru => k _ _ _ _ ((s1.trans s2).trans s5).up ((st.pure ((s1.trans s2).trans s5)).le (by omega)) (.atom ⟨(fun _ z => by cases z), (fun _ z => by cases z)⟩) ru
  | @bool _ b =>
    refine q_when (K := K) (M := []) (b := false) e (xTru (xIs "bool" (d := .bool b) (by walk_at "ev") rfl (by decide +kernel)) rfl) (fun hb => absurd hb (by decide)) fun _ F1 H1 s1 => ?_
    refine q_when (K := K) (M := []) (b := true) s1.fh (et_not (xTru (xIsT' "bool" (d := .bool b) (by walk_at "ev") rfl (by decide +kernel) (b := false) (by decide +kernel) (by decide)) rfl)) (fun _ F2 H2 s2 => ?_) (fun hb => absurd hb (by decide))
    exact st_ret (K := K) (M := []) (d := .bool b) s2.fh (by walk_at "ev") fun F5 H5 u s5 ru => k _ _ _ _ ((s1.trans s2).trans s5).up ((st.pure ((s1.trans s2).trans s5)).le (by omega)) (.atom ⟨(fun _ z => by cases z), (fun _ z => by cases z)⟩) ru
  | @int _ b =>
    refine q_when (K := K) (M := []) (b := false) e (xTru (xIs "int" (d := .int b) (by walk_at "ev") rfl (by decide +kernel)) rfl) (fun hb => absurd hb (by decide)) fun _ F1 H1 s1 => ?_
    refine q_when (K := K) (M := []) (b := true) s1.fh (et_not (xTru (xIsT' "int" (d := .int b) (by walk_at "ev") rfl (by decide +kernel) (b := false) (by decide +kernel) (by decide)) rfl)) (fun _ F2 H2 s2 => ?_) (fun hb => absurd hb (by decide))
    exact st_ret (K := K) (M := []) (d := .int b) s2.fh (by walk_at "ev") fun F5 H5 u s5 ru => k _ _ _ _ ((s1.trans s2).trans s5).up ((st.pure ((s1.trans s2).trans s5)).le (by omega)) (.atom ⟨(fun _ z => by cases z), (fun _ z => by cases z)⟩) ru
  | @str _ b hb =>
    refine q_when (K := K) (M := []) (b := false) e (xTru (xIs "str" (d := .str b) (by walk_at "ev") rfl (by decide +kernel)) rfl) (fun hb => absurd hb (by decide)) fun _ F1 H1 s1 => ?_
    refine q_when (K := K) (M := []) (b := true) s1.fh (et_not (xTru (xIsT' "str" (d := .str b) (by walk_at "ev") rfl (by decide +kernel) (b := false) (by decide +kernel) (by decide)) rfl)) (fun _ F2 H2 s2 => ?_) (fun hb => absurd hb (by decide))
    exact st_ret (K := K) (M := []) (d := .str b) s2.fh (by walk_at "ev") fun F5 H5 u s5 ru => k _ _ _ _ ((s1.trans s2).trans s5).up ((st.pure ((s1.trans s2).trans s5)).le (by omega)) (.atom ⟨(fun _ z => by cases z), (fun _ z => by cases z)⟩) ru
  | @list n ds hd hl =>
    rw [cst] at hc
    refine q_when (K := K) (M := []) (b := false) e (xTru (xIs "list" (d := .list ds) (by walk_at "ev") rfl (by decide +kernel)) rfl) (fun hb => absurd hb (by decide)) fun _ F1 H1 s1 => ?_
    refine q_when (K := K) (M := []) (b := false) s1.fh (et_not (xTru (xIsT' "list" (d := .list ds) (by walk_at "ev") rfl (by decide +kernel) (b := true) (by decide +kernel) (by decide)) rfl)) (fun hb => absurd hb (by decide)) fun _ F2 H2 s2 => ?_
    refine loose_row (d := .list ds) (.inl rfl) hl hd s2.fh (st.pure (s1.trans s2)) ((hv.mono s1.ff).mono s2.ff) hc fun F' H' v' d' s3 st3 hlo rv => k F' H' v' d' ((s1.trans s2).up.trans s3) (by rw [cst]; exact st3) hlo rv
  | @tuple n ds hd hl =>
    rw [cst] at hc
    refine q_when (K := K) (M := []) (b := false) e (xTru (xIs "tuple" (d := .tuple ds) (by walk_at "ev") rfl (by decide +kernel)) rfl) (fun hb => absurd hb (by decide)) fun _ F1 H1 s1 => ?_
    refine q_when (K := K) (M := []) (b := false) s1.fh (et_not (xTru (xIsT' "tuple" (d := .tuple ds) (by walk_at "ev") rfl (by decide +kernel) (b := true) (by decide +kernel) (by decide)) rfl)) (fun hb => absurd hb (by decide)) fun _ F2 H2 s2 => ?_
    refine loose_row (d := .tuple ds) (.inr rfl) hl hd s2.fh (st.pure (s1.trans s2)) ((hv.mono s1.ff).mono s2.ff) hc fun F' H' v' d' s3 st3 hlo rv => k F' H' v' d' ((s1.trans s2).up.trans s3) (by rw [cst]; exact st3) hlo rv
end
end Sf

namespace Sf
open PySem L2
/-! evaluation, construct by construct -/
local macro_rules | `(tactic| walk_at "rp") => `(tactic| first | assumption | exact .int _ | exact .bl _ | exact .str _ | exact .non | exact Rp.mono (Sx.ff (by assumption)) (by walk_at "rp"))
local macro_rules | `(tactic| walk_at "sc") => `(tactic| first | rfl | assumption | omega | decide | (simp; done) | (simp; omega))
local macro_rules | `(tactic| walk_at "ix") => `(tactic| first | rfl | assumption)
local macro_rules | `(tactic| walk_at "rv") => `(tactic| first
  | exact xAddI | exact xSub | exact xLt | exact xLe | exact xGt | exact xGe | exact xIsN | exact xNotN | exact xEqI | exact xNeI | exact xEqB | exact xNeB | exact xEqLB | exact xEqTB | exact xNeTB
  | exact xMod (by walk_at "sc")
  | exact xDiv (by walk_at "sc")
  | exact xPow (by walk_at "sc")
  | exact xMulI (by walk_at "sc")
  | exact rv_ixt (by walk_at "ix")
  | exact rv_ixl (by walk_at "ix")
  | exact xAddL (by walk_at "sc")
  | exact xAddT (by walk_at "sc"))
local macro_rules | `(tactic| walk_at "rc") => `(tactic| first | exact xLenL | exact xLenT | exact xListL | exact xListT | exact xTupL | exact xTupT | exact xMax2 | exact xInt | exact rc_all | exact rc_any)
local macro_rules | `(tactic| walk_at "ea") => `(tactic| first | exact ea_nil | refine ea_cons (by walk_at "ev") (by walk_at "ea"))
local macro_rules | `(tactic| walk_at "eo") => `(tactic| first | exact eo_none | refine eo_some (by walk_at "ev"))
local macro_rules | `(tactic| walk_at "et") => `(tactic| first
  | ((with_reducible show EvT _ _ (tTest _) _ _ _ _); exact et_test (by walk_at "ev"))
  | ((with_reducible show EvT _ _ (tNot _) _ _ _ _); exact et_not (by walk_at "et"))
  | ((with_reducible show EvT _ _ (tAnd _ _) _ _ _ _); exact et_and (by walk_at "et") (fun hh => by walk_at "et"))
  | ((with_reducible show EvT _ _ (tOr _ _) _ _ _ _); exact et_or (by walk_at "et") (fun hh => by walk_at "et"))
  | ((with_reducible show EvT _ _ (tTru _ _) _ _ _ _); exact xTru (by walk_at "ev") (by walk_at "sc"))
  | ((with_reducible show EvT _ _ tYes _ _ _ _); exact et_yes))
local macro_rules | `(tactic| walk_at "ev") => `(tactic| first
  | ((with_reducible show EvD _ _ (tC _) _ _ _ _); first | exact ev_int | exact ev_bl | exact ev_str | exact ev_non)
  | ((with_reducible show EvD _ _ (tVar _) _ _ _ _); exact ev_var (by rfl) (by walk_at "rp"))
  | ((with_reducible show EvD _ _ (tOp _ _ _) _ _ _ _); exact ev_op (by walk_at "ev") (by walk_at "ev") (by walk_at "rv"))
  | ((with_reducible show EvD _ _ (tUn _ _) _ _ _ _); exact ev_un (by walk_at "ev") xNeg)
  | ((with_reducible show EvD _ _ (tCB _ _) _ _ _ _); exact ev_cb (by walk_at "ea") (by walk_at "rc"))
  | ((with_reducible show EvD _ _ (tTup _) _ _ _ _); exact ev_tup (by walk_at "ea") (by walk_at "sc"))
  | ((with_reducible show EvD _ _ (tLst _) _ _ _ _); exact ev_lst (by walk_at "ea") (by walk_at "sc"))
  | ((with_reducible show EvD _ _ (tSl _ _ _ _) _ _ _ _); first | exact xSlL (by walk_at "ev") (by walk_at "eo") (by walk_at "eo") | exact xSlT (by walk_at "ev") (by walk_at "eo") (by walk_at "eo"))
  | ((with_reducible show EvD _ _ (tNotT _ _) _ _ _ _); exact ev_notT (by walk_at "ev") (by walk_at "sc"))
  | ((with_reducible show EvD _ _ (tAndT _ _ _) _ _ _ _); exact ev_andB (by walk_at "ev") (fun hh => by walk_at "ev"))
  | ((with_reducible show EvD _ _ (tOrT _ _ _) _ _ _ _); exact ev_orB (by walk_at "ev") (fun hh => by walk_at "ev")))

/-! ### the sets, as data and as functions -/
abbrev tB (bs : List Bool) : PyData := .tuple (bs.map .bool)
abbrev lB (bs : List Bool) : PyData := .list (bs.map .bool)
abbrev Bs := List Bool × List Bool
abbrev pset (p : Bs) : PyData := .tuple [tB p.1, tB p.2]
def isRow : PyData → Bool
  | .list _ => true
  | .tuple _ => true
  | _ => false
def RowB (d : PyData) (bs : List Bool) : Prop := d = lB bs ∨ d = tB bs
def SetD (d : PyData) (p : Bs) : Prop := ∃ f r, (d = .list [f, r] ∨ d = .tuple [f, r]) ∧ RowB f p.1 ∧ RowB r p.2
def Small (p : Bs) : Prop := p.1.length ≤ 60 ∧ p.2.length ≤ 60 ∧ p.2 ≠ []
def inSet (p : Bs) (n : Nat) : Bool := if n < p.1.length then p.1.getD n false else p.2.getD ((n - p.1.length) % p.2.length) false
def good (ring : List Bool) (k : Nat) : Bool := !((ring.length % k != 0) || !decide (ring.drop k = ring.take (ring.length - k)))
def rndGo (ring : List Bool) : Nat → Nat → Nat
  | 0, k => k
  | f + 1, k => if good ring k then k else rndGo ring f (k + 1)
def roundSize (ring : List Bool) : Nat := rndGo ring (ring.length - 1) 1
def roll : List Bool → List Bool → Bs
  | [], ring => ([], ring)
  | b :: r, ring => if ring.getLast? = some b then roll r (b :: ring.dropLast) else ((b :: r).reverse, ring)
def leastOf (few ring : List Bool) : Bs := roll few.reverse (ring.take (roundSize ring))
theorem isRow_of {d : PyData} {bs : List Bool} (h : RowB d bs) : isRow d = true := by rcases h with rfl | rfl <;> rfl
theorem good_len {ring : List Bool} : good ring ring.length = true := by
  unfold good
  simp
section
variable {K : PySem.W.Frag}
/-! ### is_row -/
def sp_is_row (K : PySem.W.Frag) : Sp := spP K (fun i : (PyData) => (fun (d : PyData) => ([d] : List PyData)) i) (fun i => (fun (d : PyData) => (.bool (isRow d) : PyData)) i) (fun i => (fun (d : PyData) => (True : Prop)) i)
theorem ev_is_row {K : PySem.W.Frag} {M : List Addr} {σ : L2.St} {F H : Hp} {ta : TA} {E : XK} {d : PyData} (h : EvA K M ta σ F H [d]) : EvD K M (tCall (sp_is_row K) [] E ta) σ F H (.bool (isRow d)) := ev_call (d) h trivial
local macro_rules | `(tactic| walk_at "ev") => `(tactic| ((with_reducible show EvD _ _ (tCall (sp_is_row _) _ _ _) _ _ _ _); exact ev_is_row (by walk_at "ea")))
abbrev N_is_row : List Str := ["thing"]
def t_is_row (K : PySem.W.Frag) : TS :=
  (tRet (tIsT K (tVar 0) ["list", "tuple"]))
theorem rd_is_row' {K : PySem.W.Frag} {F H : Hp} (d : PyData) {vs : List V} (e : Same F H) (rs : RpAll K F vs [d]) (hp : True) (D : Ends) (hn : ∀ σ H', D.nx σ H' = D.rt .non H') (q : ∀ F' H' v, Sx [] F H F' H' → Rp K F' v (.bool (isRow d)) → D.rt v H') : t_is_row K D (L2.start N_is_row vs) H := by
  obtain ⟨v, rfl, h1⟩ := rs.inv1
  refine st_ret (K := K) (M := []) (d := .bool (isRow d)) e ?_ fun F2 H2 u s2 ru => q _ _ _ s2 ru
  cases d with
  | none => exact xIsT' "NoneType" (d := .none) (by walk_at "ev") rfl (by decide +kernel) (by decide +kernel) (by decide)
  | bool b => exact xIsT' "bool" (d := .bool b) (by walk_at "ev") rfl (by decide +kernel) (Eq.trans (b := false) (by decide +kernel) rfl) (by decide)
  | int b => exact xIsT' "int" (d := .int b) (by walk_at "ev") rfl (by decide +kernel) (Eq.trans (b := false) (by decide +kernel) rfl) (by decide)
  | str b => exact xIsT' "str" (d := .str b) (by walk_at "ev") rfl (by decide +kernel) (Eq.trans (b := false) (by decide +kernel) rfl) (by decide)
  | list b => exact xIsT' "list" (d := .list b) (by walk_at "ev") rfl (by decide +kernel) (Eq.trans (b := true) (by decide +kernel) rfl) (by decide)
  | tuple b => exact xIsT' "tuple" (d := .tuple b) (by walk_at "ev") rfl (by decide +kernel) (Eq.trans (b := true) (by decide +kernel) rfl) (by decide)
  | dict b => exact xIsT' "dict" (d := .dict b) (by walk_at "ev") rfl (by decide +kernel) (Eq.trans (b := false) (by decide +kernel) rfl) (by decide)
/-! ### is_number -/
def sp_is_number (K : PySem.W.Frag) : Sp := spP K (fun i : (Int) × (Int) × (Int) => (fun (i : Int) (lo : Int) (hi : Int) => ([.int i, .int lo, .int hi] : List PyData)) i.1 i.2.1 i.2.2) (fun i => (fun (i : Int) (lo : Int) (hi : Int) => (.bool (decide (lo ≤ i) && decide (i ≤ hi)) : PyData)) i.1 i.2.1 i.2.2) (fun i => (fun (i : Int) (lo : Int) (hi : Int) => (True : Prop)) i.1 i.2.1 i.2.2)
theorem ev_is_number {K : PySem.W.Frag} {M : List Addr} {σ : L2.St} {F H : Hp} {ta : TA} {E : XK} {i : Int} {lo : Int} {hi : Int} (h : EvA K M ta σ F H [.int i, .int lo, .int hi]) : EvD K M (tCall (sp_is_number K) [] E ta) σ F H (.bool (decide (lo ≤ i) && decide (i ≤ hi))) := ev_call (i, lo, hi) h trivial
local macro_rules | `(tactic| walk_at "ev") => `(tactic| ((with_reducible show EvD _ _ (tCall (sp_is_number _) _ _ _) _ _ _ _); exact ev_is_number (by walk_at "ea")))
abbrev N_is_number : List Str := ["thing", "low", "high"]
def t_is_number (K : PySem.W.Frag) : TS :=
  (tRet (tAndT K (tIs K (tVar 0) "int") (tAndT K (tNotT K (tIs K (tVar 0) "bool")) (tChain rLeI rLeI (tVar 1) (tVar 0) (tVar 2)))))
theorem rd_is_number' {K : PySem.W.Frag} {F H : Hp} (i : Int) (lo : Int) (hi : Int) {vs : List V} (e : Same F H) (rs : RpAll K F vs [.int i, .int lo, .int hi]) (hp : True) (D : Ends) (hn : ∀ σ H', D.nx σ H' = D.rt .non H') (q : ∀ F' H' v, Sx [] F H F' H' → Rp K F' v (.bool (decide (lo ≤ i) && decide (i ≤ hi))) → D.rt v H') : t_is_number K D (L2.start N_is_number vs) H := by
  obtain ⟨v, v2, v3, rfl, h1, h2, h3⟩ := rs.inv3
  refine st_ret (K := K) (M := []) (d := .bool (true && (!false && (decide (lo ≤ i) && decide (i ≤ hi))))) e ?_ fun F2 H2 u s2 ru => q _ _ _ s2 (by simpa using ru)
  refine ev_andB (xIs "int" (d := .int i) (by walk_at "ev") rfl (by decide +kernel)) fun _ => ev_andB (ev_notT (xIs "int" (d := .int i) (by walk_at "ev") rfl (by decide +kernel)) rfl) fun _ => ?_
  exact ev_chain (x := .int lo) (y := .int i) (w := .int hi) (by walk_at "ev") (by walk_at "ev") xLe (fun _ => by walk_at "ev") (fun _ => xLe)
/-! ### is_truths -/
def sp_is_truths (K : PySem.W.Frag) : Sp := spP K (fun i : (PyData) × (List Bool) => (fun (d : PyData) (bs : List Bool) => ([d] : List PyData)) i.1 i.2) (fun i => (fun (d : PyData) (bs : List Bool) => (.bool true : PyData)) i.1 i.2) (fun i => (fun (d : PyData) (bs : List Bool) => (RowB d bs ∧ bs.length ≤ 60 : Prop)) i.1 i.2)
theorem ev_is_truths {K : PySem.W.Frag} {M : List Addr} {σ : L2.St} {F H : Hp} {ta : TA} {E : XK} {d : PyData} {bs : List Bool} (h : EvA K M ta σ F H [d]) (hp : RowB d bs ∧ bs.length ≤ 60) : EvD K M (tCall (sp_is_truths K) [] E ta) σ F H (.bool true) := ev_call (d, bs) h hp
local macro_rules | `(tactic| walk_at "ev") => `(tactic| ((with_reducible show EvD _ _ (tCall (sp_is_truths _) _ _ _) _ _ _ _); exact ev_is_truths (by walk_at "ea") (by walk_at "sc")))
abbrev N_is_truths : List Str := ["thing", "one"]
def t_is_truths (K : PySem.W.Frag) : TS :=
  (tRet (tAndT K (tCall (sp_is_row K) [] E0 (tCons (tVar 0) tNil)) (tAndT K (tOp rLeI (tCB (rLen K) (tCons (tVar 0) tNil)) (tC (.int 60))) (tOp (rEqD K) (tLc (iSeq K (tVar 0)) (gName 1) (tNot (tTru K (tIs K (tVar 1) "bool"))) (tVar 1) [1]) (tLst tNil)))))
theorem rd_is_truths' {K : PySem.W.Frag} {F H : Hp} (d : PyData) (bs : List Bool) {vs : List V} (e : Same F H) (rs : RpAll K F vs [d]) (hp : RowB d bs ∧ bs.length ≤ 60) (D : Ends) (hn : ∀ σ H', D.nx σ H' = D.rt .non H') (q : ∀ F' H' v, Sx [] F H F' H' → Rp K F' v (.bool true) → D.rt v H') : t_is_truths K D (L2.start N_is_truths vs) H := by
  obtain ⟨v, rfl, h1⟩ := rs.inv1
  obtain ⟨hr, hl⟩ := hp
  have tst : ∀ {σ : L2.St} {F1 H1 : Hp} {b : Bool} {v : V}, σ[1]? = some (some v) → Rp K F1 v (.bool b) → EvT K [] (tNot (tTru K (tIs K (tVar 1) "bool"))) σ F1 H1 false := fun {σ F1 H1 b v} h r =>
    et_not (a := true) (xTru (xIs "bool" (ev_var h r) rfl (by decide +kernel)) rfl)
  have hle : (decide (((bs.map PyData.bool).length : Int) ≤ 60)) = true := decide_eq_true (by rw [List.length_map]; omega)
  refine st_ret (K := K) (M := []) (d := .bool (isRow d && (decide (((bs.map PyData.bool).length : Int) ≤ 60) && (((bs.filter fun _ => false).map PyData.bool).isEmpty)))) e ?_ fun F2 H2 u s2 ru => q _ _ _ s2 (by rw [isRow_of hr, hle, show (bs.filter fun _ => false) = [] by simp] at ru; exact ru)
  have hsh : SeqAt.shaped (.list ((bs.filter fun _ => false).map PyData.bool)) = true := sh_lB
  rcases hr with rfl | rfl
  · refine ev_andB (by walk_at "ev") fun _ => ev_andB (by walk_at "ev") fun _ => ev_op (EvN.ev (xLcL (en_lcL bs .bool .bool (fun _ => false) (fun b => Nm K 1 (.bool b)) (by walk_at "ev") (by omega) (fun _ _ => tg_nm) ?_ ?_ ?_))) (ev_lst ea_nil (by decide)) (xEqNil hsh)
    · rintro b _ F1 _ ⟨u, _, rfl⟩; rfl
    · rintro b _ F1 H1 _ s ⟨u, ru, rfl⟩; exact tst rfl ru
    · intro _ _ h; cases h
  · refine ev_andB (by walk_at "ev") fun _ => ev_andB (by walk_at "ev") fun _ => ev_op (EvN.ev (xLcT (en_lcT bs .bool .bool (fun _ => false) (fun b => Nm K 1 (.bool b)) (by walk_at "ev") (by omega) (fun _ _ => tg_nm) ?_ ?_ ?_))) (ev_lst ea_nil (by decide)) (xEqNil hsh)
    · rintro b _ F1 _ ⟨u, _, rfl⟩; rfl
    · rintro b _ F1 H1 _ s ⟨u, ru, rfl⟩; exact tst rfl ru
    · intro _ _ h; cases h
/-! ### round_size -/
def sp_round_size (K : PySem.W.Frag) : Sp := spP K (fun i : (List Bool) => (fun (ring : List Bool) => ([tB ring] : List PyData)) i) (fun i => (fun (ring : List Bool) => (.int (roundSize ring : Nat) : PyData)) i) (fun i => (fun (ring : List Bool) => (ring ≠ [] : Prop)) i)
theorem ev_round_size {K : PySem.W.Frag} {M : List Addr} {σ : L2.St} {F H : Hp} {ta : TA} {E : XK} {ring : List Bool} (h : EvA K M ta σ F H [tB ring]) (hp : ring ≠ []) : EvD K M (tCall (sp_round_size K) [] E ta) σ F H (.int (roundSize ring : Nat)) := ev_call (ring) h hp
local macro_rules | `(tactic| walk_at "ev") => `(tactic| ((with_reducible show EvD _ _ (tCall (sp_round_size _) _ _ _) _ _ _ _); exact ev_round_size (by walk_at "ea") (by walk_at "sc")))
abbrev N_round_size : List Str := ["ring", "size"]
def t_round_size (K : PySem.W.Frag) : TS :=
  (tSeq (tAsg (tC (.int 1)) (gName 1))
  (tSeq (tWhile (tOr (tTru K (tOp rModI (tCB (rLen K) (tCons (tVar 0) tNil)) (tVar 1))) (tTest (tOp (rNeD K) (tSl (rSlU K) (tVar 0) (tPart (tVar 1)) tNoPart) (tSl (rSlU K) (tVar 0) tNoPart (tPart (tOp rSubI (tCB (rLen K) (tCons (tVar 0) tNil)) (tVar 1)))))))
   (tAug 1 (tC (.int 1)) (ipI fun i j => i + j)))
  (tRet (tVar 1))))
theorem rd_round_size' {K : PySem.W.Frag} {F H : Hp} (ring : List Bool) {vs : List V} (e : Same F H) (rs : RpAll K F vs [tB ring]) (hp : ring ≠ []) (D : Ends) (hn : ∀ σ H', D.nx σ H' = D.rt .non H') (q : ∀ F' H' v, Sx [] F H F' H' → Rp K F' v (.int (roundSize ring : Nat)) → D.rt v H') : t_round_size K D (L2.start N_round_size vs) H := by
  obtain ⟨v, rfl, h1⟩ := rs.inv1
  have hpos : 0 < ring.length := List.length_pos_iff.mpr hp
  refine q_set (K := K) (M := []) (d := .int 1) e (by walk_at "ev") fun F1 H1 v1 s1 r1 => ?_
  cases r1.int_of
  refine q_while (K := K) (M := []) (fun m σ' F' H' => ∃ k : Nat, 1 ≤ k ∧ k ≤ ring.length ∧ m = ring.length - k ∧ rndGo ring (ring.length - k) k = roundSize ring ∧ Rp K F' v (tB ring) ∧ σ' = [some v, some (.int (k : Int))]) s1.fh (ring.length - 1) ⟨1, by omega, by omega, rfl, rfl, h1.mono s1.ff, rfl⟩ ?_
  rintro m σ' F' H' s' ⟨k, k1, k2, rfl, hk, hv, rfl⟩
  have e1 : (((ring.map PyData.bool).length : Int) - (k : Int)) = ((ring.length - k : Nat) : Int) := by rw [List.length_map]; omega
  have hmod : ((((ring.map PyData.bool).length : Int) % (k : Int)) != 0) = (ring.length % k != 0) := by
    rw [List.length_map, ← Int.natCast_emod]
    by_cases h : ring.length % k = 0
    · rw [h]; rfl
    · rw [bne_iff_ne.mpr h]; exact bne_iff_ne.mpr (by omega)
  refine ⟨!good ring k, [], ?_, fun hb F2 H2 s2 => ?_, fun hb F2 H2 s2 => ?_⟩
  · refine EvT.is (et_or (a := ring.length % k != 0) (b := !decide (ring.drop k = ring.take (ring.length - k))) (EvT.is (xTru (d := .int (((ring.map PyData.bool).length : Int) % (k : Int))) (by walk_at "ev") rfl) hmod) fun _ => et_test (ev_op (xDropT (k := k) (xs := ring) (f := .bool) (by walk_at "ev") (by walk_at "eo")) (xTakeT (k := ring.length - k) (xs := ring) (f := .bool) (by walk_at "ev") (eo_some (EvD.is (by walk_at "ev") (congrArg PyData.int e1)))) xNeTB)) ?_
    unfold good; rw [Bool.not_not]
  · have hg : good ring k = false := by simpa using hb
    have hlt : k < ring.length := by
      rcases Nat.lt_or_ge k ring.length with h | h
      · exact h
      · have : k = ring.length := by omega
        rw [this, good_len] at hg; cases hg
    refine st_aug (K := K) (M := []) (a := (k : Int)) (b := 1) s2.fh rfl (by walk_at "ev") fun F3 H3 s3 => ⟨ring.length - (k + 1), by omega, F3, (s'.trans s2).trans s3, k + 1, by omega, by omega, rfl, ?_, (hv.mono s2.ff).mono s3.ff, rfl⟩
    rw [← hk, show ring.length - k = (ring.length - (k + 1)) + 1 by omega, rndGo, hg]
    rfl
  · have hg : good ring k = true := by simpa using hb
    refine st_ret (K := K) (M := []) (d := .int (k : Nat)) s2.fh (by walk_at "ev") fun F3 H3 u s3 ru => q _ _ _ (((s1.trans s').trans s2).trans s3) ?_
    have : roundSize ring = k := by
      rw [← hk]
      cases ring.length - k with
      | zero => rfl
      | succ f => rw [rndGo, hg]; rfl
    rw [this]
    exact ru
/-! ### in_set -/
def sp_in_set (K : PySem.W.Frag) : Sp := spP K (fun i : (Bs) × (Nat) => (fun (p : Bs) (n : Nat) => ([pset p, .int n] : List PyData)) i.1 i.2) (fun i => (fun (p : Bs) (n : Nat) => (.bool (inSet p n) : PyData)) i.1 i.2) (fun i => (fun (p : Bs) (n : Nat) => (p.2 ≠ [] : Prop)) i.1 i.2)
theorem ev_in_set {K : PySem.W.Frag} {M : List Addr} {σ : L2.St} {F H : Hp} {ta : TA} {E : XK} {p : Bs} {n : Nat} (h : EvA K M ta σ F H [pset p, .int n]) (hp : p.2 ≠ []) : EvD K M (tCall (sp_in_set K) [] E ta) σ F H (.bool (inSet p n)) := ev_call (p, n) h hp
local macro_rules | `(tactic| walk_at "ev") => `(tactic| ((with_reducible show EvD _ _ (tCall (sp_in_set _) _ _ _) _ _ _ _); exact ev_in_set (by walk_at "ea") (by walk_at "sc")))
abbrev N_in_set : List Str := ["plain", "number", "few", "ring"]
def t_in_set (K : PySem.W.Frag) : TS :=
  (tSeq (tAsg (tVar 0) (gTup K 2 (gCons (gName 2) (gCons (gName 3) gNil))))
  (tRet (tIf (tTest (tOp rLtI (tVar 1) (tCB (rLen K) (tCons (tVar 2) tNil)))) (tOp (rIx K) (tVar 2) (tVar 1)) (tOp (rIx K) (tVar 3) (tOp rModI (tOp rSubI (tVar 1) (tCB (rLen K) (tCons (tVar 2) tNil))) (tCB (rLen K) (tCons (tVar 3) tNil)))))))
theorem rd_in_set' {K : PySem.W.Frag} {F H : Hp} (p : Bs) (n : Nat) {vs : List V} (e : Same F H) (rs : RpAll K F vs [pset p, .int n]) (hp : p.2 ≠ []) (D : Ends) (hn : ∀ σ H', D.nx σ H' = D.rt .non H') (q : ∀ F' H' v, Sx [] F H F' H' → Rp K F' v (.bool (inSet p n)) → D.rt v H') : t_in_set K D (L2.start N_in_set vs) H := by
  obtain ⟨few, ring⟩ := p
  obtain ⟨v, u, rfl, h1, h2⟩ := rs.inv2
  refine (q_asg (K := K) (M := []) (d := pset (few, ring)) tg_nm2 e (by walk_at "ev") fun F1 H1 σ1 s1 ⟨a, b, ha, hb, hσ⟩ => ?_)
  subst hσ
  refine st_ret (K := K) (M := []) (d := .bool (inSet (few, ring) n)) s1.fh (ev_if (b := decide ((n : Int) < (few.length : Int))) ?_ (fun h => ?_) (fun h => ?_)) fun F2 H2 u s2 ru => q _ _ _ (s1.trans s2) ru
  · refine EvT.is (et_test (by walk_at "ev")) ?_
    simp
  · have hlt : n < few.length := by simpa using h
    have : atI (few.map PyData.bool) (n : Int) = some (.bool (few.getD n false)) := atI_nat (by simp [hlt])
    refine EvD.is (by walk_at "ev") ?_
    unfold inSet; rw [if_pos hlt]
  · have hge : ¬ n < few.length := by simpa using h
    have hpos : 0 < ring.length := List.length_pos_iff.mpr hp
    have e0 : ((n : Int) - ((few.map PyData.bool).length : Int)) % ((ring.map PyData.bool).length : Int) = (((n - few.length) % ring.length : Nat) : Int) := by
      rw [List.length_map, List.length_map, Int.natCast_emod, Int.ofNat_sub (by omega)]
    have : atI (ring.map PyData.bool) (((n : Int) - ((few.map PyData.bool).length : Int)) % ((ring.map PyData.bool).length : Int)) = some (.bool (ring.getD ((n - few.length) % ring.length) false)) := by
      rw [e0]
      exact atI_nat (by simp [Nat.mod_lt _ hpos])
    refine EvD.is (by walk_at "ev") ?_
    unfold inSet; rw [if_neg hge]
end
end Sf

namespace Sf
open PySem L2
/-! evaluation, construct by construct -/
local macro_rules | `(tactic| walk_at "rp") => `(tactic| first | assumption | exact .int _ | exact .bl _ | exact .str _ | exact .non | exact Rp.mono (Sx.ff (by assumption)) (by walk_at "rp"))
local macro_rules | `(tactic| walk_at "sc") => `(tactic| first | rfl | assumption | omega | decide | (simp; done) | (simp; omega))
local macro_rules | `(tactic| walk_at "ix") => `(tactic| first | rfl | assumption)
local macro_rules | `(tactic| walk_at "rv") => `(tactic| first
  | exact xAddI | exact xSub | exact xLt | exact xLe | exact xGt | exact xGe | exact xIsN | exact xNotN | exact xEqI | exact xNeI | exact xEqB | exact xNeB | exact xEqLB | exact xEqTB | exact xNeTB
  | exact xMod (by walk_at "sc")
  | exact xDiv (by walk_at "sc")
  | exact xPow (by walk_at "sc")
  | exact xMulI (by walk_at "sc")
  | exact rv_ixt (by walk_at "ix")
  | exact rv_ixl (by walk_at "ix")
  | exact xAddL (by walk_at "sc")
  | exact xAddT (by walk_at "sc"))
local macro_rules | `(tactic| walk_at "rc") => `(tactic| first | exact xLenL | exact xLenT | exact xListL | exact xListT | exact xTupL | exact xTupT | exact xMax2 | exact xInt | exact rc_all | exact rc_any)
local macro_rules | `(tactic| walk_at "ea") => `(tactic| first | exact ea_nil | refine ea_cons (by walk_at "ev") (by walk_at "ea"))
local macro_rules | `(tactic| walk_at "eo") => `(tactic| first | exact eo_none | refine eo_some (by walk_at "ev"))
local macro_rules | `(tactic| walk_at "et") => `(tactic| first
  | ((with_reducible show EvT _ _ (tTest _) _ _ _ _); exact et_test (by walk_at "ev"))
  | ((with_reducible show EvT _ _ (tNot _) _ _ _ _); exact et_not (by walk_at "et"))
  | ((with_reducible show EvT _ _ (tAnd _ _) _ _ _ _); exact et_and (by walk_at "et") (fun hh => by walk_at "et"))
  | ((with_reducible show EvT _ _ (tOr _ _) _ _ _ _); exact et_or (by walk_at "et") (fun hh => by walk_at "et"))
  | ((with_reducible show EvT _ _ (tTru _ _) _ _ _ _); exact xTru (by walk_at "ev") (by walk_at "sc"))
  | ((with_reducible show EvT _ _ tYes _ _ _ _); exact et_yes))
local macro_rules | `(tactic| walk_at "ev") => `(tactic| first
  | ((with_reducible show EvD _ _ (tC _) _ _ _ _); first | exact ev_int | exact ev_bl | exact ev_str | exact ev_non)
  | ((with_reducible show EvD _ _ (tVar _) _ _ _ _); exact ev_var (by rfl) (by walk_at "rp"))
  | ((with_reducible show EvD _ _ (tOp _ _ _) _ _ _ _); exact ev_op (by walk_at "ev") (by walk_at "ev") (by walk_at "rv"))
  | ((with_reducible show EvD _ _ (tUn _ _) _ _ _ _); exact ev_un (by walk_at "ev") xNeg)
  | ((with_reducible show EvD _ _ (tCB _ _) _ _ _ _); exact ev_cb (by walk_at "ea") (by walk_at "rc"))
  | ((with_reducible show EvD _ _ (tTup _) _ _ _ _); exact ev_tup (by walk_at "ea") (by walk_at "sc"))
  | ((with_reducible show EvD _ _ (tLst _) _ _ _ _); exact ev_lst (by walk_at "ea") (by walk_at "sc"))
  | ((with_reducible show EvD _ _ (tSl _ _ _ _) _ _ _ _); first | exact xSlL (by walk_at "ev") (by walk_at "eo") (by walk_at "eo") | exact xSlT (by walk_at "ev") (by walk_at "eo") (by walk_at "eo"))
  | ((with_reducible show EvD _ _ (tNotT _ _) _ _ _ _); exact ev_notT (by walk_at "ev") (by walk_at "sc"))
  | ((with_reducible show EvD _ _ (tAndT _ _ _) _ _ _ _); exact ev_andB (by walk_at "ev") (fun hh => by walk_at "ev"))
  | ((with_reducible show EvD _ _ (tOrT _ _ _) _ _ _ _); exact ev_orB (by walk_at "ev") (fun hh => by walk_at "ev")))

local macro_rules | `(tactic| walk_at "ev") => `(tactic| ((with_reducible show EvD _ _ (tCall (sp_is_row _) _ _ _) _ _ _ _); exact ev_is_row (by walk_at "ea")))
local macro_rules | `(tactic| walk_at "ev") => `(tactic| ((with_reducible show EvD _ _ (tCall (sp_is_number _) _ _ _) _ _ _ _); exact ev_is_number (by walk_at "ea")))
local macro_rules | `(tactic| walk_at "ev") => `(tactic| ((with_reducible show EvD _ _ (tCall (sp_is_truths _) _ _ _) _ _ _ _); exact ev_is_truths (by walk_at "ea") (by walk_at "sc")))
local macro_rules | `(tactic| walk_at "ev") => `(tactic| ((with_reducible show EvD _ _ (tCall (sp_round_size _) _ _ _) _ _ _ _); exact ev_round_size (by walk_at "ea") (by walk_at "sc")))
local macro_rules | `(tactic| walk_at "ev") => `(tactic| ((with_reducible show EvD _ _ (tCall (sp_in_set _) _ _ _) _ _ _ _); exact ev_in_set (by walk_at "ea") (by walk_at "sc")))
def setBy (p q : Bs) (ts : List (Bool × Bool)) : Bs :=
  let b := max p.1.length q.1.length
  let row := (List.range (b + Nat.lcm p.2.length q.2.length)).map fun n => ts.any fun t => t.1 == inSet p n && t.2 == inSet q n
  leastOf (row.take b) (row.drop b)
def firstOf (p : Bs) : Option Nat := ((List.range (p.1.length + p.2.length)).filter (inSet p)).head?
def optD : Option Nat → PyData
  | none => .none
  | some n => .int (n : Int)
def pairD (t : Bool × Bool) : PyData := .tuple [.bool t.1, .bool t.2]
theorem rnd_pos (ring : List Bool) : ∀ f k, 1 ≤ k → 1 ≤ rndGo ring f k
  | 0, k, h => h
  | f + 1, k, h => by
    rw [rndGo]
    split
    · exact h
    · exact rnd_pos ring f (k + 1) (by omega)
theorem roll_len : ∀ (r : List Bool) (ring : List Bool), (roll r ring).1.length ≤ r.length ∧ (roll r ring).2.length = ring.length
  | [], ring => ⟨Nat.le_refl _, rfl⟩
  | b :: r, ring => by
    rw [roll]
    split
    · rename_i h
      obtain ⟨h1, h2⟩ := roll_len r (b :: ring.dropLast)
      have hne : ring ≠ [] := fun z => by subst z; cases h
      refine ⟨by rw [List.length_cons]; omega, ?_⟩
      rw [h2, List.length_cons, List.length_dropLast]
      have := List.length_pos_iff.mpr hne
      omega
    · exact ⟨by simp, rfl⟩
theorem least_len (few ring : List Bool) : (leastOf few ring).1.length ≤ few.length ∧ (leastOf few ring).2.length ≤ ring.length ∧ (ring ≠ [] → (leastOf few ring).2 ≠ []) := by
  obtain ⟨h1, h2⟩ := roll_len few.reverse (ring.take (roundSize ring))
  refine ⟨by unfold leastOf; simpa using h1, by unfold leastOf; rw [h2, List.length_take]; omega, fun hne z => ?_⟩
  have := rnd_pos ring (ring.length - 1) 1 (Nat.le_refl 1)
  have hp := List.length_pos_iff.mpr hne
  have h3 : (leastOf few ring).2.length = 0 := by rw [z]; rfl
  unfold leastOf at h3
  rw [h2, List.length_take] at h3
  unfold roundSize at h3
  omega
section
variable {K : PySem.W.Frag}
/-! ### common_round -/
def sp_common_round (K : PySem.W.Frag) : Sp := spP K (fun i : (List Bool) × (List Bool) => (fun (one : List Bool) (two : List Bool) => ([tB one, tB two] : List PyData)) i.1 i.2) (fun i => (fun (one : List Bool) (two : List Bool) => (.int (Nat.lcm one.length two.length : Nat) : PyData)) i.1 i.2) (fun i => (fun (one : List Bool) (two : List Bool) => (one ≠ [] ∧ two ≠ [] : Prop)) i.1 i.2)
theorem ev_common_round {K : PySem.W.Frag} {M : List Addr} {σ : L2.St} {F H : Hp} {ta : TA} {E : XK} {one : List Bool} {two : List Bool} (h : EvA K M ta σ F H [tB one, tB two]) (hp : one ≠ [] ∧ two ≠ []) : EvD K M (tCall (sp_common_round K) [] E ta) σ F H (.int (Nat.lcm one.length two.length : Nat)) := ev_call (one, two) h hp
local macro_rules | `(tactic| walk_at "ev") => `(tactic| ((with_reducible show EvD _ _ (tCall (sp_common_round _) _ _ _) _ _ _ _); exact ev_common_round (by walk_at "ea") (by walk_at "sc")))
abbrev N_common_round : List Str := ["one", "two", "size"]
def t_common_round (K : PySem.W.Frag) : TS :=
  (tSeq (tAsg (tCB (rLen K) (tCons (tVar 0) tNil)) (gName 2))
  (tSeq (tWhile (tTru K (tOp rModI (tVar 2) (tCB (rLen K) (tCons (tVar 1) tNil))))
   (tAug 2 (tCB (rLen K) (tCons (tVar 0) tNil)) (ipI fun i j => i + j)))
  (tRet (tVar 2))))
theorem rd_common_round' {K : PySem.W.Frag} {F H : Hp} (one : List Bool) (two : List Bool) {vs : List V} (e : Same F H) (rs : RpAll K F vs [tB one, tB two]) (hp : one ≠ [] ∧ two ≠ []) (D : Ends) (hn : ∀ σ H', D.nx σ H' = D.rt .non H') (q : ∀ F' H' v, Sx [] F H F' H' → Rp K F' v (.int (Nat.lcm one.length two.length : Nat)) → D.rt v H') : t_common_round K D (L2.start N_common_round vs) H := by
  obtain ⟨v, u, rfl, h1, h2⟩ := rs.inv2
  have p1 : 0 < one.length := List.length_pos_iff.mpr hp.1
  have p2 : 0 < two.length := List.length_pos_iff.mpr hp.2
  have pl : 0 < Nat.lcm one.length two.length := Nat.lcm_pos p1 p2
  refine q_set (K := K) (M := []) (d := .int ((one.map PyData.bool).length : Int)) e (by walk_at "ev") fun F1 H1 v1 s1 r1 => ?_
  cases r1.int_of
  refine q_while (K := K) (M := []) (fun m σ' F' H' => ∃ k : Nat, 0 < k ∧ one.length ∣ k ∧ k ≤ Nat.lcm one.length two.length ∧ m = Nat.lcm one.length two.length - k ∧ Rp K F' v (tB one) ∧ Rp K F' u (tB two) ∧ σ' = [some v, some u, some (.int (k : Int))]) s1.fh _ ⟨one.length, p1, Nat.dvd_refl _, Nat.le_of_dvd pl (Nat.dvd_lcm_left _ _), rfl, h1.mono s1.ff, h2.mono s1.ff, by rw [List.length_map]; rfl⟩ ?_
  rintro m σ' F' H' s' ⟨k, k1, k2, k3, rfl, hv, hu, rfl⟩
  have hp2 : (0 : Int) < ((two.map PyData.bool).length : Int) := by rw [List.length_map]; omega
  refine ⟨k % two.length != 0, [], ?_, fun hb F2 H2 s2 => ?_, fun hb F2 H2 s2 => ?_⟩
  · refine EvT.is (xTru (d := .int ((k : Int) % ((two.map PyData.bool).length : Int))) (by walk_at "ev") rfl) ?_
    rw [List.length_map, ← Int.natCast_emod]
    by_cases h : k % two.length = 0
    · rw [h]; rfl
    · rw [bne_iff_ne.mpr h]; exact bne_iff_ne.mpr (by omega)
  · have hne : k % two.length ≠ 0 := by simpa using hb
    have hlt : k < Nat.lcm one.length two.length := by
      rcases Nat.lt_or_eq_of_le k3 with h | h
      · exact h
      · exact absurd (Nat.mod_eq_zero_of_dvd (h ▸ Nat.dvd_lcm_right _ _)) hne
    have hle : k + one.length ≤ Nat.lcm one.length two.length := by
      obtain ⟨c, hc⟩ := Nat.dvd_sub (Nat.dvd_lcm_left one.length two.length) k2
      have : c ≠ 0 := fun z => by rw [z, Nat.mul_zero] at hc; omega
      have : one.length ≤ one.length * c := Nat.le_mul_of_pos_right _ (Nat.pos_of_ne_zero this)
      omega
    refine st_aug (K := K) (M := []) (a := (k : Int)) (b := ((one.map PyData.bool).length : Int)) s2.fh rfl (by walk_at "ev") fun F3 H3 s3 => ⟨_, ?_, F3, (s'.trans s2).trans s3, k + one.length, by omega, Nat.dvd_add k2 (Nat.dvd_refl _), hle, rfl, (hv.mono s2.ff).mono s3.ff, (hu.mono s2.ff).mono s3.ff, by rw [List.length_map, Int.natCast_add]; rfl⟩
    omega
  · have h0 : k % two.length = 0 := by simpa using hb
    have : Nat.lcm one.length two.length = k := Nat.le_antisymm (Nat.le_of_dvd k1 (Nat.lcm_dvd k2 (Nat.dvd_of_mod_eq_zero h0))) k3
    refine st_ret (K := K) (M := []) (d := .int (k : Nat)) s2.fh (by walk_at "ev") fun F3 H3 w s3 ru => q _ _ _ (((s1.trans s').trans s2).trans s3) ?_
    rw [this]
    exact ru
/-! ### least_of -/
theorem tup_row {M : List Addr} {te : TE} {σ : L2.St} {F H : Hp} {d : PyData} {bs : List Bool} (h : EvD K M te σ F H d) (hr : RowB d bs) : EvD K M (tCB (rTupleOf K) (tCons te tNil)) σ F H (tB bs) := by
  rcases hr with rfl | rfl
  · exact ev_cb (ea_cons h ea_nil) xTupL
  · exact ev_cb (ea_cons h ea_nil) xTupT
def sp_least_of (K : PySem.W.Frag) : Sp := spP K (fun i : (PyData) × (PyData) × (List Bool) × (List Bool) => (fun (d : PyData) (d2 : PyData) (few : List Bool) (ring : List Bool) => ([d, d2] : List PyData)) i.1 i.2.1 i.2.2.1 i.2.2.2) (fun i => (fun (d : PyData) (d2 : PyData) (few : List Bool) (ring : List Bool) => (pset (leastOf few ring) : PyData)) i.1 i.2.1 i.2.2.1 i.2.2.2) (fun i => (fun (d : PyData) (d2 : PyData) (few : List Bool) (ring : List Bool) => (RowB d few ∧ RowB d2 ring ∧ ring ≠ [] ∧ ring.length ≤ 100000 : Prop)) i.1 i.2.1 i.2.2.1 i.2.2.2)
theorem ev_least_of {K : PySem.W.Frag} {M : List Addr} {σ : L2.St} {F H : Hp} {ta : TA} {E : XK} {d : PyData} {d2 : PyData} {few : List Bool} {ring : List Bool} (h : EvA K M ta σ F H [d, d2]) (hp : RowB d few ∧ RowB d2 ring ∧ ring ≠ [] ∧ ring.length ≤ 100000) : EvD K M (tCall (sp_least_of K) [] E ta) σ F H (pset (leastOf few ring)) := ev_call (d, d2, few, ring) h hp
local macro_rules | `(tactic| walk_at "ev") => `(tactic| ((with_reducible show EvD _ _ (tCall (sp_least_of _) _ _ _) _ _ _ _); exact ev_least_of (by walk_at "ea") (by walk_at "sc")))
abbrev N_least_of : List Str := ["few", "ring"]
def t_least_of (K : PySem.W.Frag) : TS :=
  (tSeq (tPar 0 1 (tCons (tCB (rTupleOf K) (tCons (tVar 0) tNil)) (tCons (tSl (rSlU K) (tCB (rTupleOf K) (tCons (tVar 1) tNil)) tNoPart (tPart (tCall (sp_round_size K) [] E0 (tCons (tCB (rTupleOf K) (tCons (tVar 1) tNil)) tNil)))) tNil)))
  (tSeq (tWhile (tAnd (tTru K (tVar 0)) (tTest (tOp (rEqD K) (tOp (rIx K) (tVar 0) (tUn rNegI (tC (.int 1)))) (tOp (rIx K) (tVar 1) (tUn rNegI (tC (.int 1)))))))
   (tPar 0 1 (tCons (tSl (rSlU K) (tVar 0) tNoPart (tPart (tUn rNegI (tC (.int 1))))) (tCons (tOp (rAddU K) (tSl (rSlU K) (tVar 1) (tPart (tUn rNegI (tC (.int 1)))) tNoPart) (tSl (rSlU K) (tVar 1) tNoPart (tPart (tUn rNegI (tC (.int 1)))))) tNil))))
  (tRet (tTup (tCons (tVar 0) (tCons (tVar 1) tNil))))))
theorem rd_least_of' {K : PySem.W.Frag} {F H : Hp} (d : PyData) (d2 : PyData) (few : List Bool) (ring : List Bool) {vs : List V} (e : Same F H) (rs : RpAll K F vs [d, d2]) (hp : RowB d few ∧ RowB d2 ring ∧ ring ≠ [] ∧ ring.length ≤ 100000) (D : Ends) (hn : ∀ σ H', D.nx σ H' = D.rt .non H') (q : ∀ F' H' v, Sx [] F H F' H' → Rp K F' v (pset (leastOf few ring)) → D.rt v H') : t_least_of K D (L2.start N_least_of vs) H := by
  obtain ⟨v, u, rfl, h1, h2⟩ := rs.inv2
  obtain ⟨hd, hd2, hne, hbig⟩ := hp
  refine q_par (K := K) (M := []) (d := tB few) (e := tB (ring.take (roundSize ring))) e (ea_cons (tup_row (by walk_at "ev") hd) (ea_cons (xTakeT (k := roundSize ring) (tup_row (by walk_at "ev") hd2) (eo_some (ev_round_size (ea_cons (tup_row (by walk_at "ev") hd2) ea_nil) hne))) ea_nil)) fun F1 H1 v1 v2 s1 r1 r2 => ?_
  have hne1 : ring.take (roundSize ring) ≠ [] := fun z => by
    have h3 := congrArg List.length z
    rw [List.length_take] at h3
    have := rnd_pos ring (ring.length - 1) 1 (Nat.le_refl 1)
    have hp := List.length_pos_iff.mpr hne
    unfold roundSize at h3
    rw [List.length_nil] at h3
    omega
  refine q_while (K := K) (M := []) (fun m σ' F' H' => ∃ f r v v', r ≠ [] ∧ r.length ≤ 100000 ∧ m = f.length ∧ roll f.reverse r = leastOf few ring ∧ Rp K F' v (tB f) ∧ Rp K F' v' (tB r) ∧ σ' = [some v, some v']) s1.fh few.length ⟨few, _, v1, v2, hne1, by rw [List.length_take]; omega, rfl, rfl, r1, r2, rfl⟩ ?_
  rintro m σ' F' H' s' ⟨f, r, v, v', hr, hrl, rfl, hroll, hf, hr', rfl⟩
  have hlr : r.getLast? = some (r.getLast hr) := List.getLast?_eq_getLast hr
  have atr := atI_last1 (f := PyData.bool) hlr
  by_cases h0 : f = []
  · subst h0
    refine ⟨false && false, [], et_and (xTru (d := tB []) (by walk_at "ev") rfl) (fun z => absurd z (by decide)), fun hb => absurd hb (by decide), fun _ F2 H2 s2 => ?_⟩
    refine st_ret (K := K) (M := []) (d := .tuple [tB [], tB r]) s2.fh (by walk_at "ev") fun F3 H3 w s3 ru => q _ _ _ (((s1.trans s').trans s2).trans s3) ?_
    rw [← hroll]
    exact ru
  · have hlf : f.getLast? = some (f.getLast h0) := List.getLast?_eq_getLast h0
    have atf := atI_last1 (f := PyData.bool) hlf
    have hrev : f.reverse = f.getLast h0 :: f.dropLast.reverse := by
      conv => lhs; rw [← List.dropLast_concat_getLast h0]
      rw [List.reverse_append]; rfl
    rw [hrev, roll, hlr] at hroll
    refine ⟨true && decide (f.getLast h0 = r.getLast hr), [], et_and (xTru (d := tB f) (by walk_at "ev") (by cases f with | nil => exact absurd rfl h0 | cons a b => rfl)) (fun _ => by walk_at "et"), fun hb F2 H2 s2 => ?_, fun hb F2 H2 s2 => ?_⟩
    · have heq : f.getLast h0 = r.getLast hr := by simpa using hb
      rw [if_pos (by rw [heq])] at hroll
      refine st_par (K := K) (M := []) (d := tB f.dropLast) (e := tB ([r.getLast hr] ++ r.dropLast)) s2.fh (ea_cons (xInitT (by walk_at "ev") (by walk_at "eo")) (ea_cons ((ev_op (xTail1T hlr (by walk_at "ev") (by walk_at "eo")) (xInitT (by walk_at "ev") (by walk_at "eo")) (xAddT ?_)).is (congrArg PyData.tuple List.map_append.symm)) ea_nil)) fun F3 H3 w w' s3 rw rw' => ⟨_, ?_, F3, (s'.trans s2).trans s3, f.dropLast, _, w, w', by simp, ?_, rfl, ?_, rw, rw', rfl⟩
      · rw [List.length_map, List.length_map, List.length_dropLast, List.length_singleton]; omega
      · rw [List.length_dropLast]
        have := List.length_pos_iff.mpr h0
        omega
      · rw [List.length_append, List.length_dropLast, List.length_singleton]; omega
      · rw [← hroll, heq]; rfl
    · have hneq : f.getLast h0 ≠ r.getLast hr := by simpa using hb
      rw [if_neg (fun z => hneq (Option.some.inj z).symm)] at hroll
      refine st_ret (K := K) (M := []) (d := .tuple [tB f, tB r]) s2.fh (by walk_at "ev") fun F3 H3 w s3 ru => q _ _ _ (((s1.trans s').trans s2).trans s3) ?_
      rw [← hroll, ← hrev, List.reverse_reverse]
      exact ru
/-! ### set_in, need_set, need_sets, told_set -/
def sp_set_in (K : PySem.W.Frag) : Sp := spP K (fun i : (PyData) × (Bs) => (fun (d : PyData) (p : Bs) => ([d] : List PyData)) i.1 i.2) (fun i => (fun (d : PyData) (p : Bs) => (pset (leastOf p.1 p.2) : PyData)) i.1 i.2) (fun i => (fun (d : PyData) (p : Bs) => (SetD d p ∧ Small p : Prop)) i.1 i.2)
theorem ev_set_in {K : PySem.W.Frag} {M : List Addr} {σ : L2.St} {F H : Hp} {ta : TA} {E : XK} {d : PyData} {p : Bs} (h : EvA K M ta σ F H [d]) (hp : SetD d p ∧ Small p) : EvD K M (tCall (sp_set_in K) [] E ta) σ F H (pset (leastOf p.1 p.2)) := ev_call (d, p) h hp
local macro_rules | `(tactic| walk_at "ev") => `(tactic| ((with_reducible show EvD _ _ (tCall (sp_set_in _) _ _ _) _ _ _ _); exact ev_set_in (by walk_at "ea") (by walk_at "sc")))
abbrev N_set_in : List Str := ["thing"]
def t_set_in (K : PySem.W.Frag) : TS :=
  (tSeq (tIfS (tOr (tNot (tTru K (tCall (sp_is_row K) [] E0 (tCons (tVar 0) tNil)))) (tOr (tTest (tOp (rNeD K) (tCB (rLen K) (tCons (tVar 0) tNil)) (tC (.int 2)))) (tOr (tNot (tTru K (tCall (sp_is_truths K) [] E0 (tCons (tOp (rIx K) (tVar 0) (tC (.int 0))) tNil)))) (tOr (tNot (tTru K (tCall (sp_is_truths K) [] E0 (tCons (tOp (rIx K) (tVar 0) (tC (.int 1))) tNil)))) (tNot (tTru K (tOp (rIx K) (tVar 0) (tC (.int 1)))))))))
   (tRet (tC (.non)))
   tNext)
  (tRet (tCall (sp_least_of K) [] E0 (tCons (tOp (rIx K) (tVar 0) (tC (.int 0))) (tCons (tOp (rIx K) (tVar 0) (tC (.int 1))) tNil)))))
theorem rd_set_in' {K : PySem.W.Frag} {F H : Hp} (d : PyData) (p : Bs) {vs : List V} (e : Same F H) (rs : RpAll K F vs [d]) (hp : SetD d p ∧ Small p) (D : Ends) (hn : ∀ σ H', D.nx σ H' = D.rt .non H') (q : ∀ F' H' v, Sx [] F H F' H' → Rp K F' v (pset (leastOf p.1 p.2)) → D.rt v H') : t_set_in K D (L2.start N_set_in vs) H := by
  obtain ⟨v, rfl, h1⟩ := rs.inv1
  obtain ⟨⟨f, r, hd, hf, hr⟩, hl1, hl2, hne⟩ := hp
  have hrow : isRow d = true := by rcases hd with rfl | rfl <;> rfl
  have i0 : ∀ {M : List Addr} {F H : Hp}, Rp K F v d → EvD K M (tOp (rIx K) (tVar 0) (tC (.int 0))) [some v] F H f := fun {M F H} h => by
    rcases hd with rfl | rfl
    · exact ev_op (ev_var rfl h) ev_int (rv_ixl rfl)
    · exact ev_op (ev_var rfl h) ev_int (rv_ixt rfl)
  have i1 : ∀ {M : List Addr} {F H : Hp}, Rp K F v d → EvD K M (tOp (rIx K) (tVar 0) (tC (.int 1))) [some v] F H r := fun {M F H} h => by
    rcases hd with rfl | rfl
    · exact ev_op (ev_var rfl h) ev_int (rv_ixl rfl)
    · exact ev_op (ev_var rfl h) ev_int (rv_ixt rfl)
  have il : ∀ {M : List Addr} {F H : Hp}, Rp K F v d → EvD K M (tCB (rLen K) (tCons (tVar 0) tNil)) [some v] F H (.int 2) := fun {M F H} h => by
    rcases hd with rfl | rfl
    · exact ev_cb (ea_cons (ev_var rfl h) ea_nil) xLenL
    · exact ev_cb (ea_cons (ev_var rfl h) ea_nil) xLenT
  have tr : truthD r = some true := by
    rcases hr with rfl | rfl
    · cases h : p.2 with
      | nil => exact absurd h hne
      | cons a b => rfl
    · cases h : p.2 with
      | nil => exact absurd h hne
      | cons a b => rfl
  refine q_when (K := K) (M := []) (b := !isRow d || (!decide ((2 : Int) = 2) || (!true || (!true || !true)))) e ?_ (fun hb => absurd hb (by rw [hrow]; decide)) fun _ F1 H1 s1 => ?_
  · refine et_or (et_not (xTru (ev_is_row (ea_cons (ev_var rfl h1) ea_nil)) rfl)) fun _ => et_or (et_test (ev_op (il h1) ev_int xNeI)) fun _ => et_or (et_not (xTru (ev_is_truths (bs := p.1) (ea_cons (i0 h1) ea_nil) ⟨hf, hl1⟩) rfl)) fun _ => et_or (et_not (xTru (ev_is_truths (bs := p.2) (ea_cons (i1 h1) ea_nil) ⟨hr, hl2⟩) rfl)) fun _ => et_not (xTru (i1 h1) tr)
  · exact st_ret (K := K) (M := []) (d := pset (leastOf p.1 p.2)) s1.fh (ev_least_of (ea_cons (i0 (h1.mono s1.ff)) (ea_cons (i1 (h1.mono s1.ff)) ea_nil)) ⟨hf, hr, hne, by omega⟩) fun F2 H2 u s2 ru => q _ _ _ (s1.trans s2) ru
def sp_need_set (K : PySem.W.Frag) : Sp := spP K (fun i : (PyData) × (Bs) => (fun (d : PyData) (p : Bs) => ([d] : List PyData)) i.1 i.2) (fun i => (fun (d : PyData) (p : Bs) => (pset (leastOf p.1 p.2) : PyData)) i.1 i.2) (fun i => (fun (d : PyData) (p : Bs) => (SetD d p ∧ Small p : Prop)) i.1 i.2)
theorem ev_need_set {K : PySem.W.Frag} {M : List Addr} {σ : L2.St} {F H : Hp} {ta : TA} {E : XK} {d : PyData} {p : Bs} (h : EvA K M ta σ F H [d]) (hp : SetD d p ∧ Small p) : EvD K M (tCall (sp_need_set K) [] E ta) σ F H (pset (leastOf p.1 p.2)) := ev_call (d, p) h hp
local macro_rules | `(tactic| walk_at "ev") => `(tactic| ((with_reducible show EvD _ _ (tCall (sp_need_set _) _ _ _) _ _ _ _); exact ev_need_set (by walk_at "ea") (by walk_at "sc")))
abbrev N_need_set : List Str := ["numbers", "plain"]
def t_need_set (K : PySem.W.Frag) : TS :=
  (tSeq (tAsg (tCall (sp_set_in K) [] E0 (tCons (tVar 0) tNil)) (gName 1))
  (tSeq (tIfS (tTest (tOp rIsN (tVar 1) (tC (.non))))
   tNever
   tNext)
  (tRet (tVar 1))))
theorem rd_need_set' {K : PySem.W.Frag} {F H : Hp} (d : PyData) (p : Bs) {vs : List V} (e : Same F H) (rs : RpAll K F vs [d]) (hp : SetD d p ∧ Small p) (D : Ends) (hn : ∀ σ H', D.nx σ H' = D.rt .non H') (q : ∀ F' H' v, Sx [] F H F' H' → Rp K F' v (pset (leastOf p.1 p.2)) → D.rt v H') : t_need_set K D (L2.start N_need_set vs) H := by
  obtain ⟨v, rfl, h1⟩ := rs.inv1
  refine q_set (K := K) (M := []) (d := pset (leastOf p.1 p.2)) e (ev_set_in (by walk_at "ea") hp) fun F1 H1 v1 s1 r1 => ?_
  refine q_when (K := K) (M := []) (b := false) s1.fh (et_test (ev_op (by walk_at "ev") (by walk_at "ev") xIsN)) (fun hb => absurd hb (by decide)) fun _ F2 H2 s2 => ?_
  exact st_ret (K := K) (M := []) (d := pset (leastOf p.1 p.2)) s2.fh (by walk_at "ev") fun F3 H3 u s3 ru => q _ _ _ ((s1.trans s2).trans s3) ru
def sp_need_sets (K : PySem.W.Frag) : Sp := spP K (fun i : (PyData) × (PyData) × (Bs) × (Bs) => (fun (d : PyData) (d2 : PyData) (p : Bs) (p2 : Bs) => ([d, d2] : List PyData)) i.1 i.2.1 i.2.2.1 i.2.2.2) (fun i => (fun (d : PyData) (d2 : PyData) (p : Bs) (p2 : Bs) => (.tuple [pset (leastOf p.1 p.2), pset (leastOf p2.1 p2.2)] : PyData)) i.1 i.2.1 i.2.2.1 i.2.2.2) (fun i => (fun (d : PyData) (d2 : PyData) (p : Bs) (p2 : Bs) => ((SetD d p ∧ Small p) ∧ (SetD d2 p2 ∧ Small p2) : Prop)) i.1 i.2.1 i.2.2.1 i.2.2.2)
theorem ev_need_sets {K : PySem.W.Frag} {M : List Addr} {σ : L2.St} {F H : Hp} {ta : TA} {E : XK} {d : PyData} {d2 : PyData} {p : Bs} {p2 : Bs} (h : EvA K M ta σ F H [d, d2]) (hp : (SetD d p ∧ Small p) ∧ (SetD d2 p2 ∧ Small p2)) : EvD K M (tCall (sp_need_sets K) [] E ta) σ F H (.tuple [pset (leastOf p.1 p.2), pset (leastOf p2.1 p2.2)]) := ev_call (d, d2, p, p2) h hp
local macro_rules | `(tactic| walk_at "ev") => `(tactic| ((with_reducible show EvD _ _ (tCall (sp_need_sets _) _ _ _) _ _ _ _); exact ev_need_sets (by walk_at "ea") (by walk_at "sc")))
abbrev N_need_sets : List Str := ["numbers", "other", "plain", "second"]
def t_need_sets (K : PySem.W.Frag) : TS :=
  (tSeq (tPar 2 3 (tCons (tCall (sp_need_set K) [] E0 (tCons (tVar 0) tNil)) (tCons (tCall (sp_set_in K) [] E0 (tCons (tVar 1) tNil)) tNil)))
  (tSeq (tIfS (tTest (tOp rIsN (tVar 3) (tC (.non))))
   tNever
   tNext)
  (tRet (tTup (tCons (tVar 2) (tCons (tVar 3) tNil))))))
theorem rd_need_sets' {K : PySem.W.Frag} {F H : Hp} (d : PyData) (d2 : PyData) (p : Bs) (p2 : Bs) {vs : List V} (e : Same F H) (rs : RpAll K F vs [d, d2]) (hp : (SetD d p ∧ Small p) ∧ (SetD d2 p2 ∧ Small p2)) (D : Ends) (hn : ∀ σ H', D.nx σ H' = D.rt .non H') (q : ∀ F' H' v, Sx [] F H F' H' → Rp K F' v (.tuple [pset (leastOf p.1 p.2), pset (leastOf p2.1 p2.2)]) → D.rt v H') : t_need_sets K D (L2.start N_need_sets vs) H := by
  obtain ⟨v, u, rfl, h1, h2⟩ := rs.inv2
  refine q_par (K := K) (M := []) (d := pset (leastOf p.1 p.2)) (e := pset (leastOf p2.1 p2.2)) e (ea_cons (ev_need_set (by walk_at "ea") hp.1) (ea_cons (ev_set_in (by walk_at "ea") hp.2) ea_nil)) fun F1 H1 v1 v2 s1 r1 r2 => ?_
  refine q_when (K := K) (M := []) (b := false) s1.fh (et_test (ev_op (by walk_at "ev") (by walk_at "ev") xIsN)) (fun hb => absurd hb (by decide)) fun _ F2 H2 s2 => ?_
  exact st_ret (K := K) (M := []) s2.fh (by walk_at "ev") fun F3 H3 u s3 ru => q _ _ _ ((s1.trans s2).trans s3) ru
def sp_told_set (K : PySem.W.Frag) : Sp := spP K (fun i : (Bs) => (fun (p : Bs) => ([pset p] : List PyData)) i) (fun i => (fun (p : Bs) => (.tuple [lB p.1, lB p.2] : PyData)) i) (fun i => (fun (p : Bs) => (p.1.length ≤ 60 ∧ p.2.length ≤ 60 : Prop)) i)
theorem ev_told_set {K : PySem.W.Frag} {M : List Addr} {σ : L2.St} {F H : Hp} {ta : TA} {E : XK} {p : Bs} (h : EvA K M ta σ F H [pset p]) (hp : p.1.length ≤ 60 ∧ p.2.length ≤ 60) : EvD K M (tCall (sp_told_set K) [] E ta) σ F H (.tuple [lB p.1, lB p.2]) := ev_call (p) h hp
local macro_rules | `(tactic| walk_at "ev") => `(tactic| ((with_reducible show EvD _ _ (tCall (sp_told_set _) _ _ _) _ _ _ _); exact ev_told_set (by walk_at "ea") (by walk_at "sc")))
abbrev N_told_set : List Str := ["plain", "many"]
def t_told_set (K : PySem.W.Frag) : TS :=
  (tSeq (tAsg (tCB rMax2 (tCons (tCB (rLen K) (tCons (tOp (rIx K) (tVar 0) (tC (.int 0))) tNil)) (tCons (tCB (rLen K) (tCons (tOp (rIx K) (tVar 0) (tC (.int 1))) tNil)) tNil))) (gName 1))
  (tSeq (tIfS (tTest (tOp rGtI (tVar 1) (tC (.int 60))))
   tNever
   tNext)
  (tRet (tTup (tCons (tCB (rListOf K) (tCons (tOp (rIx K) (tVar 0) (tC (.int 0))) tNil)) (tCons (tCB (rListOf K) (tCons (tOp (rIx K) (tVar 0) (tC (.int 1))) tNil)) tNil))))))
theorem rd_told_set' {K : PySem.W.Frag} {F H : Hp} (p : Bs) {vs : List V} (e : Same F H) (rs : RpAll K F vs [pset p]) (hp : p.1.length ≤ 60 ∧ p.2.length ≤ 60) (D : Ends) (hn : ∀ σ H', D.nx σ H' = D.rt .non H') (q : ∀ F' H' v, Sx [] F H F' H' → Rp K F' v (.tuple [lB p.1, lB p.2]) → D.rt v H') : t_told_set K D (L2.start N_told_set vs) H := by
  obtain ⟨v, rfl, h1⟩ := rs.inv1
  refine q_set (K := K) (M := []) (d := .int (max ((p.1.map PyData.bool).length : Int) ((p.2.map PyData.bool).length : Int))) e (by walk_at "ev") fun F1 H1 v1 s1 r1 => ?_
  refine q_when (K := K) (M := []) (b := decide (max ((p.1.map PyData.bool).length : Int) ((p.2.map PyData.bool).length : Int) > 60)) s1.fh (et_test (by walk_at "ev")) (fun hb => absurd hb ?_) fun _ F2 H2 s2 => ?_
  · rw [List.length_map, List.length_map, decide_eq_true_eq]; omega
  exact st_ret (K := K) (M := []) (d := .tuple [lB p.1, lB p.2]) s2.fh (by walk_at "ev") fun F3 H3 u s3 ru => q _ _ _ ((s1.trans s2).trans s3) ru
end
end Sf

namespace Sf
open PySem L2
/-! evaluation, construct by construct -/
local macro_rules | `(tactic| walk_at "rp") => `(tactic| first | assumption | exact .int _ | exact .bl _ | exact .str _ | exact .non | exact Rp.mono (Sx.ff (by assumption)) (by walk_at "rp"))
local macro_rules | `(tactic| walk_at "sc") => `(tactic| first | rfl | assumption | omega | decide | (simp; done) | (simp; omega))
local macro_rules | `(tactic| walk_at "ix") => `(tactic| first | rfl | assumption)
local macro_rules | `(tactic| walk_at "rv") => `(tactic| first
  | exact xAddI | exact xSub | exact xLt | exact xLe | exact xGt | exact xGe | exact xIsN | exact xNotN | exact xEqI | exact xNeI | exact xEqB | exact xNeB | exact xEqLB | exact xEqTB | exact xNeTB
  | exact xMod (by walk_at "sc")
  | exact xDiv (by walk_at "sc")
  | exact xPow (by walk_at "sc")
  | exact xMulI (by walk_at "sc")
  | exact rv_ixt (by walk_at "ix")
  | exact rv_ixl (by walk_at "ix")
  | exact xAddL (by walk_at "sc")
  | exact xAddT (by walk_at "sc"))
local macro_rules | `(tactic| walk_at "rc") => `(tactic| first | exact xLenL | exact xLenT | exact xListL | exact xListT | exact xTupL | exact xTupT | exact xMax2 | exact xInt | exact rc_all | exact rc_any)
local macro_rules | `(tactic| walk_at "ea") => `(tactic| first | exact ea_nil | refine ea_cons (by walk_at "ev") (by walk_at "ea"))
local macro_rules | `(tactic| walk_at "eo") => `(tactic| first | exact eo_none | refine eo_some (by walk_at "ev"))
local macro_rules | `(tactic| walk_at "et") => `(tactic| first
  | ((with_reducible show EvT _ _ (tTest _) _ _ _ _); exact et_test (by walk_at "ev"))
  | ((with_reducible show EvT _ _ (tNot _) _ _ _ _); exact et_not (by walk_at "et"))
  | ((with_reducible show EvT _ _ (tAnd _ _) _ _ _ _); exact et_and (by walk_at "et") (fun hh => by walk_at "et"))
  | ((with_reducible show EvT _ _ (tOr _ _) _ _ _ _); exact et_or (by walk_at "et") (fun hh => by walk_at "et"))
  | ((with_reducible show EvT _ _ (tTru _ _) _ _ _ _); exact xTru (by walk_at "ev") (by walk_at "sc"))
  | ((with_reducible show EvT _ _ tYes _ _ _ _); exact et_yes))
local macro_rules | `(tactic| walk_at "ev") => `(tactic| first
  | ((with_reducible show EvD _ _ (tC _) _ _ _ _); first | exact ev_int | exact ev_bl | exact ev_str | exact ev_non)
  | ((with_reducible show EvD _ _ (tVar _) _ _ _ _); exact ev_var (by rfl) (by walk_at "rp"))
  | ((with_reducible show EvD _ _ (tOp _ _ _) _ _ _ _); exact ev_op (by walk_at "ev") (by walk_at "ev") (by walk_at "rv"))
  | ((with_reducible show EvD _ _ (tUn _ _) _ _ _ _); exact ev_un (by walk_at "ev") xNeg)
  | ((with_reducible show EvD _ _ (tCB _ _) _ _ _ _); exact ev_cb (by walk_at "ea") (by walk_at "rc"))
  | ((with_reducible show EvD _ _ (tTup _) _ _ _ _); exact ev_tup (by walk_at "ea") (by walk_at "sc"))
  | ((with_reducible show EvD _ _ (tLst _) _ _ _ _); exact ev_lst (by walk_at "ea") (by walk_at "sc"))
  | ((with_reducible show EvD _ _ (tSl _ _ _ _) _ _ _ _); first | exact xSlL (by walk_at "ev") (by walk_at "eo") (by walk_at "eo") | exact xSlT (by walk_at "ev") (by walk_at "eo") (by walk_at "eo"))
  | ((with_reducible show EvD _ _ (tNotT _ _) _ _ _ _); exact ev_notT (by walk_at "ev") (by walk_at "sc"))
  | ((with_reducible show EvD _ _ (tAndT _ _ _) _ _ _ _); exact ev_andB (by walk_at "ev") (fun hh => by walk_at "ev"))
  | ((with_reducible show EvD _ _ (tOrT _ _ _) _ _ _ _); exact ev_orB (by walk_at "ev") (fun hh => by walk_at "ev")))

local macro_rules | `(tactic| walk_at "ev") => `(tactic| ((with_reducible show EvD _ _ (tCall (sp_is_row _) _ _ _) _ _ _ _); exact ev_is_row (by walk_at "ea")))
local macro_rules | `(tactic| walk_at "ev") => `(tactic| ((with_reducible show EvD _ _ (tCall (sp_is_number _) _ _ _) _ _ _ _); exact ev_is_number (by walk_at "ea")))
local macro_rules | `(tactic| walk_at "ev") => `(tactic| ((with_reducible show EvD _ _ (tCall (sp_is_truths _) _ _ _) _ _ _ _); exact ev_is_truths (by walk_at "ea") (by walk_at "sc")))
local macro_rules | `(tactic| walk_at "ev") => `(tactic| ((with_reducible show EvD _ _ (tCall (sp_round_size _) _ _ _) _ _ _ _); exact ev_round_size (by walk_at "ea") (by walk_at "sc")))
local macro_rules | `(tactic| walk_at "ev") => `(tactic| ((with_reducible show EvD _ _ (tCall (sp_in_set _) _ _ _) _ _ _ _); exact ev_in_set (by walk_at "ea") (by walk_at "sc")))
local macro_rules | `(tactic| walk_at "ev") => `(tactic| ((with_reducible show EvD _ _ (tCall (sp_common_round _) _ _ _) _ _ _ _); exact ev_common_round (by walk_at "ea") (by walk_at "sc")))
local macro_rules | `(tactic| walk_at "ev") => `(tactic| ((with_reducible show EvD _ _ (tCall (sp_least_of _) _ _ _) _ _ _ _); exact ev_least_of (by walk_at "ea") (by walk_at "sc")))
local macro_rules | `(tactic| walk_at "ev") => `(tactic| ((with_reducible show EvD _ _ (tCall (sp_set_in _) _ _ _) _ _ _ _); exact ev_set_in (by walk_at "ea") (by walk_at "sc")))
local macro_rules | `(tactic| walk_at "ev") => `(tactic| ((with_reducible show EvD _ _ (tCall (sp_need_set _) _ _ _) _ _ _ _); exact ev_need_set (by walk_at "ea") (by walk_at "sc")))
local macro_rules | `(tactic| walk_at "ev") => `(tactic| ((with_reducible show EvD _ _ (tCall (sp_need_sets _) _ _ _) _ _ _ _); exact ev_need_sets (by walk_at "ea") (by walk_at "sc")))
local macro_rules | `(tactic| walk_at "ev") => `(tactic| ((with_reducible show EvD _ _ (tCall (sp_told_set _) _ _ _) _ _ _ _); exact ev_told_set (by walk_at "ea") (by walk_at "sc")))
theorem lcm_le (a b : Nat) (ha : 0 < a) (hb : 0 < b) : Nat.lcm a b ≤ a * b := Nat.le_of_dvd (Nat.mul_pos ha hb) (Nat.lcm_dvd_mul a b)
theorem mul60 {a b : Nat} (ha : a ≤ 60) (hb : b ≤ 60) : a * b ≤ 3600 := Nat.mul_le_mul ha hb
theorem eqv_pair (a b c d : Bool) : PyData.eqv (pairD (a, b)) (.tuple [.bool c, .bool d]) = (a == c && b == d) := by
  unfold pairD
  simp only [PyData.eqv, PyData.eqvAll, Bool.and_true]
theorem sh_pair {a b : Bool} : SeqAt.shaped (.tuple [.bool a, .bool b]) = true := (Lay.tuple (n := 0) (ds := [.bool a, .bool b]) (by intro d h; simp at h; rcases h with rfl | rfl <;> exact Lay.bool)).shaped (by decide)
theorem sh_pairs {ts : List (Bool × Bool)} : SeqAt.shaped (.list (ts.map pairD)) = true := (Lay.list (n := 1) (ds := ts.map pairD) (by
  intro d h
  obtain ⟨t, _, rfl⟩ := List.mem_map.mp h
  exact Lay.tuple (n := 0) (by intro d h; simp at h; rcases h with rfl | rfl <;> exact Lay.bool))).shaped (by decide)
def setRow (p q : Bs) (ts : List (Bool × Bool)) : List Bool := (List.range (max p.1.length q.1.length + Nat.lcm p.2.length q.2.length)).map fun n => ts.any fun t => t.1 == inSet p n && t.2 == inSet q n
theorem setBy_eq (p q : Bs) (ts : List (Bool × Bool)) : setBy p q ts = leastOf ((setRow p q ts).take (max p.1.length q.1.length)) ((setRow p q ts).drop (max p.1.length q.1.length)) := rfl
section
variable {K : PySem.W.Frag}
/-! ### set_by -/
def sp_set_by (K : PySem.W.Frag) : Sp := spP K (fun i : (Bs) × (Bs) × (List (Bool × Bool)) => (fun (p : Bs) (p2 : Bs) (ts : List (Bool × Bool)) => ([pset p, pset p2, .list (ts.map pairD)] : List PyData)) i.1 i.2.1 i.2.2) (fun i => (fun (p : Bs) (p2 : Bs) (ts : List (Bool × Bool)) => (pset (setBy p p2 ts) : PyData)) i.1 i.2.1 i.2.2) (fun i => (fun (p : Bs) (p2 : Bs) (ts : List (Bool × Bool)) => (Small p ∧ Small p2 : Prop)) i.1 i.2.1 i.2.2)
theorem ev_set_by {K : PySem.W.Frag} {M : List Addr} {σ : L2.St} {F H : Hp} {ta : TA} {E : XK} {p : Bs} {p2 : Bs} {ts : List (Bool × Bool)} (h : EvA K M ta σ F H [pset p, pset p2, .list (ts.map pairD)]) (hp : Small p ∧ Small p2) : EvD K M (tCall (sp_set_by K) [] E ta) σ F H (pset (setBy p p2 ts)) := ev_call (p, p2, ts) h hp
local macro_rules | `(tactic| walk_at "ev") => `(tactic| ((with_reducible show EvD _ _ (tCall (sp_set_by _) _ _ _) _ _ _ _); exact ev_set_by (by walk_at "ea") (by walk_at "sc")))
abbrev N_set_by : List Str := ["one", "two", "truths", "row", "begin", "size", "number"]
def t_set_by (K : PySem.W.Frag) : TS :=
  (tSeq (tPar 4 5 (tCons (tCB rMax2 (tCons (tCB (rLen K) (tCons (tOp (rIx K) (tVar 0) (tC (.int 0))) tNil)) (tCons (tCB (rLen K) (tCons (tOp (rIx K) (tVar 1) (tC (.int 0))) tNil)) tNil))) (tCons (tCall (sp_common_round K) [] E0 (tCons (tOp (rIx K) (tVar 0) (tC (.int 1))) (tCons (tOp (rIx K) (tVar 1) (tC (.int 1))) tNil))) tNil)))
  (tSeq (tAsg (tLc (iRng1 (tCons (tOp (rAddU K) (tVar 4) (tVar 5)) tNil)) (gName 6) tYes (tOp (rInD K) (tTup (tCons (tCall (sp_in_set K) [] E0 (tCons (tVar 0) (tCons (tVar 6) tNil))) (tCons (tCall (sp_in_set K) [] E0 (tCons (tVar 1) (tCons (tVar 6) tNil))) tNil))) (tVar 2)) [6]) (gName 3))
  (tRet (tCall (sp_least_of K) [] E0 (tCons (tSl (rSlU K) (tVar 3) tNoPart (tPart (tVar 4))) (tCons (tSl (rSlU K) (tVar 3) (tPart (tVar 4)) tNoPart) tNil))))))
theorem rd_set_by' {K : PySem.W.Frag} {F H : Hp} (p : Bs) (p2 : Bs) (ts : List (Bool × Bool)) {vs : List V} (e : Same F H) (rs : RpAll K F vs [pset p, pset p2, .list (ts.map pairD)]) (hp : Small p ∧ Small p2) (D : Ends) (hn : ∀ σ H', D.nx σ H' = D.rt .non H') (q : ∀ F' H' v, Sx [] F H F' H' → Rp K F' v (pset (setBy p p2 ts)) → D.rt v H') : t_set_by K D (L2.start N_set_by vs) H := by
  obtain ⟨v1, v2, v3, rfl, h1, h2, h3⟩ := rs.inv3
  obtain ⟨⟨l1, l2, n1⟩, l3, l4, n2⟩ := hp
  have p1 := List.length_pos_iff.mpr n1
  have p2p := List.length_pos_iff.mpr n2
  have hL : 0 < Nat.lcm p.2.length p2.2.length := Nat.lcm_pos p1 p2p
  have hL2 : Nat.lcm p.2.length p2.2.length ≤ 3600 := Nat.le_trans (lcm_le _ _ p1 p2p) (mul60 l2 l4)
  refine q_par (K := K) (M := []) (d := .int (max ((p.1.map PyData.bool).length : Int) ((p2.1.map PyData.bool).length : Int))) (e := .int (Nat.lcm p.2.length p2.2.length : Nat)) e ?_ fun F1 H1 u1 u2 s1 r1 r2 => ?_
  · exact ea_cons (by walk_at "ev") (ea_cons (ev_common_round (by walk_at "ea") ⟨n1, n2⟩) ea_nil)
  cases r1.int_of
  cases r2.int_of
  have em : max ((p.1.map PyData.bool).length : Int) ((p2.1.map PyData.bool).length : Int) = ((max p.1.length p2.1.length : Nat) : Int) := by rw [List.length_map, List.length_map]; omega
  rw [em]
  refine q_set (K := K) (M := []) (d := .list ((setRow p p2 ts).map .bool)) s1.fh (EvD.is (EvN.ev (en_lcR1 (max p.1.length p2.1.length + Nat.lcm p.2.length p2.2.length) (fun n => .bool ((ts.map pairD).any fun z => PyData.eqv z (.tuple [.bool (inSet p n), .bool (inSet p2 n)]))) (fun _ => true) (j := 6) (m := ((max p.1.length p2.1.length : Nat) : Int) + (Nat.lcm p.2.length p2.2.length : Nat)) (by walk_at "ea") (by rw [Int.natCast_add]) (by omega) rfl (fun _ => rfl) (fun _ _ _ _ _ => et_yes) (fun a ha _ F2 H2 s2 => ?_))) ?_) fun F2 H2 v s2 rv => ?_
  · exact ev_op (ev_tup (ea_cons (ev_in_set (p := p) (n := a) (by walk_at "ea") n1) (ea_cons (ev_in_set (p := p2) (n := a) (by walk_at "ea") n2) ea_nil)) (by simp)) (by walk_at "ev") (xInD sh_pair sh_pairs)
  · rw [filter_yes]
    unfold setRow
    rw [List.map_map]
    congr 1
    apply List.map_congr_left
    intro n _
    simp only [Function.comp, List.any_map]
    congr 1
    congr 1
    funext t
    exact eqv_pair t.1 t.2 _ _
  · have hlen : (setRow p p2 ts).length = max p.1.length p2.1.length + Nat.lcm p.2.length p2.2.length := by unfold setRow; simp
    refine st_ret (K := K) (M := []) (d := pset (setBy p p2 ts)) s2.fh ?_ fun F3 H3 u s3 ru => q _ _ _ ((s1.trans s2).trans s3) ru
    rw [setBy_eq]
    refine ev_least_of (d := lB ((setRow p p2 ts).take (max p.1.length p2.1.length))) (d2 := lB ((setRow p p2 ts).drop (max p.1.length p2.1.length))) (ea_cons (xTakeL (by walk_at "ev") (by walk_at "eo")) (ea_cons (xDropL (by walk_at "ev") (by walk_at "eo")) ea_nil)) ⟨.inl rfl, .inl rfl, fun z => ?_, ?_⟩
    · have := congrArg List.length z
      rw [List.length_drop, hlen, List.length_nil] at this
      omega
    · rw [List.length_drop, hlen]; omega
/-! ### first_of -/
def sp_first_of (K : PySem.W.Frag) : Sp := spP K (fun i : (Bs) => (fun (p : Bs) => ([pset p] : List PyData)) i) (fun i => (fun (p : Bs) => (optD (firstOf p) : PyData)) i) (fun i => (fun (p : Bs) => (p.2 ≠ [] ∧ p.1.length ≤ 5000 ∧ p.2.length ≤ 5000 : Prop)) i)
theorem ev_first_of {K : PySem.W.Frag} {M : List Addr} {σ : L2.St} {F H : Hp} {ta : TA} {E : XK} {p : Bs} (h : EvA K M ta σ F H [pset p]) (hp : p.2 ≠ [] ∧ p.1.length ≤ 5000 ∧ p.2.length ≤ 5000) : EvD K M (tCall (sp_first_of K) [] E ta) σ F H (optD (firstOf p)) := ev_call (p) h hp
local macro_rules | `(tactic| walk_at "ev") => `(tactic| ((with_reducible show EvD _ _ (tCall (sp_first_of _) _ _ _) _ _ _ _); exact ev_first_of (by walk_at "ea") (by walk_at "sc")))
abbrev N_first_of : List Str := ["plain", "row", "number"]
def t_first_of (K : PySem.W.Frag) : TS :=
  (tSeq (tAsg (tLc (iRng1 (tCons (tOp (rAddU K) (tCB (rLen K) (tCons (tOp (rIx K) (tVar 0) (tC (.int 0))) tNil)) (tCB (rLen K) (tCons (tOp (rIx K) (tVar 0) (tC (.int 1))) tNil))) tNil)) (gName 2) (tTru K (tCall (sp_in_set K) [] E0 (tCons (tVar 0) (tCons (tVar 2) tNil)))) (tVar 2) [2]) (gName 1))
  (tRet (tIf (tTru K (tVar 1)) (tOp (rIx K) (tVar 1) (tC (.int 0))) (tC (.non)))))
theorem rd_first_of' {K : PySem.W.Frag} {F H : Hp} (p : Bs) {vs : List V} (e : Same F H) (rs : RpAll K F vs [pset p]) (hp : p.2 ≠ [] ∧ p.1.length ≤ 5000 ∧ p.2.length ≤ 5000) (D : Ends) (hn : ∀ σ H', D.nx σ H' = D.rt .non H') (q : ∀ F' H' v, Sx [] F H F' H' → Rp K F' v (optD (firstOf p)) → D.rt v H') : t_first_of K D (L2.start N_first_of vs) H := by
  obtain ⟨v, rfl, h1⟩ := rs.inv1
  refine q_set (K := K) (M := []) (d := .list (((List.range (p.1.length + p.2.length)).filter (inSet p)).map fun n : Nat => PyData.int (n : Int))) e (EvN.ev (en_lcR1 (p.1.length + p.2.length) (fun n : Nat => PyData.int (n : Int)) (inSet p) (j := 2) (m := ((p.1.map PyData.bool).length : Int) + ((p.2.map PyData.bool).length : Int)) (by walk_at "ea") (by rw [List.length_map, List.length_map, Int.natCast_add]) (by omega) rfl (fun _ => rfl) (fun a ha F2 H2 s2 => ?_) (fun a ha _ F2 H2 s2 => by walk_at "ev"))) fun F1 H1 v1 s1 r1 => ?_
  · exact xTru (ev_in_set (p := p) (n := a) (by walk_at "ea") hp.1) rfl
  · refine st_ret (K := K) (M := []) (d := optD (firstOf p)) s1.fh ?_ fun F3 H3 u s3 ru => q _ _ _ (s1.trans s3) ru
    unfold firstOf
    cases hx : (List.range (p.1.length + p.2.length)).filter (inSet p) with
    | nil =>
      rw [hx] at r1
      exact ev_if (b := false) (xTru (d := .list []) (by walk_at "ev") rfl) (fun z => absurd z (by decide)) (fun _ => ev_non)
    | cons a b =>
      rw [hx] at r1
      exact ev_if (b := true) (xTru (d := .list ((a :: b).map fun n : Nat => PyData.int (n : Int))) (by walk_at "ev") rfl) (fun _ => ev_op (ev_var rfl r1) ev_int (rv_ixl (atI_at (f := fun n : Nat => PyData.int (n : Int)) (xs := a :: b) (n := 0) rfl))) (fun z => absurd z (by decide))
theorem least_small {p : Bs} (h : Small p) : Small (leastOf p.1 p.2) := by
  obtain ⟨h1, h2, h3⟩ := h
  obtain ⟨a, b, c⟩ := least_len p.1 p.2
  exact ⟨by omega, by omega, c h3⟩
/-! ### has_number, numbers_below -/
def sp_has_number (K : PySem.W.Frag) : Sp := spP K (fun i : (PyData) × (Bs) × (Nat) => (fun (d : PyData) (p : Bs) (n : Nat) => ([d, .int n] : List PyData)) i.1 i.2.1 i.2.2) (fun i => (fun (d : PyData) (p : Bs) (n : Nat) => (.bool (inSet (leastOf p.1 p.2) n) : PyData)) i.1 i.2.1 i.2.2) (fun i => (fun (d : PyData) (p : Bs) (n : Nat) => ((SetD d p ∧ Small p) ∧ n ≤ 10 ^ 18 : Prop)) i.1 i.2.1 i.2.2)
theorem ev_has_number {K : PySem.W.Frag} {M : List Addr} {σ : L2.St} {F H : Hp} {ta : TA} {E : XK} {d : PyData} {p : Bs} {n : Nat} (h : EvA K M ta σ F H [d, .int n]) (hp : (SetD d p ∧ Small p) ∧ n ≤ 10 ^ 18) : EvD K M (tCall (sp_has_number K) [] E ta) σ F H (.bool (inSet (leastOf p.1 p.2) n)) := ev_call (d, p, n) h hp
local macro_rules | `(tactic| walk_at "ev") => `(tactic| ((with_reducible show EvD _ _ (tCall (sp_has_number _) _ _ _) _ _ _ _); exact ev_has_number (by walk_at "ea") (by walk_at "sc")))
abbrev N_has_number : List Str := ["numbers", "number", "plain"]
def t_has_number (K : PySem.W.Frag) : TS :=
  (tSeq (tAsg (tCall (sp_need_set K) [] E0 (tCons (tVar 0) tNil)) (gName 2))
  (tSeq (tIfS (tNot (tTru K (tCall (sp_is_number K) [] E0 (tCons (tVar 1) (tCons (tC (.int 0)) (tCons (tOp rPowI (tC (.int 10)) (tC (.int 18))) tNil))))))
   tNever
   tNext)
  (tRet (tCall (sp_in_set K) [] E0 (tCons (tVar 2) (tCons (tVar 1) tNil))))))
theorem rd_has_number' {K : PySem.W.Frag} {F H : Hp} (d : PyData) (p : Bs) (n : Nat) {vs : List V} (e : Same F H) (rs : RpAll K F vs [d, .int n]) (hp : (SetD d p ∧ Small p) ∧ n ≤ 10 ^ 18) (D : Ends) (hn : ∀ σ H', D.nx σ H' = D.rt .non H') (q : ∀ F' H' v, Sx [] F H F' H' → Rp K F' v (.bool (inSet (leastOf p.1 p.2) n)) → D.rt v H') : t_has_number K D (L2.start N_has_number vs) H := by
  obtain ⟨v, u, rfl, h1, h2⟩ := rs.inv2
  refine q_set (K := K) (M := []) (d := pset (leastOf p.1 p.2)) e (ev_need_set (by walk_at "ea") hp.1) fun F1 H1 v1 s1 r1 => ?_
  refine q_when (K := K) (M := []) (b := !(decide ((0 : Int) ≤ (n : Int)) && decide ((n : Int) ≤ (10 : Int) ^ (18 : Int).toNat))) s1.fh (et_not (xTru (ev_is_number (ea_cons (by walk_at "ev") (ea_cons ev_int (ea_cons (ev_op ev_int ev_int (xPow (by decide))) ea_nil)))) rfl)) (fun hb => absurd hb ?_) fun _ F2 H2 s2 => ?_
  · rw [decide_eq_true (by omega), decide_eq_true (by have := hp.2; show (n : Int) ≤ 10 ^ 18; omega)]; decide
  exact st_ret (K := K) (M := []) (d := .bool (inSet (leastOf p.1 p.2) n)) s2.fh (ev_in_set (by walk_at "ea") (least_small hp.1.2).2.2) fun F3 H3 u s3 ru => q _ _ _ ((s1.trans s2).trans s3) ru
def sp_numbers_below (K : PySem.W.Frag) : Sp := spP K (fun i : (PyData) × (Bs) × (Nat) => (fun (d : PyData) (p : Bs) (m : Nat) => ([d, .int m] : List PyData)) i.1 i.2.1 i.2.2) (fun i => (fun (d : PyData) (p : Bs) (m : Nat) => (.list (((List.range m).filter (inSet (leastOf p.1 p.2))).map fun n : Nat => PyData.int (n : Int)) : PyData)) i.1 i.2.1 i.2.2) (fun i => (fun (d : PyData) (p : Bs) (m : Nat) => ((SetD d p ∧ Small p) ∧ m ≤ 200 : Prop)) i.1 i.2.1 i.2.2)
theorem ev_numbers_below {K : PySem.W.Frag} {M : List Addr} {σ : L2.St} {F H : Hp} {ta : TA} {E : XK} {d : PyData} {p : Bs} {m : Nat} (h : EvA K M ta σ F H [d, .int m]) (hp : (SetD d p ∧ Small p) ∧ m ≤ 200) : EvD K M (tCall (sp_numbers_below K) [] E ta) σ F H (.list (((List.range m).filter (inSet (leastOf p.1 p.2))).map fun n : Nat => PyData.int (n : Int))) := ev_call (d, p, m) h hp
local macro_rules | `(tactic| walk_at "ev") => `(tactic| ((with_reducible show EvD _ _ (tCall (sp_numbers_below _) _ _ _) _ _ _ _); exact ev_numbers_below (by walk_at "ea") (by walk_at "sc")))
abbrev N_numbers_below : List Str := ["numbers", "many", "plain", "number"]
def t_numbers_below (K : PySem.W.Frag) : TS :=
  (tSeq (tAsg (tCall (sp_need_set K) [] E0 (tCons (tVar 0) tNil)) (gName 2))
  (tSeq (tIfS (tNot (tTru K (tCall (sp_is_number K) [] E0 (tCons (tVar 1) (tCons (tC (.int 0)) (tCons (tC (.int 200)) tNil))))))
   tNever
   tNext)
  (tRet (tLc (iRng1 (tCons (tVar 1) tNil)) (gName 3) (tTru K (tCall (sp_in_set K) [] E0 (tCons (tVar 2) (tCons (tVar 3) tNil)))) (tVar 3) [3]))))
theorem rd_numbers_below' {K : PySem.W.Frag} {F H : Hp} (d : PyData) (p : Bs) (m : Nat) {vs : List V} (e : Same F H) (rs : RpAll K F vs [d, .int m]) (hp : (SetD d p ∧ Small p) ∧ m ≤ 200) (D : Ends) (hn : ∀ σ H', D.nx σ H' = D.rt .non H') (q : ∀ F' H' v, Sx [] F H F' H' → Rp K F' v (.list (((List.range m).filter (inSet (leastOf p.1 p.2))).map fun n : Nat => PyData.int (n : Int))) → D.rt v H') : t_numbers_below K D (L2.start N_numbers_below vs) H := by
  obtain ⟨v, u, rfl, h1, h2⟩ := rs.inv2
  cases h2.int_of
  refine q_set (K := K) (M := []) (d := pset (leastOf p.1 p.2)) e (ev_need_set (by walk_at "ea") hp.1) fun F1 H1 v1 s1 r1 => ?_
  refine q_when (K := K) (M := []) (b := !(decide ((0 : Int) ≤ (m : Int)) && decide ((m : Int) ≤ 200))) s1.fh (et_not (xTru (ev_is_number (by walk_at "ea")) rfl)) (fun hb => absurd hb ?_) fun _ F2 H2 s2 => ?_
  · have := hp.2; rw [decide_eq_true (by omega), decide_eq_true (by omega)]; decide
  refine st_ret (K := K) (M := []) s2.fh (EvN.ev (en_lcR1 m (fun n : Nat => PyData.int (n : Int)) (inSet (leastOf p.1 p.2)) (j := 3) (m := (m : Int)) (by walk_at "ea") rfl (by have := hp.2; omega) rfl (fun _ => rfl) (fun a ha F2 H2 s2 => ?_) (fun a ha _ F2 H2 s2 => by walk_at "ev"))) fun F3 H3 u s3 ru => q _ _ _ ((s1.trans s2).trans s3) ru
  exact xTru (ev_in_set (p := leastOf p.1 p.2) (n := a) (by walk_at "ea") (least_small hp.1.2).2.2) rfl
/-! ### is_within, first_number, first_apart -/
theorem setBy_len {p q : Bs} (hp : Small p) (hq : Small q) (ts : List (Bool × Bool)) : (setBy p q ts).2 ≠ [] ∧ (setBy p q ts).1.length ≤ 5000 ∧ (setBy p q ts).2.length ≤ 5000 := by
  obtain ⟨l1, l2, n1⟩ := hp
  obtain ⟨l3, l4, n2⟩ := hq
  have p1 := List.length_pos_iff.mpr n1
  have p2p := List.length_pos_iff.mpr n2
  have hL : 0 < Nat.lcm p.2.length q.2.length := Nat.lcm_pos p1 p2p
  have hL2 : Nat.lcm p.2.length q.2.length ≤ 3600 := Nat.le_trans (lcm_le _ _ p1 p2p) (mul60 l2 l4)
  have hlen : (setRow p q ts).length = max p.1.length q.1.length + Nat.lcm p.2.length q.2.length := by unfold setRow; simp
  obtain ⟨a, b, c⟩ := least_len ((setRow p q ts).take (max p.1.length q.1.length)) ((setRow p q ts).drop (max p.1.length q.1.length))
  rw [setBy_eq]
  rw [List.length_take, hlen] at a
  rw [List.length_drop, hlen] at b
  refine ⟨c fun z => ?_, by omega, by omega⟩
  have := congrArg List.length z
  rw [List.length_drop, hlen, List.length_nil] at this
  omega
def sp_is_within (K : PySem.W.Frag) : Sp := spP K (fun i : (PyData) × (PyData) × (Bs) × (Bs) => (fun (d : PyData) (d2 : PyData) (p : Bs) (p2 : Bs) => ([d, d2] : List PyData)) i.1 i.2.1 i.2.2.1 i.2.2.2) (fun i => (fun (d : PyData) (d2 : PyData) (p : Bs) (p2 : Bs) => (.bool (firstOf (setBy (leastOf p.1 p.2) (leastOf p2.1 p2.2) [(true, false)])).isNone : PyData)) i.1 i.2.1 i.2.2.1 i.2.2.2) (fun i => (fun (d : PyData) (d2 : PyData) (p : Bs) (p2 : Bs) => ((SetD d p ∧ Small p) ∧ (SetD d2 p2 ∧ Small p2) : Prop)) i.1 i.2.1 i.2.2.1 i.2.2.2)
theorem ev_is_within {K : PySem.W.Frag} {M : List Addr} {σ : L2.St} {F H : Hp} {ta : TA} {E : XK} {d : PyData} {d2 : PyData} {p : Bs} {p2 : Bs} (h : EvA K M ta σ F H [d, d2]) (hp : (SetD d p ∧ Small p) ∧ (SetD d2 p2 ∧ Small p2)) : EvD K M (tCall (sp_is_within K) [] E ta) σ F H (.bool (firstOf (setBy (leastOf p.1 p.2) (leastOf p2.1 p2.2) [(true, false)])).isNone) := ev_call (d, d2, p, p2) h hp
local macro_rules | `(tactic| walk_at "ev") => `(tactic| ((with_reducible show EvD _ _ (tCall (sp_is_within _) _ _ _) _ _ _ _); exact ev_is_within (by walk_at "ea") (by walk_at "sc")))
abbrev N_is_within : List Str := ["numbers", "other", "one", "two"]
def t_is_within (K : PySem.W.Frag) : TS :=
  (tSeq (tAsg (tCall (sp_need_sets K) [] E0 (tCons (tVar 0) (tCons (tVar 1) tNil))) (gTup K 2 (gCons (gName 2) (gCons (gName 3) gNil))))
  (tRet (tOp rIsN (tCall (sp_first_of K) [] E0 (tCons (tCall (sp_set_by K) [] E0 (tCons (tVar 2) (tCons (tVar 3) (tCons (tLst (tCons (tTup (tCons (tC (.bl true)) (tCons (tC (.bl false)) tNil))) tNil)) tNil)))) tNil)) (tC (.non)))))
theorem rd_is_within' {K : PySem.W.Frag} {F H : Hp} (d : PyData) (d2 : PyData) (p : Bs) (p2 : Bs) {vs : List V} (e : Same F H) (rs : RpAll K F vs [d, d2]) (hp : (SetD d p ∧ Small p) ∧ (SetD d2 p2 ∧ Small p2)) (D : Ends) (hn : ∀ σ H', D.nx σ H' = D.rt .non H') (q : ∀ F' H' v, Sx [] F H F' H' → Rp K F' v (.bool (firstOf (setBy (leastOf p.1 p.2) (leastOf p2.1 p2.2) [(true, false)])).isNone) → D.rt v H') : t_is_within K D (L2.start N_is_within vs) H := by
  obtain ⟨v, u, rfl, h1, h2⟩ := rs.inv2
  refine q_asg (K := K) (M := []) tg_nm2 e (ev_need_sets (by walk_at "ea") hp) fun F1 H1 σ1 s1 ⟨a, b, ha, hb, hσ⟩ => ?_
  subst hσ
  refine st_ret (K := K) (M := []) s1.fh (EvD.is (ev_op (ev_first_of (ea_cons (ev_set_by (ts := [(true, false)]) (ea_cons (by walk_at "ev") (ea_cons (by walk_at "ev") (ea_cons (ev_lst (ds := [pairD (true, false)]) (ea_cons (ev_tup (ea_cons ev_bl (ea_cons ev_bl ea_nil)) (by decide)) ea_nil) (by decide)) ea_nil))) ⟨least_small hp.1.2, least_small hp.2.2⟩) ea_nil) (setBy_len (least_small hp.1.2) (least_small hp.2.2) _)) ev_non xIsN) ?_) fun F3 H3 u s3 ru => q _ _ _ (s1.trans s3) ru
  cases firstOf (setBy (leastOf p.1 p.2) (leastOf p2.1 p2.2) [(true, false)]) <;> rfl
def sp_first_number (K : PySem.W.Frag) : Sp := spP K (fun i : (PyData) × (Bs) => (fun (d : PyData) (p : Bs) => ([d] : List PyData)) i.1 i.2) (fun i => (fun (d : PyData) (p : Bs) => (optD (firstOf (leastOf p.1 p.2)) : PyData)) i.1 i.2) (fun i => (fun (d : PyData) (p : Bs) => (SetD d p ∧ Small p : Prop)) i.1 i.2)
theorem ev_first_number {K : PySem.W.Frag} {M : List Addr} {σ : L2.St} {F H : Hp} {ta : TA} {E : XK} {d : PyData} {p : Bs} (h : EvA K M ta σ F H [d]) (hp : SetD d p ∧ Small p) : EvD K M (tCall (sp_first_number K) [] E ta) σ F H (optD (firstOf (leastOf p.1 p.2))) := ev_call (d, p) h hp
local macro_rules | `(tactic| walk_at "ev") => `(tactic| ((with_reducible show EvD _ _ (tCall (sp_first_number _) _ _ _) _ _ _ _); exact ev_first_number (by walk_at "ea") (by walk_at "sc")))
abbrev N_first_number : List Str := ["numbers"]
def t_first_number (K : PySem.W.Frag) : TS :=
  (tRet (tCall (sp_first_of K) [] E0 (tCons (tCall (sp_need_set K) [] E0 (tCons (tVar 0) tNil)) tNil)))
theorem rd_first_number' {K : PySem.W.Frag} {F H : Hp} (d : PyData) (p : Bs) {vs : List V} (e : Same F H) (rs : RpAll K F vs [d]) (hp : SetD d p ∧ Small p) (D : Ends) (hn : ∀ σ H', D.nx σ H' = D.rt .non H') (q : ∀ F' H' v, Sx [] F H F' H' → Rp K F' v (optD (firstOf (leastOf p.1 p.2))) → D.rt v H') : t_first_number K D (L2.start N_first_number vs) H := by
  obtain ⟨v, rfl, h1⟩ := rs.inv1
  have hs := least_small hp.2
  exact st_ret (K := K) (M := []) e (ev_first_of (ea_cons (ev_need_set (by walk_at "ea") hp) ea_nil) ⟨hs.2.2, by have := hs.1; omega, by have := hs.2.1; omega⟩) fun F3 H3 u s3 ru => q _ _ _ s3 ru
def sp_first_apart (K : PySem.W.Frag) : Sp := spP K (fun i : (PyData) × (PyData) × (Bs) × (Bs) => (fun (d : PyData) (d2 : PyData) (p : Bs) (p2 : Bs) => ([d, d2] : List PyData)) i.1 i.2.1 i.2.2.1 i.2.2.2) (fun i => (fun (d : PyData) (d2 : PyData) (p : Bs) (p2 : Bs) => (optD (firstOf (setBy (leastOf p.1 p.2) (leastOf p2.1 p2.2) [(true, false), (false, true)])) : PyData)) i.1 i.2.1 i.2.2.1 i.2.2.2) (fun i => (fun (d : PyData) (d2 : PyData) (p : Bs) (p2 : Bs) => ((SetD d p ∧ Small p) ∧ (SetD d2 p2 ∧ Small p2) : Prop)) i.1 i.2.1 i.2.2.1 i.2.2.2)
theorem ev_first_apart {K : PySem.W.Frag} {M : List Addr} {σ : L2.St} {F H : Hp} {ta : TA} {E : XK} {d : PyData} {d2 : PyData} {p : Bs} {p2 : Bs} (h : EvA K M ta σ F H [d, d2]) (hp : (SetD d p ∧ Small p) ∧ (SetD d2 p2 ∧ Small p2)) : EvD K M (tCall (sp_first_apart K) [] E ta) σ F H (optD (firstOf (setBy (leastOf p.1 p.2) (leastOf p2.1 p2.2) [(true, false), (false, true)]))) := ev_call (d, d2, p, p2) h hp
local macro_rules | `(tactic| walk_at "ev") => `(tactic| ((with_reducible show EvD _ _ (tCall (sp_first_apart _) _ _ _) _ _ _ _); exact ev_first_apart (by walk_at "ea") (by walk_at "sc")))
abbrev N_first_apart : List Str := ["numbers", "other", "one", "two"]
def t_first_apart (K : PySem.W.Frag) : TS :=
  (tSeq (tAsg (tCall (sp_need_sets K) [] E0 (tCons (tVar 0) (tCons (tVar 1) tNil))) (gTup K 2 (gCons (gName 2) (gCons (gName 3) gNil))))
  (tRet (tCall (sp_first_of K) [] E0 (tCons (tCall (sp_set_by K) [] E0 (tCons (tVar 2) (tCons (tVar 3) (tCons (tLst (tCons (tTup (tCons (tC (.bl true)) (tCons (tC (.bl false)) tNil))) (tCons (tTup (tCons (tC (.bl false)) (tCons (tC (.bl true)) tNil))) tNil))) tNil)))) tNil))))
theorem rd_first_apart' {K : PySem.W.Frag} {F H : Hp} (d : PyData) (d2 : PyData) (p : Bs) (p2 : Bs) {vs : List V} (e : Same F H) (rs : RpAll K F vs [d, d2]) (hp : (SetD d p ∧ Small p) ∧ (SetD d2 p2 ∧ Small p2)) (D : Ends) (hn : ∀ σ H', D.nx σ H' = D.rt .non H') (q : ∀ F' H' v, Sx [] F H F' H' → Rp K F' v (optD (firstOf (setBy (leastOf p.1 p.2) (leastOf p2.1 p2.2) [(true, false), (false, true)]))) → D.rt v H') : t_first_apart K D (L2.start N_first_apart vs) H := by
  obtain ⟨v, u, rfl, h1, h2⟩ := rs.inv2
  refine q_asg (K := K) (M := []) tg_nm2 e (ev_need_sets (by walk_at "ea") hp) fun F1 H1 σ1 s1 ⟨a, b, ha, hb, hσ⟩ => ?_
  subst hσ
  exact st_ret (K := K) (M := []) s1.fh (ev_first_of (ea_cons (ev_set_by (ts := [(true, false), (false, true)]) (ea_cons (by walk_at "ev") (ea_cons (by walk_at "ev") (ea_cons (ev_lst (ds := [pairD (true, false), pairD (false, true)]) (ea_cons (ev_tup (ea_cons ev_bl (ea_cons ev_bl ea_nil)) (by decide)) (ea_cons (ev_tup (ea_cons ev_bl (ea_cons ev_bl ea_nil)) (by decide)) ea_nil)) (by decide)) ea_nil))) ⟨least_small hp.1.2, least_small hp.2.2⟩) ea_nil) (setBy_len (least_small hp.1.2) (least_small hp.2.2) _)) fun F3 H3 u s3 ru => q _ _ _ (s1.trans s3) ru
/-! ### shifts -/
def sp_need_by (K : PySem.W.Frag) : Sp := spP K (fun i : (Nat) => (fun (k : Nat) => ([.int k] : List PyData)) i) (fun i => (fun (k : Nat) => (.int k : PyData)) i) (fun i => (fun (k : Nat) => (k ≤ 60 : Prop)) i)
theorem ev_need_by {K : PySem.W.Frag} {M : List Addr} {σ : L2.St} {F H : Hp} {ta : TA} {E : XK} {k : Nat} (h : EvA K M ta σ F H [.int k]) (hp : k ≤ 60) : EvD K M (tCall (sp_need_by K) [] E ta) σ F H (.int k) := ev_call (k) h hp
local macro_rules | `(tactic| walk_at "ev") => `(tactic| ((with_reducible show EvD _ _ (tCall (sp_need_by _) _ _ _) _ _ _ _); exact ev_need_by (by walk_at "ea") (by walk_at "sc")))
abbrev N_need_by : List Str := ["by"]
def t_need_by (K : PySem.W.Frag) : TS :=
  (tSeq (tIfS (tNot (tTru K (tCall (sp_is_number K) [] E0 (tCons (tVar 0) (tCons (tC (.int 0)) (tCons (tC (.int 60)) tNil))))))
   tNever
   tNext)
  (tRet (tVar 0)))
theorem rd_need_by' {K : PySem.W.Frag} {F H : Hp} (k : Nat) {vs : List V} (e : Same F H) (rs : RpAll K F vs [.int k]) (hp : k ≤ 60) (D : Ends) (hn : ∀ σ H', D.nx σ H' = D.rt .non H') (q : ∀ F' H' v, Sx [] F H F' H' → Rp K F' v (.int k) → D.rt v H') : t_need_by K D (L2.start N_need_by vs) H := by
  obtain ⟨v, rfl, h1⟩ := rs.inv1
  refine q_when (K := K) (M := []) (b := !(decide ((0 : Int) ≤ (k : Int)) && decide ((k : Int) ≤ 60))) e (et_not (xTru (ev_is_number (by walk_at "ea")) rfl)) (fun hb => absurd hb ?_) fun _ F2 H2 s2 => ?_
  · rw [decide_eq_true (by omega), decide_eq_true (by omega)]; decide
  exact st_ret (K := K) (M := []) (d := .int k) s2.fh (by walk_at "ev") fun F3 H3 u s3 ru => q _ _ _ (s2.trans s3) ru
theorem rep_false (n : Nat) : (List.replicate n [PyData.bool false]).flatten = (List.replicate n false).map PyData.bool := by
  induction n with
  | zero => rfl
  | succ n ih => rw [List.replicate_succ, List.flatten_cons, ih, List.replicate_succ]; rfl
def upBy (p : Bs) (k : Nat) : Bs := leastOf (List.replicate k false ++ p.1) p.2
def downRow (p : Bs) (k : Nat) : List Bool := (List.range ((p.1.length - k) + p.2.length)).map fun n => inSet p (n + k)
def downBy (p : Bs) (k : Nat) : Bs := leastOf ((downRow p k).take (p.1.length - k)) ((downRow p k).drop (p.1.length - k))
def sp_up_by (K : PySem.W.Frag) : Sp := spP K (fun i : (Bs) × (Nat) => (fun (p : Bs) (k : Nat) => ([pset p, .int k] : List PyData)) i.1 i.2) (fun i => (fun (p : Bs) (k : Nat) => (pset (upBy p k) : PyData)) i.1 i.2) (fun i => (fun (p : Bs) (k : Nat) => (Small p ∧ k ≤ 60 : Prop)) i.1 i.2)
theorem ev_up_by {K : PySem.W.Frag} {M : List Addr} {σ : L2.St} {F H : Hp} {ta : TA} {E : XK} {p : Bs} {k : Nat} (h : EvA K M ta σ F H [pset p, .int k]) (hp : Small p ∧ k ≤ 60) : EvD K M (tCall (sp_up_by K) [] E ta) σ F H (pset (upBy p k)) := ev_call (p, k) h hp
local macro_rules | `(tactic| walk_at "ev") => `(tactic| ((with_reducible show EvD _ _ (tCall (sp_up_by _) _ _ _) _ _ _ _); exact ev_up_by (by walk_at "ea") (by walk_at "sc")))
abbrev N_up_by : List Str := ["plain", "by"]
def t_up_by (K : PySem.W.Frag) : TS :=
  (tRet (tCall (sp_least_of K) [] E0 (tCons (tOp (rAddU K) (tOp (rMulU K) (tTup (tCons (tC (.bl false)) tNil)) (tVar 1)) (tOp (rIx K) (tVar 0) (tC (.int 0)))) (tCons (tOp (rIx K) (tVar 0) (tC (.int 1))) tNil))))
theorem rd_up_by' {K : PySem.W.Frag} {F H : Hp} (p : Bs) (k : Nat) {vs : List V} (e : Same F H) (rs : RpAll K F vs [pset p, .int k]) (hp : Small p ∧ k ≤ 60) (D : Ends) (hn : ∀ σ H', D.nx σ H' = D.rt .non H') (q : ∀ F' H' v, Sx [] F H F' H' → Rp K F' v (pset (upBy p k)) → D.rt v H') : t_up_by K D (L2.start N_up_by vs) H := by
  obtain ⟨v, u, rfl, h1, h2⟩ := rs.inv2
  obtain ⟨⟨l1, l2, n1⟩, hk⟩ := hp
  exact st_ret (K := K) (M := []) (d := pset (upBy p k)) e (ev_least_of (d := tB (List.replicate k false ++ p.1)) (d2 := tB p.2) (ea_cons ((ev_op (ev_op (ev_tup (ea_cons ev_bl ea_nil) (by decide)) (by walk_at "ev") (xMulT (by simp) (by omega) (by decide))) (by walk_at "ev") (xAddT (by rw [rep_false]; simp; omega))).is (by rw [rep_false]; exact congrArg PyData.tuple List.map_append.symm)) (ea_cons (by walk_at "ev") ea_nil)) ⟨.inr rfl, .inr rfl, n1, by omega⟩) fun F3 H3 u s3 ru => q _ _ _ s3 ru
def sp_down_by (K : PySem.W.Frag) : Sp := spP K (fun i : (Bs) × (Nat) => (fun (p : Bs) (k : Nat) => ([pset p, .int k] : List PyData)) i.1 i.2) (fun i => (fun (p : Bs) (k : Nat) => (pset (downBy p k) : PyData)) i.1 i.2) (fun i => (fun (p : Bs) (k : Nat) => (Small p ∧ k ≤ 60 : Prop)) i.1 i.2)
theorem ev_down_by {K : PySem.W.Frag} {M : List Addr} {σ : L2.St} {F H : Hp} {ta : TA} {E : XK} {p : Bs} {k : Nat} (h : EvA K M ta σ F H [pset p, .int k]) (hp : Small p ∧ k ≤ 60) : EvD K M (tCall (sp_down_by K) [] E ta) σ F H (pset (downBy p k)) := ev_call (p, k) h hp
local macro_rules | `(tactic| walk_at "ev") => `(tactic| ((with_reducible show EvD _ _ (tCall (sp_down_by _) _ _ _) _ _ _ _); exact ev_down_by (by walk_at "ea") (by walk_at "sc")))
abbrev N_down_by : List Str := ["plain", "by", "row", "begin", "size", "number"]
def t_down_by (K : PySem.W.Frag) : TS :=
  (tSeq (tPar 3 4 (tCons (tCB rMax2 (tCons (tC (.int 0)) (tCons (tOp rSubI (tCB (rLen K) (tCons (tOp (rIx K) (tVar 0) (tC (.int 0))) tNil)) (tVar 1)) tNil))) (tCons (tCB (rLen K) (tCons (tOp (rIx K) (tVar 0) (tC (.int 1))) tNil)) tNil)))
  (tSeq (tAsg (tLc (iRng1 (tCons (tOp (rAddU K) (tVar 3) (tVar 4)) tNil)) (gName 5) tYes (tCall (sp_in_set K) [] E0 (tCons (tVar 0) (tCons (tOp (rAddU K) (tVar 5) (tVar 1)) tNil))) [5]) (gName 2))
  (tRet (tCall (sp_least_of K) [] E0 (tCons (tSl (rSlU K) (tVar 2) tNoPart (tPart (tVar 3))) (tCons (tSl (rSlU K) (tVar 2) (tPart (tVar 3)) tNoPart) tNil))))))
theorem rd_down_by' {K : PySem.W.Frag} {F H : Hp} (p : Bs) (k : Nat) {vs : List V} (e : Same F H) (rs : RpAll K F vs [pset p, .int k]) (hp : Small p ∧ k ≤ 60) (D : Ends) (hn : ∀ σ H', D.nx σ H' = D.rt .non H') (q : ∀ F' H' v, Sx [] F H F' H' → Rp K F' v (pset (downBy p k)) → D.rt v H') : t_down_by K D (L2.start N_down_by vs) H := by
  obtain ⟨v, u, rfl, h1, h2⟩ := rs.inv2
  cases h2.int_of
  obtain ⟨⟨l1, l2, n1⟩, hk⟩ := hp
  have p2 := List.length_pos_iff.mpr n1
  refine q_par (K := K) (M := []) (d := .int (max 0 (((p.1.map PyData.bool).length : Int) - (k : Int)))) (e := .int ((p.2.map PyData.bool).length : Int)) e (by walk_at "ea") fun F1 H1 u1 u2 s1 r1 r2 => ?_
  cases r1.int_of
  cases r2.int_of
  have em : max 0 (((p.1.map PyData.bool).length : Int) - (k : Int)) = ((p.1.length - k : Nat) : Int) := by rw [List.length_map]; omega
  rw [em]
  have hlen : (downRow p k).length = (p.1.length - k) + p.2.length := by unfold downRow; simp
  refine q_set (K := K) (M := []) (d := .list ((downRow p k).map .bool)) s1.fh (EvD.is (EvN.ev (en_lcR1 ((p.1.length - k) + p.2.length) (fun n => .bool (inSet p (n + k))) (fun _ => true) (j := 5) (m := ((p.1.length - k : Nat) : Int) + ((p.2.map PyData.bool).length : Int)) (by walk_at "ea") (by rw [List.length_map, Int.natCast_add]) (by omega) rfl (fun _ => rfl) (fun _ _ _ _ _ => et_yes) (fun a ha _ F2 H2 s2 => ?_))) ?_) fun F2 H2 v s2 rv => ?_
  · exact ev_in_set (p := p) (n := a + k) (ea_cons (by walk_at "ev") (ea_cons (EvD.is (by walk_at "ev") (by rw [Int.natCast_add])) ea_nil)) n1
  · rw [filter_yes]
    unfold downRow
    rw [List.map_map]
    rfl
  · refine st_ret (K := K) (M := []) (d := pset (downBy p k)) s2.fh ?_ fun F3 H3 u s3 ru => q _ _ _ ((s1.trans s2).trans s3) ru
    refine ev_least_of (d := lB ((downRow p k).take (p.1.length - k))) (d2 := lB ((downRow p k).drop (p.1.length - k))) (ea_cons (xTakeL (by walk_at "ev") (by walk_at "eo")) (ea_cons (xDropL (by walk_at "ev") (by walk_at "eo")) ea_nil)) ⟨.inl rfl, .inl rfl, fun z => ?_, ?_⟩
    · have := congrArg List.length z
      rw [List.length_drop, hlen, List.length_nil] at this
      omega
    · rw [List.length_drop, hlen]; omega
theorem downBy_len {p : Bs} (h : Small p) (k : Nat) : (downBy p k).1.length ≤ 60 ∧ (downBy p k).2.length ≤ 60 := by
  obtain ⟨l1, l2, n1⟩ := h
  have hlen : (downRow p k).length = (p.1.length - k) + p.2.length := by unfold downRow; simp
  obtain ⟨a, b, _⟩ := least_len ((downRow p k).take (p.1.length - k)) ((downRow p k).drop (p.1.length - k))
  rw [List.length_take, hlen] at a
  rw [List.length_drop, hlen] at b
  exact ⟨by show (leastOf _ _).1.length ≤ 60; omega, by show (leastOf _ _).2.length ≤ 60; omega⟩
def sp_shifted_up (K : PySem.W.Frag) : Sp := spP K (fun i : (PyData) × (Bs) × (Nat) => (fun (d : PyData) (p : Bs) (k : Nat) => ([d, .int k] : List PyData)) i.1 i.2.1 i.2.2) (fun i => (fun (d : PyData) (p : Bs) (k : Nat) => (.tuple [lB (upBy (leastOf p.1 p.2) k).1, lB (upBy (leastOf p.1 p.2) k).2] : PyData)) i.1 i.2.1 i.2.2) (fun i => (fun (d : PyData) (p : Bs) (k : Nat) => ((SetD d p ∧ Small p) ∧ k ≤ 60 ∧ (upBy (leastOf p.1 p.2) k).1.length ≤ 60 : Prop)) i.1 i.2.1 i.2.2)
theorem ev_shifted_up {K : PySem.W.Frag} {M : List Addr} {σ : L2.St} {F H : Hp} {ta : TA} {E : XK} {d : PyData} {p : Bs} {k : Nat} (h : EvA K M ta σ F H [d, .int k]) (hp : (SetD d p ∧ Small p) ∧ k ≤ 60 ∧ (upBy (leastOf p.1 p.2) k).1.length ≤ 60) : EvD K M (tCall (sp_shifted_up K) [] E ta) σ F H (.tuple [lB (upBy (leastOf p.1 p.2) k).1, lB (upBy (leastOf p.1 p.2) k).2]) := ev_call (d, p, k) h hp
local macro_rules | `(tactic| walk_at "ev") => `(tactic| ((with_reducible show EvD _ _ (tCall (sp_shifted_up _) _ _ _) _ _ _ _); exact ev_shifted_up (by walk_at "ea") (by walk_at "sc")))
abbrev N_shifted_up : List Str := ["numbers", "by", "plain"]
def t_shifted_up (K : PySem.W.Frag) : TS :=
  (tSeq (tAsg (tCall (sp_need_set K) [] E0 (tCons (tVar 0) tNil)) (gName 2))
  (tRet (tCall (sp_told_set K) [] E0 (tCons (tCall (sp_up_by K) [] E0 (tCons (tVar 2) (tCons (tCall (sp_need_by K) [] E0 (tCons (tVar 1) tNil)) tNil))) tNil))))
theorem rd_shifted_up' {K : PySem.W.Frag} {F H : Hp} (d : PyData) (p : Bs) (k : Nat) {vs : List V} (e : Same F H) (rs : RpAll K F vs [d, .int k]) (hp : (SetD d p ∧ Small p) ∧ k ≤ 60 ∧ (upBy (leastOf p.1 p.2) k).1.length ≤ 60) (D : Ends) (hn : ∀ σ H', D.nx σ H' = D.rt .non H') (q : ∀ F' H' v, Sx [] F H F' H' → Rp K F' v (.tuple [lB (upBy (leastOf p.1 p.2) k).1, lB (upBy (leastOf p.1 p.2) k).2]) → D.rt v H') : t_shifted_up K D (L2.start N_shifted_up vs) H := by
  obtain ⟨v, u, rfl, h1, h2⟩ := rs.inv2
  obtain ⟨hs, hk, hl⟩ := hp
  have hsm := least_small hs.2
  refine q_set (K := K) (M := []) (d := pset (leastOf p.1 p.2)) e (ev_need_set (by walk_at "ea") hs) fun F1 H1 v1 s1 r1 => ?_
  exact st_ret (K := K) (M := []) s1.fh (ev_told_set (p := upBy (leastOf p.1 p.2) k) (ea_cons (ev_up_by (ea_cons (by walk_at "ev") (ea_cons (ev_need_by (by walk_at "ea") hk) ea_nil)) ⟨hsm, hk⟩) ea_nil) ⟨hl, Nat.le_trans (least_len _ _).2.1 hsm.2.1⟩) fun F3 H3 u s3 ru => q _ _ _ (s1.trans s3) ru
def sp_shifted_down (K : PySem.W.Frag) : Sp := spP K (fun i : (PyData) × (Bs) × (Nat) => (fun (d : PyData) (p : Bs) (k : Nat) => ([d, .int k] : List PyData)) i.1 i.2.1 i.2.2) (fun i => (fun (d : PyData) (p : Bs) (k : Nat) => (.tuple [lB (downBy (leastOf p.1 p.2) k).1, lB (downBy (leastOf p.1 p.2) k).2] : PyData)) i.1 i.2.1 i.2.2) (fun i => (fun (d : PyData) (p : Bs) (k : Nat) => ((SetD d p ∧ Small p) ∧ k ≤ 60 : Prop)) i.1 i.2.1 i.2.2)
theorem ev_shifted_down {K : PySem.W.Frag} {M : List Addr} {σ : L2.St} {F H : Hp} {ta : TA} {E : XK} {d : PyData} {p : Bs} {k : Nat} (h : EvA K M ta σ F H [d, .int k]) (hp : (SetD d p ∧ Small p) ∧ k ≤ 60) : EvD K M (tCall (sp_shifted_down K) [] E ta) σ F H (.tuple [lB (downBy (leastOf p.1 p.2) k).1, lB (downBy (leastOf p.1 p.2) k).2]) := ev_call (d, p, k) h hp
local macro_rules | `(tactic| walk_at "ev") => `(tactic| ((with_reducible show EvD _ _ (tCall (sp_shifted_down _) _ _ _) _ _ _ _); exact ev_shifted_down (by walk_at "ea") (by walk_at "sc")))
abbrev N_shifted_down : List Str := ["numbers", "by", "plain"]
def t_shifted_down (K : PySem.W.Frag) : TS :=
  (tSeq (tAsg (tCall (sp_need_set K) [] E0 (tCons (tVar 0) tNil)) (gName 2))
  (tRet (tCall (sp_told_set K) [] E0 (tCons (tCall (sp_down_by K) [] E0 (tCons (tVar 2) (tCons (tCall (sp_need_by K) [] E0 (tCons (tVar 1) tNil)) tNil))) tNil))))
theorem rd_shifted_down' {K : PySem.W.Frag} {F H : Hp} (d : PyData) (p : Bs) (k : Nat) {vs : List V} (e : Same F H) (rs : RpAll K F vs [d, .int k]) (hp : (SetD d p ∧ Small p) ∧ k ≤ 60) (D : Ends) (hn : ∀ σ H', D.nx σ H' = D.rt .non H') (q : ∀ F' H' v, Sx [] F H F' H' → Rp K F' v (.tuple [lB (downBy (leastOf p.1 p.2) k).1, lB (downBy (leastOf p.1 p.2) k).2]) → D.rt v H') : t_shifted_down K D (L2.start N_shifted_down vs) H := by
  obtain ⟨v, u, rfl, h1, h2⟩ := rs.inv2
  obtain ⟨hs, hk⟩ := hp
  have hsm := least_small hs.2
  refine q_set (K := K) (M := []) (d := pset (leastOf p.1 p.2)) e (ev_need_set (by walk_at "ea") hs) fun F1 H1 v1 s1 r1 => ?_
  exact st_ret (K := K) (M := []) s1.fh (ev_told_set (p := downBy (leastOf p.1 p.2) k) (ea_cons (ev_down_by (ea_cons (by walk_at "ev") (ea_cons (ev_need_by (by walk_at "ea") hk) ea_nil)) ⟨hsm, hk⟩) ea_nil) (downBy_len hsm k)) fun F3 H3 u s3 ru => q _ _ _ (s1.trans s3) ru
end
end Sf

/-! the arithmetic of sets that come round -/
namespace Sf
theorem good_iff {ring : List Bool} {k : Nat} : good ring k = true ↔ ring.length % k = 0 ∧ ring.drop k = ring.take (ring.length - k) := by
  unfold good
  simp only [Bool.not_eq_true', Bool.or_eq_false_iff, bne_eq_false_iff_eq, Bool.not_eq_false', decide_eq_true_eq]
theorem rnd_spec (ring : List Bool) : ∀ f k, 1 ≤ k → k + f = ring.length → good ring (rndGo ring f k) = true ∧ k ≤ rndGo ring f k ∧ rndGo ring f k ≤ ring.length ∧ ∀ j, k ≤ j → j < rndGo ring f k → good ring j = false
  | 0, k, _, h => by
    have : k = ring.length := by omega
    subst this
    exact ⟨good_len, Nat.le_refl _, Nat.le_refl _, fun j h1 h2 => by rw [rndGo] at h2; omega⟩
  | f + 1, k, hk, h => by
    rw [rndGo]
    by_cases hg : good ring k = true
    · rw [if_pos hg]
      exact ⟨hg, Nat.le_refl _, by omega, fun j h1 h2 => by omega⟩
    · rw [if_neg hg]
      obtain ⟨a, b, c, d⟩ := rnd_spec ring f (k + 1) (by omega) (by omega)
      refine ⟨a, by omega, c, fun j h1 h2 => ?_⟩
      rcases Nat.lt_or_eq_of_le h1 with h3 | h3
      · exact d j h3 h2
      · rw [← h3]; simpa using hg
theorem round_spec {ring : List Bool} (h : ring ≠ []) : good ring (roundSize ring) = true ∧ 1 ≤ roundSize ring ∧ roundSize ring ≤ ring.length ∧ ∀ j, 1 ≤ j → j < roundSize ring → good ring j = false := by
  have := List.length_pos_iff.mpr h
  exact rnd_spec ring (ring.length - 1) 1 (Nat.le_refl 1) (by omega)
theorem good_shift {ring : List Bool} {k : Nat} (h : good ring k = true) {i : Nat} (hi : i + k < ring.length) : ring.getD (i + k) false = ring.getD i false := by
  have h2 := (good_iff.mp h).2
  have := congrArg (fun l => l[i]?) h2
  simp only [List.getElem?_drop, List.getElem?_take] at this
  rw [if_pos (by omega), Nat.add_comm k i] at this
  rw [List.getD_eq_getElem?_getD, List.getD_eq_getElem?_getD, this]
theorem good_mod {ring : List Bool} {k : Nat} (hk : 0 < k) (h : good ring k = true) : ∀ j, j < ring.length → ring.getD j false = ring.getD (j % k) false := by
  intro j
  induction j using Nat.strongRecOn with
  | _ j ih =>
    intro hj
    by_cases hlt : j < k
    · rw [Nat.mod_eq_of_lt hlt]
    · have e : j = (j - k) + k := by omega
      rw [e, good_shift h (by omega), ih (j - k) (by omega) (by omega), Nat.add_mod_right]
theorem getD_take {l : List Bool} {n i : Nat} (h : i < n) : (l.take n).getD i false = l.getD i false := by
  rw [List.getD_eq_getElem?_getD, List.getD_eq_getElem?_getD, List.getElem?_take, if_pos h]
theorem inSet_round {few ring : List Bool} (h : ring ≠ []) (n : Nat) : inSet (few, ring.take (roundSize ring)) n = inSet (few, ring) n := by
  obtain ⟨g, h1, h2, _⟩ := round_spec h
  have hl : (ring.take (roundSize ring)).length = roundSize ring := by rw [List.length_take]; omega
  unfold inSet
  simp only [hl]
  by_cases hn : n < few.length
  · rw [if_pos hn, if_pos hn]
  · rw [if_neg hn, if_neg hn, getD_take (Nat.mod_lt _ h1)]
    have hp := List.length_pos_iff.mpr h
    rw [good_mod h1 g _ (Nat.mod_lt _ hp), Nat.mod_mod_of_dvd _ (Nat.dvd_of_mod_eq_zero (good_iff.mp g).1)]
theorem inSet_step {few ring : List Bool} {b : Bool} (h : ring.getLast? = some b) (n : Nat) : inSet (few, b :: ring.dropLast) n = inSet (few ++ [b], ring) n := by
  have hne : ring ≠ [] := fun z => by subst z; cases h
  have hp := List.length_pos_iff.mpr hne
  have hl : (b :: ring.dropLast).length = ring.length := by rw [List.length_cons, List.length_dropLast]; omega
  unfold inSet
  simp only [hl, List.length_append, List.length_singleton]
  by_cases h1 : n < few.length
  · rw [if_pos h1, if_pos (by omega), List.getD_eq_getElem?_getD, List.getD_eq_getElem?_getD, List.getElem?_append_left h1]
  · rw [if_neg h1]
    by_cases h2 : n < few.length + 1
    · have : n = few.length := by omega
      rw [if_pos h2, this, Nat.sub_self, Nat.zero_mod, List.getD_eq_getElem?_getD, List.getD_eq_getElem?_getD, List.getElem?_append_right (Nat.le_refl _), Nat.sub_self]
      rfl
    · rw [if_neg h2]
      obtain ⟨t, rfl⟩ : ∃ t, n = few.length + 1 + t := ⟨n - few.length - 1, by omega⟩
      rw [show few.length + 1 + t - few.length = t + 1 by omega, show few.length + 1 + t - (few.length + 1) = t by omega]
      have hm := Nat.mod_lt t hp
      have hlast : ring.getD (ring.length - 1) false = b := by
        rw [List.getD_eq_getElem?_getD, ← List.getLast?_eq_getElem?, h]; rfl
      by_cases ht : t % ring.length = ring.length - 1
      · have : (t + 1) % ring.length = 0 := by
          rw [Nat.add_mod, ht]
          by_cases h1 : ring.length = 1
          · rw [h1]
          · rw [Nat.mod_eq_of_lt (show 1 < ring.length by omega), show ring.length - 1 + 1 = ring.length by omega, Nat.mod_self]
        rw [this, ht, hlast]
        rfl
      · have : (t + 1) % ring.length = t % ring.length + 1 := by
          rw [Nat.add_mod, Nat.mod_eq_of_lt (show 1 < ring.length by omega), Nat.mod_eq_of_lt (by omega)]
        rw [this, List.getD_cons_succ, List.getD_eq_getElem?_getD, List.getD_eq_getElem?_getD, List.getElem?_dropLast, if_pos (by omega)]
theorem inSet_roll : ∀ (r ring : List Bool), ring ≠ [] → ∀ n, inSet (roll r ring) n = inSet (r.reverse, ring) n
  | [], ring, _, n => rfl
  | b :: r, ring, hne, n => by
    rw [roll]
    split
    · rename_i h
      rw [inSet_roll r _ (by simp) n, inSet_step h, List.reverse_cons]
    · rfl
theorem inSet_least {few ring : List Bool} (h : ring ≠ []) (n : Nat) : inSet (leastOf few ring) n = inSet (few, ring) n := by
  obtain ⟨g, h1, h2, _⟩ := round_spec h
  unfold leastOf
  rw [inSet_roll _ _ (fun z => by have := congrArg List.length z; rw [List.length_take, List.length_nil] at this; omega), List.reverse_reverse, inSet_round h]
theorem inSet_per {p : Bs} (h : p.2 ≠ []) {n : Nat} (hn : p.1.length ≤ n) (t : Nat) : inSet p (n + p.2.length * t) = inSet p n := by
  unfold inSet
  rw [if_neg (by omega), if_neg (by omega), show n + p.2.length * t - p.1.length = (n - p.1.length) + p.2.length * t by omega, Nat.add_mul_mod_self_left]
/-! ### one least form -/
def EP (f : Nat → Bool) (k : Nat) : Prop := ∃ N, ∀ n, N ≤ n → f (n + k) = f n
theorem EP.sub {f : Nat → Bool} {a b : Nat} (ha : EP f a) (hb : EP f b) (h : b ≤ a) : EP f (a - b) := by
  obtain ⟨N, hN⟩ := ha
  obtain ⟨N', hN'⟩ := hb
  refine ⟨N + N', fun n hn => ?_⟩
  rw [← hN' (n + (a - b)) (by omega), show n + (a - b) + b = n + a by omega]
  exact hN n (by omega)
theorem EP.mod {f : Nat → Bool} {a b : Nat} (ha : EP f a) (hb : EP f b) : EP f (a % b) := by
  induction a using Nat.strongRecOn with
  | _ a ih =>
    by_cases h : a < b
    · rw [Nat.mod_eq_of_lt h]; exact ha
    · by_cases hb0 : b = 0
      · rw [hb0, Nat.mod_zero]; exact ha
      · rw [Nat.mod_eq_sub_mod (by omega)]
        exact ih (a - b) (by omega) (ha.sub hb (by omega))
theorem EP.gcd {f : Nat → Bool} : ∀ {a b : Nat}, EP f a → EP f b → EP f (Nat.gcd a b) := by
  intro a
  induction a using Nat.strongRecOn with
  | _ a ih =>
    intro b ha hb
    by_cases h : a = 0
    · rw [h, Nat.gcd_zero_left]; exact hb
    · rw [Nat.gcd_rec]
      exact ih (b % a) (Nat.mod_lt _ (by omega)) (hb.mod ha) ha
theorem EP.of {p : Bs} (h : p.2 ≠ []) : EP (inSet p) p.2.length := ⟨p.1.length, fun n hn => by
  have := inSet_per h hn 1
  rwa [Nat.mul_one] at this⟩
/-- the ring of the least form is the least round of the tail -/
theorem ring_least {few ring : List Bool} (h : ring ≠ []) {k : Nat} (hk : 1 ≤ k) (he : EP (inSet (few, ring)) k) : roundSize ring ≤ k := by
  obtain ⟨g, h1, h2, hmin⟩ := round_spec h
  have hp := List.length_pos_iff.mpr h
  rcases Nat.lt_or_ge k (roundSize ring) with hlt | hge
  · exfalso
    have eps : EP (inSet (few, ring)) (roundSize ring) := by
      have hne : ring.take (roundSize ring) ≠ [] := fun z => by have := congrArg List.length z; rw [List.length_take, List.length_nil] at this; omega
      obtain ⟨N, hN⟩ := EP.of (p := (few, ring.take (roundSize ring))) hne
      refine ⟨N, fun n hn => ?_⟩
      have := hN n hn
      rw [inSet_round h, inSet_round h] at this
      rw [← this]
      simp only [List.length_take]
      rw [Nat.min_eq_left h2]
    have hd := he.gcd eps
    have hdv := Nat.gcd_dvd_right k (roundSize ring)
    have hd1 : 1 ≤ Nat.gcd k (roundSize ring) := Nat.gcd_pos_of_pos_left _ hk
    have hd2 : Nat.gcd k (roundSize ring) ≤ k := Nat.le_of_dvd hk (Nat.gcd_dvd_left _ _)
    have hdl : Nat.gcd k (roundSize ring) ∣ ring.length := Nat.dvd_trans hdv (Nat.dvd_of_mod_eq_zero (good_iff.mp g).1)
    have hbad := hmin _ hd1 (by omega)
    generalize Nat.gcd k (roundSize ring) = d at hd hd1 hd2 hdl hbad
    -- the tail has round d
    obtain ⟨N, hN⟩ := hd
    have hall : ∀ i, ring.getD ((i + d) % ring.length) false = ring.getD (i % ring.length) false := fun i => by
      have e1 := inSet_per (p := (few, ring)) h (n := few.length + i) (by simp) N
      have e2 := inSet_per (p := (few, ring)) h (n := few.length + i + d) (by simp; omega) N
      have e3 := hN (few.length + i + ring.length * N) (by have : N ≤ ring.length * N := Nat.le_mul_of_pos_left _ hp; omega)
      simp only at e1 e2
      rw [show few.length + i + ring.length * N + d = few.length + i + d + ring.length * N by omega, e2, e1] at e3
      unfold inSet at e3
      rw [if_neg (by simp; omega), if_neg (by simp)] at e3
      rw [show few.length + i + d - few.length = i + d by omega, show few.length + i - few.length = i by omega] at e3
      exact e3
    have hg : good ring d = true := by
      refine good_iff.mpr ⟨Nat.mod_eq_zero_of_dvd hdl, ?_⟩
      have hdle := Nat.le_of_dvd hp hdl
      apply List.ext_getElem
      · rw [List.length_drop, List.length_take]; omega
      · intro i q1 q2
        rw [List.length_drop] at q1
        rw [List.getElem_drop, List.getElem_take]
        have := hall i
        rw [Nat.mod_eq_of_lt (show i + d < ring.length by omega), Nat.mod_eq_of_lt (show i < ring.length by omega), List.getD_eq_getElem?_getD, List.getD_eq_getElem?_getD, List.getElem?_eq_getElem (by omega), List.getElem?_eq_getElem (by omega)] at this
        simp only [Option.getD_some] at this
        simp only [Nat.add_comm d i]
        exact this
    rw [hg] at hbad
    cases hbad
  · exact hge
theorem least_ring {few ring : List Bool} (h : ring ≠ []) : (leastOf few ring).2.length = roundSize ring := by
  obtain ⟨g, h1, h2, _⟩ := round_spec h
  unfold leastOf
  rw [(roll_len _ _).2, List.length_take]
  omega
theorem roll_last : ∀ (r ring : List Bool), (roll r ring).1 = [] ∨ (roll r ring).1.getLast? ≠ (roll r ring).2.getLast?
  | [], ring => .inl rfl
  | b :: r, ring => by
    rw [roll]
    split
    · exact roll_last r _
    · rename_i h
      refine .inr fun z => h ?_
      rw [← z, List.reverse_cons, List.getLast?_append]
      rfl
theorem inSet_at {p : Bs} {i : Nat} (hi : i < p.2.length) : inSet p (p.1.length + i) = p.2.getD i false := by
  unfold inSet
  rw [if_neg (by omega), Nat.add_sub_cancel_left, Nat.mod_eq_of_lt hi]
/-- the few of one least form is no longer than that of another -/
theorem few_le {p q : Bs} (hp : p.2 ≠ []) (hq : q.2 ≠ []) (hl : p.2.length = q.2.length) (he : ∀ n, inSet p n = inSet q n) (hlast : q.1 = [] ∨ q.1.getLast? ≠ q.2.getLast?) : q.1.length ≤ p.1.length := by
  rcases Nat.lt_or_ge p.1.length q.1.length with h | h
  · exfalso
    have hqp := List.length_pos_iff.mpr hq
    have hne : q.1 ≠ [] := fun z => by rw [z] at h; simp at h
    rcases hlast with z | z
    · exact hne z
    · apply z
      -- the place ahead of q's ring, and one round on
      have e1 : inSet q (q.1.length - 1) = q.1.getD (q.1.length - 1) false := by unfold inSet; rw [if_pos (by omega)]
      have e2 : inSet q (q.1.length - 1 + q.2.length) = q.2.getD (q.2.length - 1) false := by
        rw [show q.1.length - 1 + q.2.length = q.1.length + (q.2.length - 1) by omega]
        exact inSet_at (by omega)
      have e3 := inSet_per hp (n := q.1.length - 1) (by omega) 1
      rw [Nat.mul_one, hl, he, he, e1, e2] at e3
      rw [List.getLast?_eq_getElem?, List.getLast?_eq_getElem?, List.getElem?_eq_getElem (by omega), List.getElem?_eq_getElem (by omega)]
      rw [List.getD_eq_getElem?_getD, List.getD_eq_getElem?_getD, List.getElem?_eq_getElem (by omega), List.getElem?_eq_getElem (by omega)] at e3
      simp only [Option.getD_some] at e3
      rw [e3]
  · exact h
theorem ext_getD {l m : List Bool} (hl : l.length = m.length) (h : ∀ i, i < l.length → l.getD i false = m.getD i false) : l = m := by
  apply List.ext_getElem hl
  intro i h1 h2
  have := h i h1
  rw [List.getD_eq_getElem?_getD, List.getD_eq_getElem?_getD, List.getElem?_eq_getElem h1, List.getElem?_eq_getElem h2] at this
  simpa using this
/-- JUST ONE least form -/
theorem least_one {f1 r1 f2 r2 : List Bool} (h1 : r1 ≠ []) (h2 : r2 ≠ []) (he : ∀ n, inSet (f1, r1) n = inSet (f2, r2) n) : leastOf f1 r1 = leastOf f2 r2 := by
  have hs : ∀ n, inSet (leastOf f1 r1) n = inSet (leastOf f2 r2) n := fun n => by rw [inSet_least h1, inSet_least h2, he]
  have n1 := (least_len f1 r1).2.2 h1
  have n2 := (least_len f2 r2).2.2 h2
  have ef : inSet (f1, r1) = inSet (f2, r2) := funext he
  have hr : roundSize r1 = roundSize r2 := by
    have a1 := (round_spec h1).2.1
    have a2 := (round_spec h2).2.1
    have e1 : EP (inSet (f1, r1)) (roundSize r1) := by
      have := EP.of n1
      rw [least_ring h1] at this
      rwa [show inSet (leastOf f1 r1) = inSet (f1, r1) from funext fun n => inSet_least h1 n] at this
    have e2 : EP (inSet (f2, r2)) (roundSize r2) := by
      have := EP.of n2
      rw [least_ring h2] at this
      rwa [show inSet (leastOf f2 r2) = inSet (f2, r2) from funext fun n => inSet_least h2 n] at this
    exact Nat.le_antisymm (ring_least h1 a2 (ef ▸ e2)) (ring_least h2 a1 (ef ▸ e1))
  have hl : (leastOf f1 r1).2.length = (leastOf f2 r2).2.length := by rw [least_ring h1, least_ring h2, hr]
  have hfl : (leastOf f1 r1).1.length = (leastOf f2 r2).1.length := Nat.le_antisymm (few_le n2 n1 hl.symm (fun n => (hs n).symm) (roll_last _ _)) (few_le n1 n2 hl hs (roll_last _ _))
  have q1 : (leastOf f1 r1).1 = (leastOf f2 r2).1 := ext_getD hfl fun i hi => by
    have := hs i
    unfold inSet at this
    rwa [if_pos hi, if_pos (by omega)] at this
  have q2 : (leastOf f1 r1).2 = (leastOf f2 r2).2 := ext_getD hl fun i hi => by
    rw [← inSet_at hi, ← inSet_at (show i < (leastOf f2 r2).2.length by omega), hs, hfl]
  exact Prod.ext q1 q2
/-! ### rows -/
theorem inSet_row {f : Nat → Bool} {b s : Nat} (hs : 0 < s) (hf : ∀ n, b ≤ n → f (n + s) = f n) (n : Nat) : inSet ((((List.range (b + s)).map f).take b), (((List.range (b + s)).map f).drop b)) n = f n := by
  have l1 : (((List.range (b + s)).map f).take b).length = b := by simp
  have l2 : (((List.range (b + s)).map f).drop b).length = s := by simp
  have per : ∀ t n, b ≤ n → f (n + s * t) = f n := fun t => by
    induction t with
    | zero => intro n _; rfl
    | succ t ih => intro n hn; rw [Nat.mul_succ, ← Nat.add_assoc, hf _ (by omega), ih n hn]
  unfold inSet
  simp only [l1, l2]
  by_cases h : n < b
  · rw [if_pos h, getD_take h, List.getD_eq_getElem?_getD, List.getElem?_map, List.getElem?_range (by omega)]
    rfl
  · rw [if_neg h, List.getD_eq_getElem?_getD, List.getElem?_drop, List.getElem?_map, List.getElem?_range (by have := Nat.mod_lt (n - b) hs; omega)]
    show f (b + (n - b) % s) = f n
    have e := Nat.mod_add_div (n - b) s
    rw [← per ((n - b) / s) (b + (n - b) % s) (by omega)]
    congr 1
    omega
def byTs (ts : List (Bool × Bool)) (a b : Bool) : Bool := ts.any fun t => t.1 == a && t.2 == b
theorem inSet_setBy {p q : Bs} (hp : p.2 ≠ []) (hq : q.2 ≠ []) (ts : List (Bool × Bool)) (n : Nat) : inSet (setBy p q ts) n = byTs ts (inSet p n) (inSet q n) := by
  have p1 := List.length_pos_iff.mpr hp
  have p2 := List.length_pos_iff.mpr hq
  have hL : 0 < Nat.lcm p.2.length q.2.length := Nat.lcm_pos p1 p2
  have hne : (setRow p q ts).drop (max p.1.length q.1.length) ≠ [] := fun z => by
    have := congrArg List.length z
    unfold setRow at this
    rw [List.length_drop, List.length_map, List.length_range, List.length_nil] at this
    omega
  rw [setBy_eq, inSet_least hne]
  refine inSet_row (f := fun n => ts.any fun t => t.1 == inSet p n && t.2 == inSet q n) hL (fun n hn => ?_) n
  obtain ⟨a, ha⟩ := Nat.dvd_lcm_left p.2.length q.2.length
  obtain ⟨b, hb⟩ := Nat.dvd_lcm_right p.2.length q.2.length
  have e1 : inSet p (n + Nat.lcm p.2.length q.2.length) = inSet p n := by rw [ha]; exact inSet_per hp (by omega) a
  have e2 : inSet q (n + Nat.lcm p.2.length q.2.length) = inSet q n := by rw [hb]; exact inSet_per hq (by omega) b
  simp only [e1, e2]
theorem setBy_ne {p q : Bs} (hp : p.2 ≠ []) (hq : q.2 ≠ []) (ts : List (Bool × Bool)) : (setBy p q ts).2 ≠ [] := by
  have p1 := List.length_pos_iff.mpr hp
  have p2 := List.length_pos_iff.mpr hq
  have hL : 0 < Nat.lcm p.2.length q.2.length := Nat.lcm_pos p1 p2
  rw [setBy_eq]
  refine (least_len _ _).2.2 fun z => ?_
  have := congrArg List.length z
  unfold setRow at this
  rw [List.length_drop, List.length_map, List.length_range, List.length_nil] at this
  omega
/-! ### the first number -/
theorem range_first (f : Nat → Bool) : ∀ n, match ((List.range n).filter f).head? with
    | none => ∀ k, k < n → f k = false
    | some m => m < n ∧ f m = true ∧ ∀ k, k < m → f k = false
  | 0 => fun k h => by omega
  | n + 1 => by
    have ih := range_first f n
    rw [List.range_succ, List.filter_append, List.head?_append]
    cases h : ((List.range n).filter f).head? with
    | none =>
      rw [h] at ih
      simp only [Option.none_or]
      cases hn : f n with
      | false =>
        simp only [List.filter_cons, hn, List.filter_nil]
        intro k hk
        rcases Nat.lt_or_eq_of_le (Nat.le_of_lt_succ hk) with h1 | h1
        · exact ih k h1
        · rw [h1]; exact hn
      | true =>
        simp only [List.filter_cons, hn, List.filter_nil]
        exact ⟨by omega, hn, ih⟩
    | some m =>
      rw [h] at ih
      simp only [Option.some_or]
      exact ⟨by omega, ih.2.1, ih.2.2⟩
/-- the first number overall, or none -/
def IsFirst (f : Nat → Bool) : Option Nat → Prop
  | none => ∀ k, f k = false
  | some m => f m = true ∧ ∀ k, k < m → f k = false
theorem IsFirst.one {f : Nat → Bool} : ∀ {a b : Option Nat}, IsFirst f a → IsFirst f b → a = b
  | none, none, _, _ => rfl
  | none, some m, h, h' => (Bool.noConfusion ((show f m = false from h m).symm.trans h'.1))
  | some m, none, h, h' => (Bool.noConfusion ((show f m = false from h' m).symm.trans h.1))
  | some m, some n, h, h' => by
    rcases Nat.lt_trichotomy m n with q | q | q
    · exact Bool.noConfusion ((h'.2 m q).symm.trans h.1)
    · rw [q]
    · exact Bool.noConfusion ((h.2 n q).symm.trans h'.1)
theorem range_isFirst {f : Nat → Bool} {n : Nat} (h : (∀ k, k < n → f k = false) → ∀ k, f k = false) : IsFirst f ((List.range n).filter f).head? := by
  have := range_first f n
  revert this
  cases ((List.range n).filter f).head? with
  | none => exact fun q => h q
  | some m => exact fun q => ⟨q.2.1, q.2.2⟩
theorem firstOf_is {p : Bs} (h : p.2 ≠ []) : IsFirst (inSet p) (firstOf p) := by
  have hp := List.length_pos_iff.mpr h
  refine range_isFirst fun hk k => ?_
  rcases Nat.lt_or_ge k (p.1.length + p.2.length) with h1 | h1
  · exact hk k h1
  · have e := inSet_per h (n := p.1.length + (k - p.1.length) % p.2.length) (by omega) ((k - p.1.length) / p.2.length)
    have hd := Nat.mod_add_div (k - p.1.length) p.2.length
    rw [show p.1.length + (k - p.1.length) % p.2.length + p.2.length * ((k - p.1.length) / p.2.length) = k by omega] at e
    rw [e]
    exact hk _ (by have := Nat.mod_lt (k - p.1.length) hp; omega)
/-! ### two sets that agree long enough agree -/
theorem agree {f g : Nat → Bool} {b p q : Nat} (hp : 0 < p) (hq : 0 < q) (hf : ∀ n, b ≤ n → f (n + p) = f n) (hg : ∀ n, b ≤ n → g (n + q) = g n) (h : ∀ n, n < b + p + q → f n = g n) : ∀ n, f n = g n := by
  have perf : ∀ t n, b ≤ n → f (n + p * t) = f n := fun t => by
    induction t with
    | zero => intro n _; rfl
    | succ t ih => intro n hn; rw [Nat.mul_succ, ← Nat.add_assoc, hf _ (by omega), ih n hn]
  have perg : ∀ t n, b ≤ n → g (n + q * t) = g n := fun t => by
    induction t with
    | zero => intro n _; rfl
    | succ t ih => intro n hn; rw [Nat.mul_succ, ← Nat.add_assoc, hg _ (by omega), ih n hn]
  -- f has round q, too
  have hfq : ∀ n, b ≤ n → f (n + q) = f n := fun n hn => by
    have e := Nat.mod_add_div (n - b) p
    have hm := Nat.mod_lt (n - b) hp
    have e1 := perf ((n - b) / p) (b + (n - b) % p) (by omega)
    have e2 := perf ((n - b) / p) (b + (n - b) % p + q) (by omega)
    rw [show b + (n - b) % p + p * ((n - b) / p) = n by omega] at e1
    rw [show b + (n - b) % p + q + p * ((n - b) / p) = n + q by omega] at e2
    rw [e1, e2, h _ (by omega), h _ (by omega), hg _ (by omega)]
  have perfq : ∀ t n, b ≤ n → f (n + q * t) = f n := fun t => by
    induction t with
    | zero => intro n _; rfl
    | succ t ih => intro n hn; rw [Nat.mul_succ, ← Nat.add_assoc, hfq _ (by omega), ih n hn]
  intro n
  rcases Nat.lt_or_ge n (b + p + q) with h1 | h1
  · exact h n h1
  · have e := Nat.mod_add_div (n - b) q
    have hm := Nat.mod_lt (n - b) hq
    have e1 := perfq ((n - b) / q) (b + (n - b) % q) (by omega)
    have e2 := perg ((n - b) / q) (b + (n - b) % q) (by omega)
    rw [show b + (n - b) % q + q * ((n - b) / q) = n by omega] at e1 e2
    rw [e1, e2, h _ (by omega)]
theorem sets_agree {p q : Bs} (hp : p.2 ≠ []) (hq : q.2 ≠ []) {m : Nat} (hm : max p.1.length q.1.length + p.2.length + q.2.length ≤ m) (h : ∀ n, n < m → inSet p n = inSet q n) : ∀ n, inSet p n = inSet q n :=
  agree (b := max p.1.length q.1.length) (List.length_pos_iff.mpr hp) (List.length_pos_iff.mpr hq) (fun n hn => by have := inSet_per hp (n := n) (by omega) 1; rwa [Nat.mul_one] at this) (fun n hn => by have := inSet_per hq (n := n) (by omega) 1; rwa [Nat.mul_one] at this) fun n hn => h n (by omega)
/-! ### moved -/
theorem inSet_up {p : Bs} (h : p.2 ≠ []) (k n : Nat) : inSet (upBy p k) n = if n < k then false else inSet p (n - k) := by
  unfold upBy
  rw [inSet_least h]
  unfold inSet
  simp only [List.length_append, List.length_replicate]
  by_cases h1 : n < k
  · rw [if_pos h1, if_pos (by omega), List.getD_eq_getElem?_getD, List.getElem?_append_left (by simpa using h1), List.getElem?_replicate]
    rw [if_pos h1]; rfl
  · rw [if_neg h1]
    by_cases h2 : n < k + p.1.length
    · rw [if_pos h2, if_pos (by omega), List.getD_eq_getElem?_getD, List.getD_eq_getElem?_getD, List.getElem?_append_right (by simp; omega), List.length_replicate]
    · rw [if_neg h2, if_neg (by omega), show n - (k + p.1.length) = n - k - p.1.length by omega]
theorem up_ne {p : Bs} (h : p.2 ≠ []) (k : Nat) : (upBy p k).2 ≠ [] := (least_len _ _).2.2 h
theorem down_up {p : Bs} (h : p.2 ≠ []) (k : Nat) : downBy (leastOf (upBy p k).1 (upBy p k).2) k = leastOf p.1 p.2 := by
  have hu := up_ne h k
  have hl : (leastOf (upBy p k).1 (upBy p k).2).2 ≠ [] := (least_len _ _).2.2 hu
  unfold downBy
  generalize hq : leastOf (upBy p k).1 (upBy p k).2 = q at hl
  have hs : ∀ n, inSet q (n + k) = inSet p n := fun n => by
    rw [← hq, inSet_least hu]
    show inSet (upBy p k) (n + k) = _
    rw [inSet_up h, if_neg (by omega), Nat.add_sub_cancel]
  have hql := List.length_pos_iff.mpr hl
  refine least_one (fun z => ?_) h fun n => ?_
  · have := congrArg List.length z
    unfold downRow at this
    rw [List.length_drop, List.length_map, List.length_range, List.length_nil] at this
    omega
  · unfold downRow
    rw [inSet_row (f := fun n => inSet q (n + k)) hql (fun n hn => ?_) n, hs]
    have := inSet_per hl (n := n + k) (by omega) 1
    rw [Nat.mul_one] at this
    rw [show n + q.2.length + k = n + k + q.2.length by omega]
    exact this
end Sf

/-! the law's own sets: _law_mleast_set, _law_min -/
namespace Sf
open PySem L2 RZ
/-! evaluation, construct by construct -/
local macro_rules | `(tactic| walk_at "rp") => `(tactic| first | assumption | exact .int _ | exact .bl _ | exact .str _ | exact .non | exact Rp.mono (Sx.ff (by assumption)) (by walk_at "rp"))
local macro_rules | `(tactic| walk_at "sc") => `(tactic| first | rfl | assumption | omega | decide | (simp; done) | (simp; omega))
local macro_rules | `(tactic| walk_at "ix") => `(tactic| first | rfl | assumption)
local macro_rules | `(tactic| walk_at "rv") => `(tactic| first
  | exact xAddI | exact xSub | exact xLt | exact xLe | exact xGt | exact xGe | exact xIsN | exact xNotN | exact xEqI | exact xNeI | exact xEqB | exact xNeB | exact xEqLB | exact xEqTB | exact xNeTB
  | exact xMod (by walk_at "sc")
  | exact xDiv (by walk_at "sc")
  | exact xPow (by walk_at "sc")
  | exact xMulI (by walk_at "sc")
  | exact rv_ixt (by walk_at "ix")
  | exact rv_ixl (by walk_at "ix")
  | exact xAddL (by walk_at "sc")
  | exact xAddT (by walk_at "sc"))
local macro_rules | `(tactic| walk_at "rc") => `(tactic| first | exact xLenL | exact xLenT | exact xListL | exact xListT | exact xTupL | exact xTupT | exact xMax2 | exact xInt | exact rc_all | exact rc_any)
local macro_rules | `(tactic| walk_at "ea") => `(tactic| first | exact ea_nil | refine ea_cons (by walk_at "ev") (by walk_at "ea"))
local macro_rules | `(tactic| walk_at "eo") => `(tactic| first | exact eo_none | refine eo_some (by walk_at "ev"))
local macro_rules | `(tactic| walk_at "et") => `(tactic| first
  | ((with_reducible show EvT _ _ (tTest _) _ _ _ _); exact et_test (by walk_at "ev"))
  | ((with_reducible show EvT _ _ (tNot _) _ _ _ _); exact et_not (by walk_at "et"))
  | ((with_reducible show EvT _ _ (tAnd _ _) _ _ _ _); exact et_and (by walk_at "et") (fun hh => by walk_at "et"))
  | ((with_reducible show EvT _ _ (tOr _ _) _ _ _ _); exact et_or (by walk_at "et") (fun hh => by walk_at "et"))
  | ((with_reducible show EvT _ _ (tTru _ _) _ _ _ _); exact xTru (by walk_at "ev") (by walk_at "sc"))
  | ((with_reducible show EvT _ _ tYes _ _ _ _); exact et_yes))
local macro_rules | `(tactic| walk_at "ev") => `(tactic| first
  | ((with_reducible show EvD _ _ (tC _) _ _ _ _); first | exact ev_int | exact ev_bl | exact ev_str | exact ev_non)
  | ((with_reducible show EvD _ _ (tVar _) _ _ _ _); exact ev_var (by rfl) (by walk_at "rp"))
  | ((with_reducible show EvD _ _ (tOp _ _ _) _ _ _ _); exact ev_op (by walk_at "ev") (by walk_at "ev") (by walk_at "rv"))
  | ((with_reducible show EvD _ _ (tUn _ _) _ _ _ _); exact ev_un (by walk_at "ev") xNeg)
  | ((with_reducible show EvD _ _ (tCB _ _) _ _ _ _); exact ev_cb (by walk_at "ea") (by walk_at "rc"))
  | ((with_reducible show EvD _ _ (tTup _) _ _ _ _); exact ev_tup (by walk_at "ea") (by walk_at "sc"))
  | ((with_reducible show EvD _ _ (tLst _) _ _ _ _); exact ev_lst (by walk_at "ea") (by walk_at "sc"))
  | ((with_reducible show EvD _ _ (tSl _ _ _ _) _ _ _ _); first | exact xSlL (by walk_at "ev") (by walk_at "eo") (by walk_at "eo") | exact xSlT (by walk_at "ev") (by walk_at "eo") (by walk_at "eo"))
  | ((with_reducible show EvD _ _ (tNotT _ _) _ _ _ _); exact ev_notT (by walk_at "ev") (by walk_at "sc"))
  | ((with_reducible show EvD _ _ (tAndT _ _ _) _ _ _ _); exact ev_andB (by walk_at "ev") (fun hh => by walk_at "ev"))
  | ((with_reducible show EvD _ _ (tOrT _ _ _) _ _ _ _); exact ev_orB (by walk_at "ev") (fun hh => by walk_at "ev")))

local macro_rules | `(tactic| walk_at "ev") => `(tactic| ((with_reducible show EvD _ _ (tCall (sp_is_row _) _ _ _) _ _ _ _); exact ev_is_row (by walk_at "ea")))
local macro_rules | `(tactic| walk_at "ev") => `(tactic| ((with_reducible show EvD _ _ (tCall (sp_is_number _) _ _ _) _ _ _ _); exact ev_is_number (by walk_at "ea")))
local macro_rules | `(tactic| walk_at "ev") => `(tactic| ((with_reducible show EvD _ _ (tCall (sp_is_truths _) _ _ _) _ _ _ _); exact ev_is_truths (by walk_at "ea") (by walk_at "sc")))
local macro_rules | `(tactic| walk_at "ev") => `(tactic| ((with_reducible show EvD _ _ (tCall (sp_round_size _) _ _ _) _ _ _ _); exact ev_round_size (by walk_at "ea") (by walk_at "sc")))
local macro_rules | `(tactic| walk_at "ev") => `(tactic| ((with_reducible show EvD _ _ (tCall (sp_in_set _) _ _ _) _ _ _ _); exact ev_in_set (by walk_at "ea") (by walk_at "sc")))
local macro_rules | `(tactic| walk_at "ev") => `(tactic| ((with_reducible show EvD _ _ (tCall (sp_common_round _) _ _ _) _ _ _ _); exact ev_common_round (by walk_at "ea") (by walk_at "sc")))
local macro_rules | `(tactic| walk_at "ev") => `(tactic| ((with_reducible show EvD _ _ (tCall (sp_least_of _) _ _ _) _ _ _ _); exact ev_least_of (by walk_at "ea") (by walk_at "sc")))
local macro_rules | `(tactic| walk_at "ev") => `(tactic| ((with_reducible show EvD _ _ (tCall (sp_set_in _) _ _ _) _ _ _ _); exact ev_set_in (by walk_at "ea") (by walk_at "sc")))
local macro_rules | `(tactic| walk_at "ev") => `(tactic| ((with_reducible show EvD _ _ (tCall (sp_need_set _) _ _ _) _ _ _ _); exact ev_need_set (by walk_at "ea") (by walk_at "sc")))
local macro_rules | `(tactic| walk_at "ev") => `(tactic| ((with_reducible show EvD _ _ (tCall (sp_need_sets _) _ _ _) _ _ _ _); exact ev_need_sets (by walk_at "ea") (by walk_at "sc")))
local macro_rules | `(tactic| walk_at "ev") => `(tactic| ((with_reducible show EvD _ _ (tCall (sp_told_set _) _ _ _) _ _ _ _); exact ev_told_set (by walk_at "ea") (by walk_at "sc")))
local macro_rules | `(tactic| walk_at "ev") => `(tactic| ((with_reducible show EvD _ _ (tCall (sp_set_by _) _ _ _) _ _ _ _); exact ev_set_by (by walk_at "ea") (by walk_at "sc")))
local macro_rules | `(tactic| walk_at "ev") => `(tactic| ((with_reducible show EvD _ _ (tCall (sp_first_of _) _ _ _) _ _ _ _); exact ev_first_of (by walk_at "ea") (by walk_at "sc")))
local macro_rules | `(tactic| walk_at "ev") => `(tactic| ((with_reducible show EvD _ _ (tCall (sp_has_number _) _ _ _) _ _ _ _); exact ev_has_number (by walk_at "ea") (by walk_at "sc")))
local macro_rules | `(tactic| walk_at "ev") => `(tactic| ((with_reducible show EvD _ _ (tCall (sp_numbers_below _) _ _ _) _ _ _ _); exact ev_numbers_below (by walk_at "ea") (by walk_at "sc")))
local macro_rules | `(tactic| walk_at "ev") => `(tactic| ((with_reducible show EvD _ _ (tCall (sp_is_within _) _ _ _) _ _ _ _); exact ev_is_within (by walk_at "ea") (by walk_at "sc")))
local macro_rules | `(tactic| walk_at "ev") => `(tactic| ((with_reducible show EvD _ _ (tCall (sp_first_number _) _ _ _) _ _ _ _); exact ev_first_number (by walk_at "ea") (by walk_at "sc")))
local macro_rules | `(tactic| walk_at "ev") => `(tactic| ((with_reducible show EvD _ _ (tCall (sp_first_apart _) _ _ _) _ _ _ _); exact ev_first_apart (by walk_at "ea") (by walk_at "sc")))
local macro_rules | `(tactic| walk_at "ev") => `(tactic| ((with_reducible show EvD _ _ (tCall (sp_need_by _) _ _ _) _ _ _ _); exact ev_need_by (by walk_at "ea") (by walk_at "sc")))
local macro_rules | `(tactic| walk_at "ev") => `(tactic| ((with_reducible show EvD _ _ (tCall (sp_up_by _) _ _ _) _ _ _ _); exact ev_up_by (by walk_at "ea") (by walk_at "sc")))
local macro_rules | `(tactic| walk_at "ev") => `(tactic| ((with_reducible show EvD _ _ (tCall (sp_down_by _) _ _ _) _ _ _ _); exact ev_down_by (by walk_at "ea") (by walk_at "sc")))
local macro_rules | `(tactic| walk_at "ev") => `(tactic| ((with_reducible show EvD _ _ (tCall (sp_shifted_up _) _ _ _) _ _ _ _); exact ev_shifted_up (by walk_at "ea") (by walk_at "sc")))
local macro_rules | `(tactic| walk_at "ev") => `(tactic| ((with_reducible show EvD _ _ (tCall (sp_shifted_down _) _ _ _) _ _ _ _); exact ev_shifted_down (by walk_at "ea") (by walk_at "sc")))
abbrev lset (p : Bs) : PyData := .tuple [lB p.1, lB p.2]
/-! a ring that comes again after k: k times what begins it -/
theorem rep_iff {k : Nat} (hk : 0 < k) : ∀ (m : Nat) (xs : List Bool), xs.length = k * m → (xs.drop k = xs.take (xs.length - k) ↔ (List.replicate m (xs.take k)).flatten = xs)
  | 0, xs, h => by
    have : xs = [] := List.eq_nil_of_length_eq_zero (by rw [h]; rfl)
    subst this
    simp
  | 1, xs, h => by
    have h1 : xs.length = k := by rw [h, Nat.mul_one]
    constructor
    · intro _
      rw [List.take_of_length_le (by omega)]
      simp
    · intro _
      rw [List.drop_of_length_le (by omega), h1, Nat.sub_self, List.take_zero]
  | m + 2, xs, h => by
    have hm : k * (m + 2) = k * (m + 1) + k := Nat.mul_succ k (m + 1)
    have hm2 : k ≤ k * (m + 1) := Nat.le_mul_of_pos_right k (by omega)
    have hl : (xs.drop k).length = k * (m + 1) := by rw [List.length_drop]; omega
    have hsplit : xs = xs.take k ++ xs.drop k := (List.take_append_drop k xs).symm
    have ih := rep_iff hk (m + 1) (xs.drop k) hl
    rw [hl] at ih
    constructor
    · intro e
      have e1 : (xs.drop k).take k = xs.take k := by
        rw [e, List.take_take]
        congr 1
        omega
      have e2 : (xs.drop k).drop k = (xs.drop k).take (k * (m + 1) - k) := by
        conv => lhs; rw [e]
        rw [List.drop_take]
        congr 1
        omega
      have e3 := ih.mp e2
      rw [e1] at e3
      rw [List.replicate_succ, List.flatten_cons, e3]
      exact hsplit.symm
    · intro e
      have e0 : (List.replicate (m + 1) (xs.take k)).flatten = xs.drop k := by
        rw [List.replicate_succ, List.flatten_cons] at e
        have := congrArg (List.drop k) e
        rwa [List.drop_left' (by rw [List.length_take]; omega)] at this
      rw [← e0]
      have e4 : (List.replicate (m + 2) (xs.take k)).flatten = (List.replicate (m + 1) (xs.take k)).flatten ++ xs.take k := by
        rw [List.replicate_succ', List.flatten_append]
        simp
      have e5 := congrArg (List.take (xs.length - k)) e
      rw [e4, List.take_left' (by rw [e0, hl]; omega)] at e5
      exact e5
def lawGood (ring : List Bool) (k : Nat) : Bool := decide ((ring.length : Int) % (k : Int) = 0) && decide ((List.replicate (ring.length / k) (ring.take k)).flatten = ring)
theorem lawGood_eq {ring : List Bool} {k : Nat} (hk : 0 < k) : lawGood ring k = good ring k := by
  unfold lawGood
  rw [← Int.natCast_emod]
  by_cases h : ring.length % k = 0
  · have hm : ring.length = k * (ring.length / k) := by have := Nat.mod_add_div ring.length k; omega
    have hi := rep_iff hk (ring.length / k) ring hm
    rw [decide_eq_true (by rw [h]; rfl), Bool.true_and]
    by_cases h2 : (List.replicate (ring.length / k) (ring.take k)).flatten = ring
    · rw [decide_eq_true h2]
      exact (good_iff.mpr ⟨h, hi.mpr h2⟩).symm
    · rw [decide_eq_false h2]
      cases hg : good ring k with
      | false => rfl
      | true => exact absurd (hi.mp (good_iff.mp hg).2) h2
  · rw [decide_eq_false (by omega), Bool.false_and]
    cases hg : good ring k with
    | false => rfl
    | true => exact absurd (good_iff.mp hg).1 h
theorem first_range' (f : Nat → Bool) : ∀ (n a : Nat), match ((List.range' a n).filter f).head? with
    | none => ∀ k, a ≤ k → k < a + n → f k = false
    | some m => a ≤ m ∧ m < a + n ∧ f m = true ∧ ∀ k, a ≤ k → k < m → f k = false
  | 0, a => fun k h1 h2 => by omega
  | n + 1, a => by
    rw [List.range'_succ]
    cases ha : f a with
    | true =>
      rw [List.filter_cons, if_pos ha, List.head?_cons]
      exact ⟨Nat.le_refl _, by omega, ha, fun k h1 h2 => by omega⟩
    | false =>
      rw [List.filter_cons, if_neg (by rw [ha]; decide)]
      have ih := first_range' f n (a + 1)
      revert ih
      cases ((List.range' (a + 1) n).filter f).head? with
      | none =>
        intro ih k h1 h2
        rcases Nat.lt_or_eq_of_le h1 with h3 | h3
        · exact ih k h3 (by omega)
        · rw [← h3]; exact ha
      | some m =>
        intro ih
        refine ⟨by omega, by omega, ih.2.2.1, fun k h1 h2 => ?_⟩
        rcases Nat.lt_or_eq_of_le h1 with h3 | h3
        · exact ih.2.2.2 k h3 h2
        · rw [← h3]; exact ha
theorem lawSize {ring : List Bool} (h : ring ≠ []) : ((List.range' 1 ring.length).filter (lawGood ring)).head? = some (roundSize ring) := by
  obtain ⟨g, h1, h2, h3⟩ := round_spec h
  have := first_range' (lawGood ring) ring.length 1
  revert this
  cases ((List.range' 1 ring.length).filter (lawGood ring)).head? with
  | none =>
    intro q
    have := q (roundSize ring) h1 (by omega)
    rw [lawGood_eq h1, g] at this
    cases this
  | some m =>
    intro ⟨q1, q2, q3, q4⟩
    rw [lawGood_eq q1] at q3
    congr 1
    rcases Nat.lt_trichotomy m (roundSize ring) with q | q | q
    · rw [h3 m q1 q] at q3; cases q3
    · exact q
    · have := q4 _ h1 q
      rw [lawGood_eq h1, g] at this
      cases this
theorem flat_map {n : Nat} {bs : List Bool} : (List.replicate n (bs.map PyData.bool)).flatten = ((List.replicate n bs).flatten).map PyData.bool := by
  rw [List.map_flatten, List.map_replicate]
section
variable {K : PySem.W.Frag}
def sp_law_min (K : PySem.W.Frag) : Sp := spP K (fun i : (Bs) × (Nat) => (fun (p : Bs) (n : Nat) => ([lset p, .int n] : List PyData)) i.1 i.2) (fun i => (fun (p : Bs) (n : Nat) => (.bool (inSet p n) : PyData)) i.1 i.2) (fun i => (fun (p : Bs) (n : Nat) => (p.2 ≠ [] : Prop)) i.1 i.2)
theorem ev_law_min {K : PySem.W.Frag} {M : List Addr} {σ : L2.St} {F H : Hp} {ta : TA} {E : XK} {p : Bs} {n : Nat} (h : EvA K M ta σ F H [lset p, .int n]) (hp : p.2 ≠ []) : EvD K M (tCall (sp_law_min K) [] E ta) σ F H (.bool (inSet p n)) := ev_call (p, n) h hp
local macro_rules | `(tactic| walk_at "ev") => `(tactic| ((with_reducible show EvD _ _ (tCall (sp_law_min _) _ _ _) _ _ _ _); exact ev_law_min (by walk_at "ea") (by walk_at "sc")))
abbrev N_law_min : List Str := ["numbers", "number", "few", "ring"]
def t_law_min (K : PySem.W.Frag) : TS :=
  (tSeq (tAsg (tVar 0) (gTup K 2 (gCons (gName 2) (gCons (gName 3) gNil))))
  (tRet (tIf (tTest (tOp rLtI (tVar 1) (tCB (rLen K) (tCons (tVar 2) tNil)))) (tOp (rIx K) (tVar 2) (tVar 1)) (tOp (rIx K) (tVar 3) (tOp rModI (tOp rSubI (tVar 1) (tCB (rLen K) (tCons (tVar 2) tNil))) (tCB (rLen K) (tCons (tVar 3) tNil)))))))
theorem rd_law_min' {K : PySem.W.Frag} {F H : Hp} (p : Bs) (n : Nat) {vs : List V} (e : Same F H) (rs : RpAll K F vs [lset p, .int n]) (hp : p.2 ≠ []) (D : Ends) (hn : ∀ σ H', D.nx σ H' = D.rt .non H') (q : ∀ F' H' v, Sx [] F H F' H' → Rp K F' v (.bool (inSet p n)) → D.rt v H') : t_law_min K D (L2.start N_law_min vs) H := by
  obtain ⟨few, ring⟩ := p
  obtain ⟨v, u, rfl, h1, h2⟩ := rs.inv2
  refine (q_asg (K := K) (M := []) (d := lset (few, ring)) tg_nm2 e (by walk_at "ev") fun F1 H1 σ1 s1 ⟨a, b, ha, hb, hσ⟩ => ?_)
  subst hσ
  refine st_ret (K := K) (M := []) (d := .bool (inSet (few, ring) n)) s1.fh (ev_if (b := decide ((n : Int) < (few.length : Int))) ?_ (fun h => ?_) (fun h => ?_)) fun F2 H2 u s2 ru => q _ _ _ (s1.trans s2) ru
  · refine EvT.is (et_test (by walk_at "ev")) ?_
    simp
  · have hlt : n < few.length := by simpa using h
    have : atI (few.map PyData.bool) (n : Int) = some (.bool (few.getD n false)) := atI_nat (by simp [hlt])
    refine EvD.is (by walk_at "ev") ?_
    unfold inSet; rw [if_pos hlt]
  · have hge : ¬ n < few.length := by simpa using h
    have hpos : 0 < ring.length := List.length_pos_iff.mpr hp
    have e0 : ((n : Int) - ((few.map PyData.bool).length : Int)) % ((ring.map PyData.bool).length : Int) = (((n - few.length) % ring.length : Nat) : Int) := by
      rw [List.length_map, List.length_map, Int.natCast_emod, Int.ofNat_sub (by omega)]
    have : atI (ring.map PyData.bool) (((n : Int) - ((few.map PyData.bool).length : Int)) % ((ring.map PyData.bool).length : Int)) = some (.bool (ring.getD ((n - few.length) % ring.length) false)) := by
      rw [e0]
      exact atI_nat (by simp [Nat.mod_lt _ hpos])
    refine EvD.is (by walk_at "ev") ?_
    unfold inSet; rw [if_neg hge]
def sp_law_mleast_set (K : PySem.W.Frag) : Sp := spP K (fun i : (List Bool) × (List Bool) => (fun (few : List Bool) (ring : List Bool) => ([lB few, lB ring] : List PyData)) i.1 i.2) (fun i => (fun (few : List Bool) (ring : List Bool) => (lset (leastOf few ring) : PyData)) i.1 i.2) (fun i => (fun (few : List Bool) (ring : List Bool) => (ring ≠ [] ∧ ring.length ≤ 1000 : Prop)) i.1 i.2)
theorem ev_law_mleast_set {K : PySem.W.Frag} {M : List Addr} {σ : L2.St} {F H : Hp} {ta : TA} {E : XK} {few : List Bool} {ring : List Bool} (h : EvA K M ta σ F H [lB few, lB ring]) (hp : ring ≠ [] ∧ ring.length ≤ 1000) : EvD K M (tCall (sp_law_mleast_set K) [] E ta) σ F H (lset (leastOf few ring)) := ev_call (few, ring) h hp
local macro_rules | `(tactic| walk_at "ev") => `(tactic| ((with_reducible show EvD _ _ (tCall (sp_law_mleast_set _) _ _ _) _ _ _ _); exact ev_law_mleast_set (by walk_at "ea") (by walk_at "sc")))
abbrev N_law_mleast_set : List Str := ["few", "ring", "size", "many"]
def t_law_mleast_set (K : PySem.W.Frag) : TS :=
  (tSeq (tAsg (tOp (rIx K) (tLc (iRng2 (tCons (tC (.int 1)) (tCons (tOp (rAddU K) (tCB (rLen K) (tCons (tVar 1) tNil)) (tC (.int 1))) tNil))) (gName 3) (tAnd (tTest (tOp (rEqD K) (tOp rModI (tCB (rLen K) (tCons (tVar 1) tNil)) (tVar 3)) (tC (.int 0)))) (tTest (tOp (rEqD K) (tOp (rMulU K) (tSl (rSlU K) (tVar 1) tNoPart (tPart (tVar 3))) (tOp rDivI (tCB (rLen K) (tCons (tVar 1) tNil)) (tVar 3))) (tVar 1)))) (tVar 3) [3]) (tC (.int 0))) (gName 2))
  (tSeq (tAsg (tTup (tCons (tCB (rListOf K) (tCons (tVar 0) tNil)) (tCons (tCB (rListOf K) (tCons (tSl (rSlU K) (tVar 1) tNoPart (tPart (tVar 2))) tNil)) tNil))) (gTup K 2 (gCons (gName 0) (gCons (gName 1) gNil))))
  (tSeq (tWhile (tAnd (tTest (tOp (rNeD K) (tVar 0) (tLst tNil))) (tTest (tOp (rEqD K) (tOp (rIx K) (tVar 0) (tUn rNegI (tC (.int 1)))) (tOp (rIx K) (tVar 1) (tUn rNegI (tC (.int 1)))))))
   (tAsg (tTup (tCons (tSl (rSlU K) (tVar 0) tNoPart (tPart (tUn rNegI (tC (.int 1))))) (tCons (tOp (rAddU K) (tSl (rSlU K) (tVar 1) (tPart (tUn rNegI (tC (.int 1)))) tNoPart) (tSl (rSlU K) (tVar 1) tNoPart (tPart (tUn rNegI (tC (.int 1)))))) tNil))) (gTup K 2 (gCons (gName 0) (gCons (gName 1) gNil)))))
  (tRet (tTup (tCons (tVar 0) (tCons (tVar 1) tNil)))))))
theorem rd_law_mleast_set' {K : PySem.W.Frag} {F H : Hp} (few : List Bool) (ring : List Bool) {vs : List V} (e : Same F H) (rs : RpAll K F vs [lB few, lB ring]) (hp : ring ≠ [] ∧ ring.length ≤ 1000) (D : Ends) (hn : ∀ σ H', D.nx σ H' = D.rt .non H') (q : ∀ F' H' v, Sx [] F H F' H' → Rp K F' v (lset (leastOf few ring)) → D.rt v H') : t_law_mleast_set K D (L2.start N_law_mleast_set vs) H := by
  obtain ⟨v, u, rfl, h1, h2⟩ := rs.inv2
  obtain ⟨hne, hbig⟩ := hp
  have hpos := List.length_pos_iff.mpr hne
  have hmul : ∀ a, a ≤ 1000 → ring.length * a ≤ 1000000 := fun a ha => Nat.mul_le_mul hbig ha
  refine q_set (K := K) (M := []) (d := .int (roundSize ring : Nat)) e (ev_op (EvN.ev (en_lcR2 1 ring.length (fun n : Nat => PyData.int (n : Int)) (lawGood ring) (j := 3) (m := 1) (m' := ((ring.map PyData.bool).length : Int) + 1) (by walk_at "ea") rfl (by rw [List.length_map]; omega) (by omega) (by omega) rfl (fun _ => rfl) (fun a ha1 ha2 F2 H2 s2 => ?_) (fun a ha1 ha2 _ F2 H2 s2 => by walk_at "ev"))) ev_int (rv_ixl ?_)) fun F1 H1 v1 s1 r1 => ?_
  · have hd : ((ring.map PyData.bool).length : Int) / (a : Int) = ((ring.length / a : Nat) : Int) := by rw [List.length_map, Int.natCast_ediv]
    refine EvT.is (et_and (a := decide ((((ring.map PyData.bool).length : Int)) % (a : Int) = 0)) (b := decide ((List.replicate (ring.length / a) (ring.take a)).flatten = ring)) (et_test (ev_op (ev_op (by walk_at "ev") (by walk_at "ev") (xMod (by omega))) ev_int xEqI)) fun _ => et_test (ev_op (EvD.is (ev_op (xTakeL (k := a) (xs := ring) (f := .bool) (by walk_at "ev") (by walk_at "eo")) (ev_op (by walk_at "ev") (by walk_at "ev") (xDiv (by omega))) (xMulL (by rw [hd]; have hq := Nat.div_le_self ring.length a; clear hd; generalize ring.length / a = t at hq ⊢; omega) ?_)) ?_) (by walk_at "ev") xEqLB)) ?_
    · rw [hd, Int.toNat_natCast, List.length_map, List.length_take]
      refine Nat.le_trans (Nat.mul_le_mul (Nat.min_le_right _ _) (Nat.div_le_self _ _)) (hmul _ hbig)
    · rw [hd, Int.toNat_natCast, flat_map]
    · unfold lawGood
      rw [List.length_map]
  · have hs := lawSize hne
    cases hx : (List.range' 1 ring.length).filter (lawGood ring) with
    | nil => rw [hx] at hs; cases hs
    | cons a b =>
      rw [hx] at hs
      cases hs
      exact atI_at (f := fun n : Nat => PyData.int (n : Int)) (n := 0) rfl
  cases r1.int_of
  refine q_asg (K := K) (M := []) (d := .tuple [lB few, lB (ring.take (roundSize ring))]) tg_nm2 s1.fh (ev_tup (ea_cons (by walk_at "ev") (ea_cons (ev_cb (ea_cons (xTakeL (k := roundSize ring) (xs := ring) (f := .bool) (by walk_at "ev") (by walk_at "eo")) ea_nil) xListL) ea_nil)) (by simp)) fun F2 H2 σ2 s2 ⟨a, b, ha, hb, hσ⟩ => ?_
  subst hσ
  have hne1 : ring.take (roundSize ring) ≠ [] := fun z => by
    have h3 := congrArg List.length z
    rw [List.length_take, List.length_nil] at h3
    have := (round_spec hne).2.1
    omega
  refine q_while (K := K) (M := []) (fun m σ' F' H' => ∃ f r v v', r ≠ [] ∧ r.length ≤ 100000 ∧ m = f.length ∧ roll f.reverse r = leastOf few ring ∧ Rp K F' v (lB f) ∧ Rp K F' v' (lB r) ∧ σ' = [some v, some v', some (.int (roundSize ring : Nat)), none]) s2.fh few.length ⟨few, _, a, b, hne1, by rw [List.length_take]; omega, rfl, rfl, ha, hb, rfl⟩ ?_
  rintro m σ' F' H' s' ⟨f, r, v, v', hr, hrl, rfl, hroll, hf, hr', rfl⟩
  have hlr : r.getLast? = some (r.getLast hr) := List.getLast?_eq_getLast hr
  have atr := atI_last1 (f := PyData.bool) hlr
  by_cases h0 : f = []
  · subst h0
    refine ⟨(!([] : List PyData).isEmpty) && false, [], et_and (et_test (ev_op (x := lB []) (by walk_at "ev") (ev_lst ea_nil (by decide)) (xNeNil sh_nil))) (fun z => absurd z (by decide)), fun hb => absurd hb (by decide), fun _ F3 H3 s3 => ?_⟩
    refine st_ret (K := K) (M := []) (d := .tuple [lB [], lB r]) s3.fh (by walk_at "ev") fun F4 H4 w s4 ru => q _ _ _ ((((s1.trans s2).trans s').trans s3).trans s4) ?_
    rw [← hroll]
    exact ru
  · have hlf : f.getLast? = some (f.getLast h0) := List.getLast?_eq_getLast h0
    have atf := atI_last1 (f := PyData.bool) hlf
    have hrev : f.reverse = f.getLast h0 :: f.dropLast.reverse := by
      conv => lhs; rw [← List.dropLast_concat_getLast h0]
      rw [List.reverse_append]; rfl
    rw [hrev, roll, hlr] at hroll
    have hse : (!(f.map PyData.bool).isEmpty) = true := by cases f with | nil => exact absurd rfl h0 | cons a b => rfl
    refine ⟨(!(f.map PyData.bool).isEmpty) && decide (f.getLast h0 = r.getLast hr), [], et_and (et_test (ev_op (x := lB f) (by walk_at "ev") (ev_lst ea_nil (by decide)) (xNeNil sh_lB))) (fun _ => by walk_at "et"), fun hb F3 H3 s3 => ?_, fun hb F3 H3 s3 => ?_⟩
    · have heq : f.getLast h0 = r.getLast hr := by rw [hse] at hb; simpa using hb
      rw [if_pos (by rw [heq])] at hroll
      refine st_asg (K := K) (M := []) (d := .tuple [lB f.dropLast, lB ([r.getLast hr] ++ r.dropLast)]) tg_nm2 s3.fh (ev_tup (ea_cons (xInitL (by walk_at "ev") (by walk_at "eo")) (ea_cons ((ev_op (xTail1L hlr (by walk_at "ev") (by walk_at "eo")) (xInitL (by walk_at "ev") (by walk_at "eo")) (xAddL ?_)).is (congrArg PyData.list List.map_append.symm)) ea_nil)) (by simp)) fun F4 H4 σ4 s4 ⟨w, w', rw, rw', hσ⟩ => ⟨_, ?_, F4, (s'.trans s3).trans s4, f.dropLast, _, w, w', by simp, ?_, rfl, ?_, rw, rw', hσ⟩
      · rw [List.length_map, List.length_map, List.length_dropLast, List.length_singleton]; omega
      · rw [List.length_dropLast]
        have := List.length_pos_iff.mpr h0
        omega
      · rw [List.length_append, List.length_dropLast, List.length_singleton]; omega
      · rw [← hroll, heq]; rfl
    · have hneq : f.getLast h0 ≠ r.getLast hr := by rw [hse] at hb; simpa using hb
      rw [if_neg (fun z => hneq (Option.some.inj z).symm)] at hroll
      refine st_ret (K := K) (M := []) (d := .tuple [lB f, lB r]) s3.fh (by walk_at "ev") fun F4 H4 w s4 ru => q _ _ _ ((((s1.trans s2).trans s').trans s3).trans s4) ?_
      rw [← hroll, ← hrev, List.reverse_reverse]
      exact ru
end
end Sf

set_option maxHeartbeats 8000000
/-! law k09: its own drawing of sets, and itself -/
namespace Sf
open PySem L2 RZ
/-! evaluation, construct by construct -/
local macro_rules | `(tactic| walk_at "rp") => `(tactic| first | assumption | exact .int _ | exact .bl _ | exact .str _ | exact .non | exact Rp.mono (Sx.ff (by assumption)) (by walk_at "rp"))
local macro_rules | `(tactic| walk_at "sc") => `(tactic| first | rfl | assumption | omega | decide | (simp; done) | (simp; omega))
local macro_rules | `(tactic| walk_at "ix") => `(tactic| first | rfl | assumption)
local macro_rules | `(tactic| walk_at "rv") => `(tactic| first
  | exact xAddI | exact xSub | exact xLt | exact xLe | exact xGt | exact xGe | exact xIsN | exact xNotN | exact xEqI | exact xNeI | exact xEqB | exact xNeB | exact xEqLB | exact xEqTB | exact xNeTB
  | exact xMod (by walk_at "sc")
  | exact xDiv (by walk_at "sc")
  | exact xPow (by walk_at "sc")
  | exact xMulI (by walk_at "sc")
  | exact rv_ixt (by walk_at "ix")
  | exact rv_ixl (by walk_at "ix")
  | exact xAddL (by walk_at "sc")
  | exact xAddT (by walk_at "sc"))
local macro_rules | `(tactic| walk_at "rc") => `(tactic| first | exact xLenL | exact xLenT | exact xListL | exact xListT | exact xTupL | exact xTupT | exact xMax2 | exact xInt | exact rc_all | exact rc_any)
local macro_rules | `(tactic| walk_at "ea") => `(tactic| first | exact ea_nil | refine ea_cons (by walk_at "ev") (by walk_at "ea"))
local macro_rules | `(tactic| walk_at "eo") => `(tactic| first | exact eo_none | refine eo_some (by walk_at "ev"))
local macro_rules | `(tactic| walk_at "et") => `(tactic| first
  | ((with_reducible show EvT _ _ (tTest _) _ _ _ _); exact et_test (by walk_at "ev"))
  | ((with_reducible show EvT _ _ (tNot _) _ _ _ _); exact et_not (by walk_at "et"))
  | ((with_reducible show EvT _ _ (tAnd _ _) _ _ _ _); exact et_and (by walk_at "et") (fun hh => by walk_at "et"))
  | ((with_reducible show EvT _ _ (tOr _ _) _ _ _ _); exact et_or (by walk_at "et") (fun hh => by walk_at "et"))
  | ((with_reducible show EvT _ _ (tTru _ _) _ _ _ _); exact xTru (by walk_at "ev") (by walk_at "sc"))
  | ((with_reducible show EvT _ _ tYes _ _ _ _); exact et_yes))
local macro_rules | `(tactic| walk_at "ev") => `(tactic| first
  | ((with_reducible show EvD _ _ (tC _) _ _ _ _); first | exact ev_int | exact ev_bl | exact ev_str | exact ev_non)
  | ((with_reducible show EvD _ _ (tVar _) _ _ _ _); exact ev_var (by rfl) (by walk_at "rp"))
  | ((with_reducible show EvD _ _ (tOp _ _ _) _ _ _ _); exact ev_op (by walk_at "ev") (by walk_at "ev") (by walk_at "rv"))
  | ((with_reducible show EvD _ _ (tUn _ _) _ _ _ _); exact ev_un (by walk_at "ev") xNeg)
  | ((with_reducible show EvD _ _ (tCB _ _) _ _ _ _); exact ev_cb (by walk_at "ea") (by walk_at "rc"))
  | ((with_reducible show EvD _ _ (tTup _) _ _ _ _); exact ev_tup (by walk_at "ea") (by walk_at "sc"))
  | ((with_reducible show EvD _ _ (tLst _) _ _ _ _); exact ev_lst (by walk_at "ea") (by walk_at "sc"))
  | ((with_reducible show EvD _ _ (tSl _ _ _ _) _ _ _ _); first | exact xSlL (by walk_at "ev") (by walk_at "eo") (by walk_at "eo") | exact xSlT (by walk_at "ev") (by walk_at "eo") (by walk_at "eo"))
  | ((with_reducible show EvD _ _ (tNotT _ _) _ _ _ _); exact ev_notT (by walk_at "ev") (by walk_at "sc"))
  | ((with_reducible show EvD _ _ (tAndT _ _ _) _ _ _ _); exact ev_andB (by walk_at "ev") (fun hh => by walk_at "ev"))
  | ((with_reducible show EvD _ _ (tOrT _ _ _) _ _ _ _); exact ev_orB (by walk_at "ev") (fun hh => by walk_at "ev")))

local macro_rules | `(tactic| walk_at "ev") => `(tactic| ((with_reducible show EvD _ _ (tCall (sp_is_row _) _ _ _) _ _ _ _); exact ev_is_row (by walk_at "ea")))
local macro_rules | `(tactic| walk_at "ev") => `(tactic| ((with_reducible show EvD _ _ (tCall (sp_is_number _) _ _ _) _ _ _ _); exact ev_is_number (by walk_at "ea")))
local macro_rules | `(tactic| walk_at "ev") => `(tactic| ((with_reducible show EvD _ _ (tCall (sp_is_truths _) _ _ _) _ _ _ _); exact ev_is_truths (by walk_at "ea") (by walk_at "sc")))
local macro_rules | `(tactic| walk_at "ev") => `(tactic| ((with_reducible show EvD _ _ (tCall (sp_round_size _) _ _ _) _ _ _ _); exact ev_round_size (by walk_at "ea") (by walk_at "sc")))
local macro_rules | `(tactic| walk_at "ev") => `(tactic| ((with_reducible show EvD _ _ (tCall (sp_in_set _) _ _ _) _ _ _ _); exact ev_in_set (by walk_at "ea") (by walk_at "sc")))
local macro_rules | `(tactic| walk_at "ev") => `(tactic| ((with_reducible show EvD _ _ (tCall (sp_common_round _) _ _ _) _ _ _ _); exact ev_common_round (by walk_at "ea") (by walk_at "sc")))
local macro_rules | `(tactic| walk_at "ev") => `(tactic| ((with_reducible show EvD _ _ (tCall (sp_least_of _) _ _ _) _ _ _ _); exact ev_least_of (by walk_at "ea") (by walk_at "sc")))
local macro_rules | `(tactic| walk_at "ev") => `(tactic| ((with_reducible show EvD _ _ (tCall (sp_set_in _) _ _ _) _ _ _ _); exact ev_set_in (by walk_at "ea") (by walk_at "sc")))
local macro_rules | `(tactic| walk_at "ev") => `(tactic| ((with_reducible show EvD _ _ (tCall (sp_need_set _) _ _ _) _ _ _ _); exact ev_need_set (by walk_at "ea") (by walk_at "sc")))
local macro_rules | `(tactic| walk_at "ev") => `(tactic| ((with_reducible show EvD _ _ (tCall (sp_need_sets _) _ _ _) _ _ _ _); exact ev_need_sets (by walk_at "ea") (by walk_at "sc")))
local macro_rules | `(tactic| walk_at "ev") => `(tactic| ((with_reducible show EvD _ _ (tCall (sp_told_set _) _ _ _) _ _ _ _); exact ev_told_set (by walk_at "ea") (by walk_at "sc")))
local macro_rules | `(tactic| walk_at "ev") => `(tactic| ((with_reducible show EvD _ _ (tCall (sp_set_by _) _ _ _) _ _ _ _); exact ev_set_by (by walk_at "ea") (by walk_at "sc")))
local macro_rules | `(tactic| walk_at "ev") => `(tactic| ((with_reducible show EvD _ _ (tCall (sp_first_of _) _ _ _) _ _ _ _); exact ev_first_of (by walk_at "ea") (by walk_at "sc")))
local macro_rules | `(tactic| walk_at "ev") => `(tactic| ((with_reducible show EvD _ _ (tCall (sp_has_number _) _ _ _) _ _ _ _); exact ev_has_number (by walk_at "ea") (by walk_at "sc")))
local macro_rules | `(tactic| walk_at "ev") => `(tactic| ((with_reducible show EvD _ _ (tCall (sp_numbers_below _) _ _ _) _ _ _ _); exact ev_numbers_below (by walk_at "ea") (by walk_at "sc")))
local macro_rules | `(tactic| walk_at "ev") => `(tactic| ((with_reducible show EvD _ _ (tCall (sp_is_within _) _ _ _) _ _ _ _); exact ev_is_within (by walk_at "ea") (by walk_at "sc")))
local macro_rules | `(tactic| walk_at "ev") => `(tactic| ((with_reducible show EvD _ _ (tCall (sp_first_number _) _ _ _) _ _ _ _); exact ev_first_number (by walk_at "ea") (by walk_at "sc")))
local macro_rules | `(tactic| walk_at "ev") => `(tactic| ((with_reducible show EvD _ _ (tCall (sp_first_apart _) _ _ _) _ _ _ _); exact ev_first_apart (by walk_at "ea") (by walk_at "sc")))
local macro_rules | `(tactic| walk_at "ev") => `(tactic| ((with_reducible show EvD _ _ (tCall (sp_need_by _) _ _ _) _ _ _ _); exact ev_need_by (by walk_at "ea") (by walk_at "sc")))
local macro_rules | `(tactic| walk_at "ev") => `(tactic| ((with_reducible show EvD _ _ (tCall (sp_up_by _) _ _ _) _ _ _ _); exact ev_up_by (by walk_at "ea") (by walk_at "sc")))
local macro_rules | `(tactic| walk_at "ev") => `(tactic| ((with_reducible show EvD _ _ (tCall (sp_down_by _) _ _ _) _ _ _ _); exact ev_down_by (by walk_at "ea") (by walk_at "sc")))
local macro_rules | `(tactic| walk_at "ev") => `(tactic| ((with_reducible show EvD _ _ (tCall (sp_shifted_up _) _ _ _) _ _ _ _); exact ev_shifted_up (by walk_at "ea") (by walk_at "sc")))
local macro_rules | `(tactic| walk_at "ev") => `(tactic| ((with_reducible show EvD _ _ (tCall (sp_shifted_down _) _ _ _) _ _ _ _); exact ev_shifted_down (by walk_at "ea") (by walk_at "sc")))
local macro_rules | `(tactic| walk_at "ev") => `(tactic| ((with_reducible show EvD _ _ (tCall (sp_law_min _) _ _ _) _ _ _ _); exact ev_law_min (by walk_at "ea") (by walk_at "sc")))
local macro_rules | `(tactic| walk_at "ev") => `(tactic| ((with_reducible show EvD _ _ (tCall (sp_law_mleast_set _) _ _ _) _ _ _ _); exact ev_law_mleast_set (by walk_at "ea") (by walk_at "sc")))
section
variable {K : PySem.W.Frag} {F H F' H' F1 H1 F2 H2 : Hp} {M : List Addr} {σ : L2.St} {te ta tb tc tl : TE} {tt tu : TT} {d x y z : PyData} {D : Ends} {tw tz : TS} {p q : Addr} {c c' : Nat} {Px Py : PyData → Prop}
theorem esa2 (ha : EvS K p q ta σ F H c Px) (hb : EvS K p q tb σ F H c' Py) : EvSA K p q (tCons ta (tCons tb tNil)) σ F H (c + (c' + 0)) (fun ds => ∃ x y, ds = [x, y] ∧ Px x ∧ Py y) :=
  esa_cons (Pr := fun ds => ∃ y, ds = [y] ∧ Py y) ha (esa_cons (Pr := fun ds => ds = []) hb esa_nil fun y ds hy hd => ⟨y, by rw [hd], hy⟩) fun x ds hx ⟨y, hd, hy⟩ => ⟨x, y, by rw [hd], hx, hy⟩
theorem qs_asg2 {n i j : Nat} {Pr : PyData → PyData → Prop} (e : Same F H) (st : Stm F H p q n) (h : EvS K p q te σ F H c (fun d => ∃ x y, d = .tuple [x, y] ∧ Pr x y)) (hn : n + c ≤ 1000000000) (k : ∀ F1 H1 v w x y, Sx [p, q] F H F1 H1 → Stm F1 H1 p q (n + c) → Pr x y → Rp K F1 v x → Rp K F1 w y → tw D ((σ.set i (some v)).set j (some w)) H1) : tSeq (tAsg te (gTup K 2 (gCons (gName i) (gCons (gName j) gNil)))) tw D σ H :=
  qs_asg (P := fun d σ F σ' => ∃ x y, d = .tuple [x, y] ∧ Pr x y ∧ Nm2 K i j x y σ F σ') (fun d ⟨x, y, hd, hr⟩ => fun F H v σ e rv Q q => by subst hd; exact tg_nm2 F H v σ e rv Q fun σ' hσ => q σ' ⟨x, y, rfl, hr, hσ⟩) e st h hn fun F1 H1 σ' d s st1 _ ⟨x, y, _, hr, v, w, rv, rw, hσ⟩ => by subst hσ; exact k F1 H1 v w x y s st1 hr rv rw
theorem es_tup2 {Pr : PyData → PyData → Prop} {ta : TA} (h : EvSA K p q ta σ F H c (fun ds => ∃ x y, ds = [x, y] ∧ Pr x y)) : EvS K p q (tTup ta) σ F H c (fun d => ∃ x y, d = .tuple [x, y] ∧ Pr x y) :=
  (es_tup h fun ds ⟨x, y, hd, _⟩ => by rw [hd]; simp).weak (Nat.le_refl _) fun d ⟨ds, ⟨x, y, hd, hr⟩, hz⟩ => ⟨x, y, by rw [hz, hd], hr⟩
theorem rep_bool (b : Bool) (n : Nat) : (List.replicate n [PyData.bool b]).flatten = (List.replicate n b).map PyData.bool := by
  induction n with
  | zero => rfl
  | succ n ih => rw [List.replicate_succ, List.flatten_cons, ih, List.replicate_succ]; rfl
/-! ### _law_vfar_sets -/
def Ok59 (p : Bs) : Prop := p.1.length ≤ 59 ∧ p.2.length ≤ 60 ∧ p.2 ≠ []
theorem Ok59.small {p : Bs} (h : Ok59 p) : Small p := ⟨by have := h.1; omega, h.2⟩
def Far (A B : Bs) (num : Option Nat) : Prop := Ok59 A ∧ Ok59 B ∧ IsFirst (fun n => inSet A n && !inSet B n) num
theorem far_first {A B : Bs} {a b m : Nat} (hA : Ok59 A) (hB : Ok59 B) (ea : A.2.length = a) (eb : B.2.length = b) (hm : m = 122 + a * b) : (∀ k, k < m → (inSet A k && !inSet B k) = false) → ∀ k, (inSet A k && !inSet B k) = false := fun h k => by
  have pa := List.length_pos_iff.mpr hA.2.2
  have pb := List.length_pos_iff.mpr hB.2.2
  rcases Nat.lt_or_ge k m with h1 | h1
  · exact h k h1
  · have hab : 0 < a * b := Nat.mul_pos (by omega) (by omega)
    have hd := Nat.mod_add_div (k - 59) (a * b)
    have hmd := Nat.mod_lt (k - 59) hab
    have e1 := inSet_per hA.2.2 (n := 59 + (k - 59) % (a * b)) (by have := hA.1; omega) (b * ((k - 59) / (a * b)))
    have e2 := inSet_per hB.2.2 (n := 59 + (k - 59) % (a * b)) (by have := hB.1; omega) (a * ((k - 59) / (a * b)))
    rw [ea, ← Nat.mul_assoc, show 59 + (k - 59) % (a * b) + a * b * ((k - 59) / (a * b)) = k by omega] at e1
    rw [eb, ← Nat.mul_assoc, Nat.mul_comm b a, show 59 + (k - 59) % (a * b) + a * b * ((k - 59) / (a * b)) = k by omega] at e2
    rw [e1, e2]
    exact h _ (by omega)
def sp_law_vfar_sets (K : PySem.W.Frag) : Sp := fun vs H Q _ => ∃ (p q : Addr) (n : Nat) (F : Hp), vs = [.ref p, .bl false] ∧ Same F H ∧ Stm F H p q n ∧ n + 6 ≤ 1000000000 ∧
  ∀ F' H' v A B num, Sx [p, q] F H F' H' → Stm F' H' p q (n + 6) → Far A B num → Rp K F' v (.tuple [.list [lset A, lset B], optD num]) → Q v H'
theorem len_law_vfar_sets {vs : List V} {Q : VK} {E : XK} (h : sp_law_vfar_sets K vs H Q E) : vs.length = ["stream", "first"].length := by
  obtain ⟨p, q, n, F, rfl, _⟩ := h
  rfl
abbrev N_law_vfar_sets : List Str := ["stream", "first", "sets", "one", "two", "here", "there", "few", "more", "number", "most", "at"]
def t_law_vfar_sets (K : PySem.W.Frag) : TS :=
  (tSeq (tPar 3 4 (tCons (tOp (rAddU K) (tC (.int 1)) (tCall (sp_law_below K) [] E0 (tCons (tVar 0) (tCons (tC (.int 60)) tNil)))) (tCons (tOp (rAddU K) (tC (.int 1)) (tCall (sp_law_below K) [] E0 (tCons (tVar 0) (tCons (tC (.int 60)) tNil)))) tNil)))
  (tSeq (tAsg (tTup (tCons (tCall (sp_law_below K) [] E0 (tCons (tVar 0) (tCons (tVar 3) tNil))) (tCons (tCall (sp_law_below K) [] E0 (tCons (tVar 0) (tCons (tVar 4) tNil))) tNil))) (gTup K 2 (gCons (gName 5) (gCons (gName 6) gNil))))
  (tSeq (tPar 7 8 (tCons (tCall (sp_law_below K) [] E0 (tCons (tVar 0) (tCons (tC (.int 60)) tNil))) (tCons (tCall (sp_law_below K) [] E0 (tCons (tVar 0) (tCons (tC (.int 60)) tNil))) tNil)))
  (tSeq (tAsg (tLst (tCons (tTup (tCons (tOp (rMulU K) (tLst (tCons (tC (.bl false)) tNil)) (tVar 7)) (tCons (tLc (iRng1 (tCons (tVar 3) tNil)) (gName 11) tYes (tOp (rEqD K) (tVar 11) (tVar 5)) [11]) tNil))) (tCons (tTup (tCons (tOp (rMulU K) (tLst (tCons (tC (.bl true)) tNil)) (tVar 8)) (tCons (tLc (iRng1 (tCons (tVar 4) tNil)) (gName 11) tYes (tOp (rNeD K) (tVar 11) (tVar 6)) [11]) tNil))) tNil))) (gName 2))
  (tSeq (tIfS (tAnd (tTru K (tVar 1)) (tTest (tOp rGtI (tVar 7) (tC (.int 0)))))
   (tSeq tNever
    tNever)
   (tIfS (tTru K (tVar 1))
     (tSeq tNever
      tNever)
     tNext))
  (tSeq (tPar 9 10 (tCons (tC (.int 0)) (tCons (tOp (rAddU K) (tC (.int 122)) (tOp (rMulU K) (tVar 3) (tVar 4))) tNil)))
  (tSeq (tWhile (tAnd (tTest (tOp rLtI (tVar 9) (tVar 10))) (tNot (tAnd (tTru K (tCall (sp_law_min K) [] E0 (tCons (tOp (rIx K) (tVar 2) (tC (.int 0))) (tCons (tVar 9) tNil)))) (tNot (tTru K (tCall (sp_law_min K) [] E0 (tCons (tOp (rIx K) (tVar 2) (tC (.int 1))) (tCons (tVar 9) tNil))))))))
   (tAsg (tOp (rAddU K) (tVar 9) (tC (.int 1))) (gName 9)))
  (tRet (tTup (tCons (tVar 2) (tCons (tIf (tTest (tOp rLtI (tVar 9) (tVar 10))) (tVar 9) (tC (.non))) tNil)))))))))))
theorem rd_law_vfar_sets {vs : List V} {Q : VK} {E : XK} (h : sp_law_vfar_sets K vs H Q E) : t_law_vfar_sets K { nx := fun _ H' => Q .non H', rt := Q } (L2.start N_law_vfar_sets vs) H := by
  obtain ⟨p, q, n, F, rfl, e, st, hn, k⟩ := h
  have one : ∀ {F1 H1 : Hp} {σ : L2.St}, σ[0]? = some (some (.ref p)) → EvS K p q (tOp (rAddU K) (tC (.int 1)) (tCall (sp_law_below K) [] E0 (tCons (tVar 0) (tCons (tC (.int 60)) tNil)))) σ F1 H1 1 (fun d => ∃ r : Nat, 1 ≤ r ∧ r ≤ 60 ∧ d = .int (r : Int)) := fun {F1 H1 σ} h0 =>
    (es_op (c := 0) (es_d ev_int) (es_below (m := 60) h0 ev_int (by decide) (by decide)) (by
      rintro _ _ rfl ⟨r, hr, rfl⟩
      exact ⟨_, xAddI, r + 1, by omega, by omega, by rw [Int.natCast_add, Int.add_comm]; rfl⟩)).weak (by omega) fun _ h => h
  refine qs_par (K := K) (Pr := fun x y => ∃ a b : Nat, 1 ≤ a ∧ a ≤ 60 ∧ 1 ≤ b ∧ b ≤ 60 ∧ x = .int (a : Int) ∧ y = .int (b : Int)) e st (by
    refine fun F1 H1 m s st hn Q k => esa2 (one rfl) (one rfl) F1 H1 m s st hn Q fun F2 H2 vs ds s2 st2 ⟨x, y, hd, ⟨a, a1, a2, ha⟩, ⟨b, b1, b2, hb⟩⟩ rs => k F2 H2 vs ds s2 st2 ⟨x, y, hd, a, b, a1, a2, b1, b2, ha, hb⟩ rs) (by omega) fun F1 H1 v1 v2 x y s1 st1 ⟨a, b, a1, a2, b1, b2, hx, hy⟩ r1 r2 => ?_
  subst hx hy
  cases r1.int_of
  cases r2.int_of
  refine qs_asg2 (K := K) (i := 5) (j := 6) (c := 1 + (1 + 0)) (Pr := fun x y => ∃ h t : Nat, h < a ∧ t < b ∧ x = .int (h : Int) ∧ y = .int (t : Int)) s1.fh st1 (es_tup2 (fun F1 H1 m s st hn Q k => esa2 (es_below (m := a) rfl (ev_var rfl (.int (a : Int))) a1 (by omega)) (es_below (m := b) rfl (ev_var rfl (.int (b : Int))) b1 (by omega)) F1 H1 m s st hn Q fun F2 H2 vs ds s2 st2 ⟨x, y, hd, ⟨h, hh, hx⟩, ⟨t, ht, hy⟩⟩ rs => k F2 H2 vs ds s2 st2 ⟨x, y, hd, h, t, hh, ht, hx, hy⟩ rs)) (by omega) fun F2 H2 v1 v2 x y s2 st2 ⟨h, t, hh, ht, hx, hy⟩ r1 r2 => ?_
  subst hx hy
  cases r1.int_of
  cases r2.int_of
  refine qs_par (K := K) (c := 1 + (1 + 0)) (Pr := fun x y => ∃ f m : Nat, f < 60 ∧ m < 60 ∧ x = .int (f : Int) ∧ y = .int (m : Int)) s2.fh st2 (fun F1 H1 m s st hn Q k => esa2 (es_below (m := 60) rfl ev_int (by decide) (by decide)) (es_below (m := 60) rfl ev_int (by decide) (by decide)) F1 H1 m s st hn Q fun F2 H2 vs ds s2 st2 ⟨x, y, hd, ⟨h, hh, hx⟩, ⟨t, ht, hy⟩⟩ rs => k F2 H2 vs ds s2 st2 ⟨x, y, hd, h, t, hh, ht, hx, hy⟩ rs) (by omega) fun F3 H3 v1 v2 x y s3 st3 ⟨few, more, hf, hm, hx, hy⟩ r1 r2 => ?_
  subst hx hy
  cases r1.int_of
  cases r2.int_of
  have s03 := (s1.trans s2).trans s3
  generalize hA : ((List.replicate few false, (List.range a).map fun i : Nat => decide ((i : Int) = (h : Int))) : Bs) = A
  generalize hB : ((List.replicate more true, (List.range b).map fun i : Nat => !decide ((i : Int) = (t : Int))) : Bs) = B
  have hA1 : A.1.length = few := by rw [← hA]; simp
  have hA2 : A.2.length = a := by rw [← hA]; simp
  have hB1 : B.1.length = more := by rw [← hB]; simp
  have hB2 : B.2.length = b := by rw [← hB]; simp
  have oA : Ok59 A := ⟨by omega, by omega, fun z => by rw [z] at hA2; simp at hA2; omega⟩
  have oB : Ok59 B := ⟨by omega, by omega, fun z => by rw [z] at hB2; simp at hB2; omega⟩
  refine q_set (K := K) (M := []) (d := .list [lset A, lset B]) s3.fh (ev_lst (ea_cons (ev_tup (ea_cons (EvD.is (ev_op (ev_lst (ea_cons ev_bl ea_nil) (by decide)) (ev_var rfl (.int (few : Int))) (xMulL (by omega) (by simp; omega))) ?_) (ea_cons (EvD.is (EvN.ev (en_lcR1 a (fun i : Nat => .bool (decide ((i : Int) = (h : Int)))) (fun _ => true) (j := 11) (m := (a : Int)) (ea_cons (ev_var rfl (.int (a : Int))) ea_nil) rfl (by omega) rfl (fun _ => rfl) (fun _ _ _ _ _ => et_yes) (fun i _ _ F4 H4 s4 => ev_op (ev_var rfl (.int (i : Int))) (ev_var rfl (.int (h : Int))) xEqI))) ?_) ea_nil)) (by simp)) (ea_cons (ev_tup (ea_cons (EvD.is (ev_op (ev_lst (ea_cons ev_bl ea_nil) (by decide)) (ev_var rfl (.int (more : Int))) (xMulL (by omega) (by simp; omega))) ?_) (ea_cons (EvD.is (EvN.ev (en_lcR1 b (fun i : Nat => .bool (!decide ((i : Int) = (t : Int)))) (fun _ => true) (j := 11) (m := (b : Int)) (ea_cons (ev_var rfl (.int (b : Int))) ea_nil) rfl (by omega) rfl (fun _ => rfl) (fun _ _ _ _ _ => et_yes) (fun i _ _ F4 H4 s4 => ev_op (ev_var rfl (.int (i : Int))) (ev_var rfl (.int (t : Int))) xNeI))) ?_) ea_nil)) (by simp)) ea_nil)) (by simp)) fun F4 H4 vs s4 rsets => ?_
  · rw [Int.toNat_natCast, rep_bool, ← hA]
  · rw [filter_yes, ← hA]; exact congrArg PyData.list List.map_map.symm
  · rw [Int.toNat_natCast, rep_bool, ← hB]
  · rw [filter_yes, ← hB]; exact congrArg PyData.list List.map_map.symm
  have st4 := st3.pure s4
  refine q_if (K := K) (M := []) (b := false && true) s4.fh (et_and (xTru (d := .bool false) (ev_var rfl (.bl false)) rfl) (fun z => absurd z (by decide))) (fun z => absurd z (by decide)) fun _ F5 H5 s5 => ?_
  refine st_if (K := K) (M := []) (b := false) s5.fh (xTru (d := .bool false) (ev_var rfl (.bl false)) rfl) (fun z => absurd z (by decide)) fun _ F6 H6 s6 => ?_
  have hab : a * b ≤ 60 * 60 := Nat.mul_le_mul a2 b2
  refine q_par (K := K) (M := []) (d := .int 0) (e := .int (122 + (a : Int) * (b : Int))) s6.fh (ea_cons ev_int (ea_cons (ev_op ev_int (ev_op (ev_var rfl (.int (a : Int))) (ev_var rfl (.int (b : Int))) (xMulI (.inl ⟨by omega, by omega⟩))) xAddI) ea_nil)) fun F7 H7 v9 v10 s7 r9 r10 => ?_
  cases r9.int_of
  cases r10.int_of
  have em : 122 + (a : Int) * (b : Int) = ((122 + a * b : Nat) : Int) := by rw [Int.natCast_add, Int.natCast_mul]; rfl
  rw [em]
  generalize hmost : 122 + a * b = most
  have st7 := ((st4.pure s5).pure s6).pure s7
  have s07 := (((s03.trans s4.up).trans s5.up).trans s6.up).trans s7.up
  have rsets7 := ((rsets.mono s5.ff).mono s6.ff).mono s7.ff
  refine q_while (K := K) (M := []) (fun m σ' F' H' => ∃ k : Nat, k ≤ most ∧ m = most - k ∧ (∀ j, j < k → (inSet A j && !inSet B j) = false) ∧ Rp K F' vs (.list [lset A, lset B]) ∧ σ' = [some (.ref p), some (.bl false), some vs, some (.int (a : Int)), some (.int (b : Int)), some (.int (h : Int)), some (.int (t : Int)), some (.int (few : Int)), some (.int (more : Int)), some (.int (k : Int)), some (.int (most : Int)), none]) s7.fh most ⟨0, by omega, rfl, fun j hj => by omega, rsets7, rfl⟩ ?_
  rintro m σ' F' H' s' ⟨k', k1, rfl, kall, hsets, rfl⟩
  have st' := st7.pure s'
  have i0 : ∀ {M : List Addr} {F1 H1 : Hp}, Rp K F1 vs (.list [lset A, lset B]) → EvD K M (tCall (sp_law_min K) [] E0 (tCons (tOp (rIx K) (tVar 2) (tC (.int 0))) (tCons (tVar 9) tNil))) [some (.ref p), some (.bl false), some vs, some (.int (a : Int)), some (.int (b : Int)), some (.int (h : Int)), some (.int (t : Int)), some (.int (few : Int)), some (.int (more : Int)), some (.int (k' : Int)), some (.int (most : Int)), none] F1 H1 (.bool (inSet A k')) := fun {M F1 H1} hr =>
    ev_law_min (ea_cons (ev_op (ev_var rfl hr) ev_int (rv_ixl rfl)) (ea_cons (ev_var rfl (.int (k' : Int))) ea_nil)) oA.2.2
  have i1 : ∀ {M : List Addr} {F1 H1 : Hp}, Rp K F1 vs (.list [lset A, lset B]) → EvD K M (tCall (sp_law_min K) [] E0 (tCons (tOp (rIx K) (tVar 2) (tC (.int 1))) (tCons (tVar 9) tNil))) [some (.ref p), some (.bl false), some vs, some (.int (a : Int)), some (.int (b : Int)), some (.int (h : Int)), some (.int (t : Int)), some (.int (few : Int)), some (.int (more : Int)), some (.int (k' : Int)), some (.int (most : Int)), none] F1 H1 (.bool (inSet B k')) := fun {M F1 H1} hr =>
    ev_law_min (ea_cons (ev_op (ev_var rfl hr) ev_int (rv_ixl rfl)) (ea_cons (ev_var rfl (.int (k' : Int))) ea_nil)) oB.2.2
  refine ⟨decide ((k' : Int) < (most : Int)) && !(inSet A k' && !inSet B k'), [], et_and (et_test (ev_op (ev_var rfl (.int (k' : Int))) (ev_var rfl (.int (most : Int))) xLt)) (fun _ => et_not (et_and (xTru (i0 hsets) rfl) fun _ => et_not (xTru (i1 hsets) rfl))), fun hb F8 H8 s8 => ?_, fun hb F8 H8 s8 => ?_⟩
  · simp only [Bool.and_eq_true, decide_eq_true_eq, Bool.not_eq_true'] at hb
    refine st_set (K := K) (M := []) (d := .int ((k' : Int) + 1)) s8.fh (ev_op (ev_var rfl (.int (k' : Int))) ev_int xAddI) fun F9 H9 v s9 rv => ?_
    cases rv.int_of
    refine ⟨most - (k' + 1), by omega, F9, (s'.trans s8).trans s9, k' + 1, by omega, rfl, fun j hj => ?_, (hsets.mono s8.ff).mono s9.ff, by rw [Int.natCast_add]; rfl⟩
    rcases Nat.lt_or_eq_of_le (Nat.le_of_lt_succ hj) with h1 | h1
    · exact kall j h1
    · rw [h1]; exact hb.2
  · have hfar : IsFirst (fun n => inSet A n && !inSet B n) (if k' < most then some k' else none) := by
      by_cases hk : k' < most
      · rw [if_pos hk]
        refine ⟨?_, kall⟩
        rw [decide_eq_true (by omega), Bool.true_and] at hb
        simpa using hb
      · rw [if_neg hk]
        exact far_first oA oB hA2 hB2 hmost.symm fun j hj => kall j (by omega)
    refine st_ret (K := K) (M := []) (d := .tuple [.list [lset A, lset B], optD (if k' < most then some k' else none)]) s8.fh (ev_tup (ea_cons (ev_var rfl (hsets.mono s8.ff)) (ea_cons (ev_if (b := decide ((k' : Int) < (most : Int))) (et_test (ev_op (ev_var rfl (.int (k' : Int))) (ev_var rfl (.int (most : Int))) xLt)) (fun hh => by
      have hk : k' < most := by simpa using hh
      rw [if_pos hk]; exact ev_var rfl (.int (k' : Int))) (fun hh => by
      have hk : ¬ k' < most := by simpa using hh
      rw [if_neg hk]; exact ev_non)) ea_nil)) (by simp)) fun F9 H9 w s9 rw => k F9 H9 w A B _ (((s07.trans s'.up).trans s8.up).trans s9.up) (((st'.pure s8).pure s9).le (by omega)) ⟨oA, oB, hfar⟩ rw
end
end Sf

namespace Sf
open PySem L2 RZ
/-! evaluation, construct by construct -/
local macro_rules | `(tactic| walk_at "rp") => `(tactic| first | assumption | exact .int _ | exact .bl _ | exact .str _ | exact .non | exact Rp.mono (Sx.ff (by assumption)) (by walk_at "rp"))
local macro_rules | `(tactic| walk_at "sc") => `(tactic| first | rfl | assumption | omega | decide | (simp; done) | (simp; omega))
local macro_rules | `(tactic| walk_at "ix") => `(tactic| first | rfl | assumption)
local macro_rules | `(tactic| walk_at "rv") => `(tactic| first
  | exact xAddI | exact xSub | exact xLt | exact xLe | exact xGt | exact xGe | exact xIsN | exact xNotN | exact xEqI | exact xNeI | exact xEqB | exact xNeB | exact xEqLB | exact xEqTB | exact xNeTB
  | exact xMod (by walk_at "sc")
  | exact xDiv (by walk_at "sc")
  | exact xPow (by walk_at "sc")
  | exact xMulI (by walk_at "sc")
  | exact rv_ixt (by walk_at "ix")
  | exact rv_ixl (by walk_at "ix")
  | exact xAddL (by walk_at "sc")
  | exact xAddT (by walk_at "sc"))
local macro_rules | `(tactic| walk_at "rc") => `(tactic| first | exact xLenL | exact xLenT | exact xListL | exact xListT | exact xTupL | exact xTupT | exact xMax2 | exact xInt | exact rc_all | exact rc_any)
local macro_rules | `(tactic| walk_at "ea") => `(tactic| first | exact ea_nil | refine ea_cons (by walk_at "ev") (by walk_at "ea"))
local macro_rules | `(tactic| walk_at "eo") => `(tactic| first | exact eo_none | refine eo_some (by walk_at "ev"))
local macro_rules | `(tactic| walk_at "et") => `(tactic| first
  | ((with_reducible show EvT _ _ (tTest _) _ _ _ _); exact et_test (by walk_at "ev"))
  | ((with_reducible show EvT _ _ (tNot _) _ _ _ _); exact et_not (by walk_at "et"))
  | ((with_reducible show EvT _ _ (tAnd _ _) _ _ _ _); exact et_and (by walk_at "et") (fun hh => by walk_at "et"))
  | ((with_reducible show EvT _ _ (tOr _ _) _ _ _ _); exact et_or (by walk_at "et") (fun hh => by walk_at "et"))
  | ((with_reducible show EvT _ _ (tTru _ _) _ _ _ _); exact xTru (by walk_at "ev") (by walk_at "sc"))
  | ((with_reducible show EvT _ _ tYes _ _ _ _); exact et_yes))
local macro_rules | `(tactic| walk_at "ev") => `(tactic| first
  | ((with_reducible show EvD _ _ (tC _) _ _ _ _); first | exact ev_int | exact ev_bl | exact ev_str | exact ev_non)
  | ((with_reducible show EvD _ _ (tVar _) _ _ _ _); exact ev_var (by rfl) (by walk_at "rp"))
  | ((with_reducible show EvD _ _ (tOp _ _ _) _ _ _ _); exact ev_op (by walk_at "ev") (by walk_at "ev") (by walk_at "rv"))
  | ((with_reducible show EvD _ _ (tUn _ _) _ _ _ _); exact ev_un (by walk_at "ev") xNeg)
  | ((with_reducible show EvD _ _ (tCB _ _) _ _ _ _); exact ev_cb (by walk_at "ea") (by walk_at "rc"))
  | ((with_reducible show EvD _ _ (tTup _) _ _ _ _); exact ev_tup (by walk_at "ea") (by walk_at "sc"))
  | ((with_reducible show EvD _ _ (tLst _) _ _ _ _); exact ev_lst (by walk_at "ea") (by walk_at "sc"))
  | ((with_reducible show EvD _ _ (tSl _ _ _ _) _ _ _ _); first | exact xSlL (by walk_at "ev") (by walk_at "eo") (by walk_at "eo") | exact xSlT (by walk_at "ev") (by walk_at "eo") (by walk_at "eo"))
  | ((with_reducible show EvD _ _ (tNotT _ _) _ _ _ _); exact ev_notT (by walk_at "ev") (by walk_at "sc"))
  | ((with_reducible show EvD _ _ (tAndT _ _ _) _ _ _ _); exact ev_andB (by walk_at "ev") (fun hh => by walk_at "ev"))
  | ((with_reducible show EvD _ _ (tOrT _ _ _) _ _ _ _); exact ev_orB (by walk_at "ev") (fun hh => by walk_at "ev")))

local macro_rules | `(tactic| walk_at "ev") => `(tactic| ((with_reducible show EvD _ _ (tCall (sp_is_row _) _ _ _) _ _ _ _); exact ev_is_row (by walk_at "ea")))
local macro_rules | `(tactic| walk_at "ev") => `(tactic| ((with_reducible show EvD _ _ (tCall (sp_is_number _) _ _ _) _ _ _ _); exact ev_is_number (by walk_at "ea")))
local macro_rules | `(tactic| walk_at "ev") => `(tactic| ((with_reducible show EvD _ _ (tCall (sp_is_truths _) _ _ _) _ _ _ _); exact ev_is_truths (by walk_at "ea") (by walk_at "sc")))
local macro_rules | `(tactic| walk_at "ev") => `(tactic| ((with_reducible show EvD _ _ (tCall (sp_round_size _) _ _ _) _ _ _ _); exact ev_round_size (by walk_at "ea") (by walk_at "sc")))
local macro_rules | `(tactic| walk_at "ev") => `(tactic| ((with_reducible show EvD _ _ (tCall (sp_in_set _) _ _ _) _ _ _ _); exact ev_in_set (by walk_at "ea") (by walk_at "sc")))
local macro_rules | `(tactic| walk_at "ev") => `(tactic| ((with_reducible show EvD _ _ (tCall (sp_common_round _) _ _ _) _ _ _ _); exact ev_common_round (by walk_at "ea") (by walk_at "sc")))
local macro_rules | `(tactic| walk_at "ev") => `(tactic| ((with_reducible show EvD _ _ (tCall (sp_least_of _) _ _ _) _ _ _ _); exact ev_least_of (by walk_at "ea") (by walk_at "sc")))
local macro_rules | `(tactic| walk_at "ev") => `(tactic| ((with_reducible show EvD _ _ (tCall (sp_set_in _) _ _ _) _ _ _ _); exact ev_set_in (by walk_at "ea") (by walk_at "sc")))
local macro_rules | `(tactic| walk_at "ev") => `(tactic| ((with_reducible show EvD _ _ (tCall (sp_need_set _) _ _ _) _ _ _ _); exact ev_need_set (by walk_at "ea") (by walk_at "sc")))
local macro_rules | `(tactic| walk_at "ev") => `(tactic| ((with_reducible show EvD _ _ (tCall (sp_need_sets _) _ _ _) _ _ _ _); exact ev_need_sets (by walk_at "ea") (by walk_at "sc")))
local macro_rules | `(tactic| walk_at "ev") => `(tactic| ((with_reducible show EvD _ _ (tCall (sp_told_set _) _ _ _) _ _ _ _); exact ev_told_set (by walk_at "ea") (by walk_at "sc")))
local macro_rules | `(tactic| walk_at "ev") => `(tactic| ((with_reducible show EvD _ _ (tCall (sp_set_by _) _ _ _) _ _ _ _); exact ev_set_by (by walk_at "ea") (by walk_at "sc")))
local macro_rules | `(tactic| walk_at "ev") => `(tactic| ((with_reducible show EvD _ _ (tCall (sp_first_of _) _ _ _) _ _ _ _); exact ev_first_of (by walk_at "ea") (by walk_at "sc")))
local macro_rules | `(tactic| walk_at "ev") => `(tactic| ((with_reducible show EvD _ _ (tCall (sp_has_number _) _ _ _) _ _ _ _); exact ev_has_number (by walk_at "ea") (by walk_at "sc")))
local macro_rules | `(tactic| walk_at "ev") => `(tactic| ((with_reducible show EvD _ _ (tCall (sp_numbers_below _) _ _ _) _ _ _ _); exact ev_numbers_below (by walk_at "ea") (by walk_at "sc")))
local macro_rules | `(tactic| walk_at "ev") => `(tactic| ((with_reducible show EvD _ _ (tCall (sp_is_within _) _ _ _) _ _ _ _); exact ev_is_within (by walk_at "ea") (by walk_at "sc")))
local macro_rules | `(tactic| walk_at "ev") => `(tactic| ((with_reducible show EvD _ _ (tCall (sp_first_number _) _ _ _) _ _ _ _); exact ev_first_number (by walk_at "ea") (by walk_at "sc")))
local macro_rules | `(tactic| walk_at "ev") => `(tactic| ((with_reducible show EvD _ _ (tCall (sp_first_apart _) _ _ _) _ _ _ _); exact ev_first_apart (by walk_at "ea") (by walk_at "sc")))
local macro_rules | `(tactic| walk_at "ev") => `(tactic| ((with_reducible show EvD _ _ (tCall (sp_need_by _) _ _ _) _ _ _ _); exact ev_need_by (by walk_at "ea") (by walk_at "sc")))
local macro_rules | `(tactic| walk_at "ev") => `(tactic| ((with_reducible show EvD _ _ (tCall (sp_up_by _) _ _ _) _ _ _ _); exact ev_up_by (by walk_at "ea") (by walk_at "sc")))
local macro_rules | `(tactic| walk_at "ev") => `(tactic| ((with_reducible show EvD _ _ (tCall (sp_down_by _) _ _ _) _ _ _ _); exact ev_down_by (by walk_at "ea") (by walk_at "sc")))
local macro_rules | `(tactic| walk_at "ev") => `(tactic| ((with_reducible show EvD _ _ (tCall (sp_shifted_up _) _ _ _) _ _ _ _); exact ev_shifted_up (by walk_at "ea") (by walk_at "sc")))
local macro_rules | `(tactic| walk_at "ev") => `(tactic| ((with_reducible show EvD _ _ (tCall (sp_shifted_down _) _ _ _) _ _ _ _); exact ev_shifted_down (by walk_at "ea") (by walk_at "sc")))
local macro_rules | `(tactic| walk_at "ev") => `(tactic| ((with_reducible show EvD _ _ (tCall (sp_law_min _) _ _ _) _ _ _ _); exact ev_law_min (by walk_at "ea") (by walk_at "sc")))
local macro_rules | `(tactic| walk_at "ev") => `(tactic| ((with_reducible show EvD _ _ (tCall (sp_law_mleast_set _) _ _ _) _ _ _ _); exact ev_law_mleast_set (by walk_at "ea") (by walk_at "sc")))
/-! ### told loosely -/
theorem loose_bool {b : Bool} {d : PyData} (h : Loose (.bool b) d) : d = .bool b := by
  cases h with
  | atom => rfl
  | row hd => rcases hd with h | h <;> cases h
theorem loose_lB {bs : List Bool} {d : PyData} (h : Loose (lB bs) d) : RowB d bs := by
  cases h with
  | atom h => exact absurd rfl (h.1 _)
  | @row ds es _ _ hd he hl h =>
    have e1 : ds = bs.map .bool := by
      rcases hd with z | z
      · cases z; rfl
      · cases z
    subst e1
    have e2 : es = bs.map .bool := by
      apply List.ext_getElem?
      intro i
      rcases Nat.lt_or_ge i es.length with h1 | h1
      · have h2 : i < bs.length := by rw [← hl, List.length_map] at h1; exact h1
        have h3 : (bs.map PyData.bool)[i]? = some (.bool bs[i]) := by rw [List.getElem?_map, List.getElem?_eq_getElem h2]; rfl
        rw [h3, List.getElem?_eq_getElem h1, loose_bool (h i _ _ h3 (List.getElem?_eq_getElem h1))]
      · rw [List.getElem?_eq_none h1, List.getElem?_eq_none (by rw [hl]; exact h1)]
    rcases he with z | z
    · rw [z, e2]; exact .inl rfl
    · rw [z, e2]; exact .inr rfl
theorem loose_set {p : Bs} {d : PyData} (h : Loose (lset p) d) : SetD d p := by
  cases h with
  | atom h => exact absurd rfl (h.2 _)
  | @row ds es _ _ hd he hl h =>
    have e1 : ds = [lB p.1, lB p.2] := by
      rcases hd with z | z
      · cases z
      · cases z; rfl
    subst e1
    match es, hl with
    | [f, r], _ => exact ⟨f, r, he, loose_lB (h 0 _ _ rfl rfl), loose_lB (h 1 _ _ rfl rfl)⟩
theorem mxc_bools : ∀ bs : List Bool, mxc (bs.map .bool) = 0
  | [] => rfl
  | b :: bs => by show max (cst (.bool b)) (mxc (bs.map .bool)) = 0; rw [mxc_bools bs]; simp [cst]
theorem cst_lset (p : Bs) : cst (lset p) = 3 := by
  rw [cst, mxc, mxc, mxc, cst, cst, mxc_bools, mxc_bools]
  simp
theorem pl_lB {n : Nat} {bs : List Bool} (h : bs.length ≤ 1000000) : Pl (n + 1) (lB bs) := .list Pl.bools (by simpa using h)
theorem pl_lset {n : Nat} {p : Bs} (h1 : p.1.length ≤ 1000000) (h2 : p.2.length ≤ 1000000) : Pl (n + 2) (lset p) := .tuple (Pl.cons (pl_lB h1) (Pl.one (pl_lB h2))) (by simp)
theorem pl_two {n : Nat} {p q : Bs} (hp : Small p) (hq : Small q) : Pl (n + 3) (.list [lset p, lset q]) := .list (Pl.cons (pl_lset (by have := hp.1; omega) (by have := hp.2.1; omega)) (Pl.one (pl_lset (by have := hq.1; omega) (by have := hq.2.1; omega)))) (by simp)
theorem pl_optD {n : Nat} : ∀ o : Option Nat, Pl n (optD o)
  | none => .non
  | some _ => .int
/-! ### what the program tells is what the law asks -/
theorem far_ne {A B : Bs} {num : Option Nat} (h : Far A B num) : A.2 ≠ [] ∧ B.2 ≠ [] := ⟨h.1.2.2, h.2.1.2.2⟩
theorem within_eq {A B : Bs} {num : Option Nat} (hA : A.2 ≠ []) (hB : B.2 ≠ []) (h : IsFirst (fun n => inSet A n && !inSet B n) num) : firstOf (setBy (leastOf A.1 A.2) (leastOf B.1 B.2) [(true, false)]) = num := by
  have nA := (least_len A.1 A.2).2.2 hA
  have nB := (least_len B.1 B.2).2.2 hB
  have := firstOf_is (setBy_ne nA nB [(true, false)])
  rw [show inSet (setBy (leastOf A.1 A.2) (leastOf B.1 B.2) [(true, false)]) = fun n => inSet A n && !inSet B n from funext fun n => by
    rw [inSet_setBy nA nB, inSet_least hA, inSet_least hB]
    show byTs [(true, false)] (inSet A n) (inSet B n) = _
    unfold byTs
    cases inSet A n <;> cases inSet B n <;> rfl] at this
  exact this.one h
theorem apart_eq {A B : Bs} (hA : Ok59 A) (hB : Ok59 B) : firstOf (setBy (leastOf A.1 A.2) (leastOf B.1 B.2) [(true, false), (false, true)]) = ((List.range 181).filter fun n => !decide (inSet A n = inSet B n)).head? := by
  have nA := (least_len A.1 A.2).2.2 hA.2.2
  have nB := (least_len B.1 B.2).2.2 hB.2.2
  have := firstOf_is (setBy_ne nA nB [(true, false), (false, true)])
  rw [show inSet (setBy (leastOf A.1 A.2) (leastOf B.1 B.2) [(true, false), (false, true)]) = fun n => !decide (inSet A n = inSet B n) from funext fun n => by
    rw [inSet_setBy nA nB, inSet_least hA.2.2, inSet_least hB.2.2]
    show byTs [(true, false), (false, true)] (inSet A n) (inSet B n) = _
    unfold byTs
    cases inSet A n <;> cases inSet B n <;> rfl] at this
  refine this.one (range_isFirst fun hk k => ?_)
  have := sets_agree hA.2.2 hB.2.2 (m := 181) (by have := hA.1; have := hA.2.1; have := hB.1; have := hB.2.1; omega) (fun n hn => by simpa using hk n hn) k
  simp [this]
theorem apart_sym (A B : Bs) : ((List.range 181).filter fun n => !decide (inSet B n = inSet A n)) = ((List.range 181).filter fun n => !decide (inSet A n = inSet B n)) := by
  congr 1
  funext n
  cases inSet A n <;> cases inSet B n <;> rfl
theorem first_eq {A : Bs} (hA : Ok59 A) : firstOf (leastOf A.1 A.2) = ((List.range 121).filter (inSet A)).head? := by
  have nA := (least_len A.1 A.2).2.2 hA.2.2
  have := firstOf_is nA
  rw [show inSet (leastOf A.1 A.2) = inSet A from funext fun n => inSet_least hA.2.2 n] at this
  refine this.one (range_isFirst fun hk k => ?_)
  rcases Nat.lt_or_ge k 121 with h | h
  · exact hk k h
  · have hp := List.length_pos_iff.mpr hA.2.2
    have hd := Nat.mod_add_div (k - 59) A.2.length
    have hm := Nat.mod_lt (k - 59) hp
    have e := inSet_per hA.2.2 (n := 59 + (k - 59) % A.2.length) (by have := hA.1; omega) ((k - 59) / A.2.length)
    rw [show 59 + (k - 59) % A.2.length + A.2.length * ((k - 59) / A.2.length) = k by omega] at e
    rw [e]
    exact hk _ (by have := hA.2.1; omega)
theorem zero_first : firstOf (leastOf (List.replicate 60 false) (List.replicate 60 false)) = none := by decide +kernel
theorem up_within {A B : Bs} {num : Option Nat} (hA : A.2 ≠ []) (hB : B.2 ≠ []) (h : IsFirst (fun n => inSet A n && !inSet B n) num) (k : Nat) :
    (firstOf (setBy (leastOf (upBy (leastOf A.1 A.2) k).1 (upBy (leastOf A.1 A.2) k).2) (leastOf (upBy (leastOf B.1 B.2) k).1 (upBy (leastOf B.1 B.2) k).2) [(true, false)])).isNone = num.isNone := by
  have nA := (least_len A.1 A.2).2.2 hA
  have nB := (least_len B.1 B.2).2.2 hB
  have hs : IsFirst (fun n => inSet (upBy (leastOf A.1 A.2) k) n && !inSet (upBy (leastOf B.1 B.2) k) n) (num.map (· + k)) := by
    cases num with
    | none =>
      intro n
      show (inSet (upBy (leastOf A.1 A.2) k) n && !inSet (upBy (leastOf B.1 B.2) k) n) = false
      rw [inSet_up nA, inSet_up nB]
      split
      · rfl
      · rw [inSet_least hA, inSet_least hB]; exact h _
    | some m =>
      constructor
      · show (inSet (upBy (leastOf A.1 A.2) k) (m + k) && !inSet (upBy (leastOf B.1 B.2) k) (m + k)) = true
        rw [inSet_up nA, inSet_up nB, if_neg (by omega), if_neg (by omega), Nat.add_sub_cancel, inSet_least hA, inSet_least hB]
        exact h.1
      · intro j hj
        show (inSet (upBy (leastOf A.1 A.2) k) j && !inSet (upBy (leastOf B.1 B.2) k) j) = false
        rw [inSet_up nA, inSet_up nB]
        split
        · rfl
        · rw [inSet_least hA, inSet_least hB]
          exact h.2 _ (by have : j < m + k := hj; omega)
  rw [within_eq (up_ne nA k) (up_ne nB k) hs]
  cases num <;> rfl
theorem isNon_optD (o : Option Nat) : isNon (optD o) = o.isNone := by cases o <;> rfl
section
variable {K : PySem.W.Frag} {F H F' H' F1 H1 F2 H2 : Hp} {M : List Addr} {σ : L2.St} {te ta tb tc tl : TE} {tt tu : TT} {d x y z : PyData} {D : Ends} {tw tz : TS} {p q : Addr} {c c' : Nat} {Px Py : PyData → Prop}
theorem et_nsame {E : XK} (ha : EvD K M ta σ F H d) (hb : EvD K M tb σ F H d) (h : Pl 8 d) : EvT K M (tNot (tTru K (tCall (sp_law_same K) [] E (tCons ta (tCons tb tNil))))) σ F H false := et_not (a := true) (xTru (ev_same ha hb h) rfl)
/-- xs[0] if xs != [] else None -/
theorem ev_head {i : Nat} {v : V} {xs : List Nat} (h : σ[i]? = some (some v)) (hv : Rp K F v (.list (xs.map fun n : Nat => PyData.int (n : Int)))) : EvD K M (tIf (tTest (tOp (rNeD K) (tVar i) (tLst tNil))) (tOp (rIx K) (tVar i) (tC (.int 0))) (tC (.non))) σ F H (optD xs.head?) := by
  have hsh : SeqAt.shaped (.list (xs.map fun n : Nat => PyData.int (n : Int))) = true := (Lay.list (n := 0) fun d hd => by obtain ⟨b, _, rfl⟩ := List.mem_map.mp hd; exact .int).shaped (by decide)
  cases xs with
  | nil => exact ev_if (b := false) (et_test (ev_op (ev_var h hv) (ev_lst ea_nil (by decide)) (xNeNil hsh))) (fun z => absurd z (by decide)) fun _ => ev_non
  | cons a b => exact ev_if (b := true) (et_test (ev_op (ev_var h hv) (ev_lst ea_nil (by decide)) (xNeNil hsh))) (fun _ => ev_op (ev_var h hv) ev_int (rv_ixl (atI_at (f := fun n : Nat => PyData.int (n : Int)) (xs := a :: b) (n := 0) rfl))) fun z => absurd z (by decide)
def Sh (va vp : V) (σ : L2.St) : Prop := ∃ w2 w3 w4 w5 w6 w7 w8 w9 w10 w11 w12 w13 w14 w15 w16 w17 w18 w19 : Option V, σ = [some va, some vp, w2, w3, w4, w5, w6, w7, w8, w9, w10, w11, w12, w13, w14, w15, w16, w17, w18, w19]
def gV_is_within_other_numbers : List V → List V → List V := fun us zs => match us, zs with
  | [], [o, n] => [n, o]
  | us, zs => us ++ zs
def t_law_last (K : PySem.W.Frag) : TS :=
  (tIfS (tTest (tOp rLtI (tCB (rMax K) (tCons (tLc (iSeq K (tVar 7)) (gTup K 2 (gCons (gName 18) (gCons (gName 19) gNil))) tYes (tCB (rLen K) (tCons (tVar 18) tNil)) [18, 19]) tNil)) (tC (.int 61))))
     (tSeq (tAsg (tLst (tCons (tCall (sp_shifted_up K) [] E0 (tCons (tVar 10) (tCons (tVar 14) tNil))) (tCons (tCall (sp_shifted_up K) [] E0 (tCons (tVar 11) (tCons (tVar 14) tNil))) tNil))) (gName 16))
      (tSeq (tIfS (tOr (tNot (tTru K (tCall (sp_law_same K) [] E0 (tCons (tVar 16) (tCons (tVar 7) tNil))))) (tNot (tTru K (tCall (sp_law_same K) [] E0 (tCons (tCall (sp_is_within K) [] E0 (tCons (tOp (rIx K) (tVar 16) (tC (.int 0))) (tCons (tOp (rIx K) (tVar 16) (tC (.int 1))) tNil))) (tCons (tOp rIsN (tVar 9) (tC (.non))) tNil))))))
       (tRet (tC (.bl false)))
       tNext)
      (tIfS (tNot (tTru K (tCall (sp_law_same K) [] E0 (tCons (tLst (tCons (tCall (sp_shifted_down K) [] E0 (tCons (tOp (rIx K) (tVar 16) (tC (.int 0))) (tCons (tVar 14) tNil))) (tCons (tCall (sp_shifted_down K) [] E0 (tCons (tOp (rIx K) (tVar 16) (tC (.int 1))) (tCons (tVar 14) tNil))) tNil))) (tCons (tVar 15) tNil)))))
       (tRet (tC (.bl false)))
       tNext)))
     tNext)
def t_law_rest (K : PySem.W.Frag) : TS :=
  (tSeq (tPar 10 11 (tCons (tCall (sp_law_loose K) [] E0 (tCons (tVar 1) (tCons (tOp (rIx K) (tVar 8) (tC (.int 0))) tNil))) (tCons (tCall (sp_law_loose K) [] E0 (tCons (tVar 1) (tCons (tOp (rIx K) (tVar 8) (tC (.int 1))) tNil))) tNil)))
    (tSeq (tAsg (tLc (iRng1 (tCons (tC (.int 181)) tNil)) (gName 17) (tTest (tOp (rNeD K) (tCall (sp_law_min K) [] E0 (tCons (tOp (rIx K) (tVar 8) (tC (.int 0))) (tCons (tVar 17) tNil))) (tCall (sp_law_min K) [] E0 (tCons (tOp (rIx K) (tVar 8) (tC (.int 1))) (tCons (tVar 17) tNil))))) (tVar 17) [17]) (gName 3))
    (tSeq (tAsg (tLst (tCons (tCall (sp_is_within K) [] E0 (tCons (tVar 10) (tCons (tVar 11) tNil))) (tCons (tCallK0 (sp_is_within K) gV_is_within_other_numbers E0 (tCons (tVar 11) (tCons (tVar 10) tNil))) (tCons (tCall (sp_first_apart K) [] E0 (tCons (tVar 10) (tCons (tVar 11) tNil))) (tCons (tCall (sp_first_apart K) [] E0 (tCons (tVar 11) (tCons (tVar 10) tNil))) tNil))))) (gName 4))
    (tSeq (tIfS (tNot (tTru K (tCall (sp_law_same K) [] E0 (tCons (tVar 4) (tCons (tOp (rAddU K) (tOp (rMulU K) (tLst (tCons (tOp rIsN (tVar 9) (tC (.non))) tNil)) (tC (.int 2))) (tOp (rMulU K) (tLst (tCons (tIf (tTest (tOp (rNeD K) (tVar 3) (tLst tNil))) (tOp (rIx K) (tVar 3) (tC (.int 0))) (tC (.non))) tNil)) (tC (.int 2)))) tNil)))))
     (tRet (tC (.bl false)))
     tNext)
    (tSeq (tPar 12 13 (tCons (tLc (iRng1 (tCons (tC (.int 200)) tNil)) (gName 17) (tTru K (tCall (sp_law_min K) [] E0 (tCons (tOp (rIx K) (tVar 8) (tC (.int 0))) (tCons (tVar 17) tNil)))) (tVar 17) [17]) (tCons (tLc (iRng1 (tCons (tC (.int 121)) tNil)) (gName 17) (tTru K (tCall (sp_law_min K) [] E0 (tCons (tOp (rIx K) (tVar 8) (tC (.int 0))) (tCons (tVar 17) tNil)))) (tVar 17) [17]) tNil)))
    (tSeq (tIfS (tNot (tTru K (tCall (sp_law_same K) [] E0 (tCons (tLst (tCons (tCall (sp_numbers_below K) [] E0 (tCons (tVar 10) (tCons (tC (.int 200)) tNil))) (tCons (tCall (sp_first_number K) [] E0 (tCons (tVar 10) tNil)) (tCons (tCall (sp_first_number K) [] E0 (tCons (tTup (tCons (tOp (rMulU K) (tLst (tCons (tC (.bl false)) tNil)) (tC (.int 60))) (tCons (tOp (rMulU K) (tLst (tCons (tC (.bl false)) tNil)) (tC (.int 60))) tNil))) tNil)) tNil)))) (tCons (tLst (tCons (tVar 12) (tCons (tIf (tTest (tOp (rNeD K) (tVar 13) (tLst tNil))) (tOp (rIx K) (tVar 13) (tC (.int 0))) (tC (.non))) (tCons (tC (.non)) tNil)))) tNil)))))
     (tRet (tC (.bl false)))
     tNext)
    (tSeq (tFor (iSeq K (tTup (tCons (tOp rPowI (tC (.int 10)) (tC (.int 18))) (tCons (tOp rSubI (tOp rSubI (tOp rPowI (tC (.int 10)) (tC (.int 18))) (tC (.int 1))) (tCall (sp_law_below K) [] E0 (tCons (tVar 1) (tCons (tOp rPowI (tC (.int 10)) (tC (.int 9))) tNil)))) (tCons (tOp (rAddU K) (tC (.int 61)) (tCall (sp_law_below K) [] E0 (tCons (tVar 1) (tCons (tOp rPowI (tC (.int 10)) (tC (.int 6))) tNil)))) (tCons (tCall (sp_law_below K) [] E0 (tCons (tVar 1) (tCons (tC (.int 61)) tNil))) tNil)))))) (gName 5)
     (tIfS (tNot (tTru K (tCall (sp_law_same K) [] E0 (tCons (tLst (tCons (tCall (sp_has_number K) [] E0 (tCons (tVar 10) (tCons (tVar 5) tNil))) (tCons (tCall (sp_has_number K) [] E0 (tCons (tVar 11) (tCons (tVar 5) tNil))) tNil))) (tCons (tLst (tCons (tCall (sp_law_min K) [] E0 (tCons (tOp (rIx K) (tVar 8) (tC (.int 0))) (tCons (tVar 5) tNil))) (tCons (tCall (sp_law_min K) [] E0 (tCons (tOp (rIx K) (tVar 8) (tC (.int 1))) (tCons (tVar 5) tNil))) tNil))) tNil)))))
       (tRet (tC (.bl false)))
       tNext))
    (tSeq (tAsg (tTup (tCons (tCall (sp_law_below K) [] E0 (tCons (tVar 1) (tCons (tC (.int 61)) tNil))) (tCons (tLc (iSeq K (tVar 8)) (gTup K 2 (gCons (gName 18) (gCons (gName 19) gNil))) tYes (tCall (sp_law_mleast_set K) [] E0 (tCons (tVar 18) (tCons (tVar 19) tNil))) [18, 19]) tNil))) (gTup K 2 (gCons (gName 14) (gCons (gName 15) gNil))))
    (tSeq (tAsg (tLc (iSeq K (tVar 15)) (gTup K 2 (gCons (gName 18) (gCons (gName 19) gNil))) tYes (tTup (tCons (tOp (rAddU K) (tOp (rMulU K) (tLst (tCons (tC (.bl false)) tNil)) (tVar 14)) (tVar 18)) (tCons (tVar 19) tNil))) [18, 19]) (gName 6))
    (tSeq (tAsg (tLc (iSeq K (tVar 6)) (gTup K 2 (gCons (gName 18) (gCons (gName 19) gNil))) tYes (tCall (sp_law_mleast_set K) [] E0 (tCons (tVar 18) (tCons (tVar 19) tNil))) [18, 19]) (gName 7))
    (t_law_last K)))))))))))
def t_law_body (K : PySem.W.Frag) : TS :=
  (tSeq (tAsg (tCall (sp_law_vfar_sets K) [] E0 (tCons (tVar 1) (tCons (tC (.bl false)) tNil))) (gTup K 2 (gCons (gName 8) (gCons (gName 9) gNil))))
    (tSeq (tIfS (tTru K (tCall (sp_law_chance K) [] E0 (tCons (tVar 1) (tCons (tC (.int 3)) tNil))))
     (tAsg (tTup (tCons (tLst (tCons (tOp (rIx K) (tVar 8) (tC (.int 0))) (tCons (tOp (rIx K) (tVar 8) (tC (.int 0))) tNil))) (tCons (tC (.non)) tNil))) (gTup K 2 (gCons (gName 8) (gCons (gName 9) gNil))))
     tNext)
    (t_law_rest K)))
abbrev N_law : List Str := ["script", "stream", "turn", "apart", "found", "far", "up", "ups", "sets", "number", "one", "two", "here", "first", "by", "plain", "moved", "at", "few", "ring"]
def t_law (K : PySem.W.Frag) : TS :=
  (tSeq (tAsg (tCall (sp_law_start K) [] E0 (tCons (tVar 0) tNil)) (gName 1))
  (tSeq (tFor (iRng1 (tCons (tC (.int 6)) tNil)) (gName 2)
   (t_law_body K))
  (tRet (tC (.bl true)))))
theorem rd_last {va : V} {A B : Bs} {num : Option Nat} {k : Nat} {d1 d2 : PyData} {w2 w3 w4 w5 w6 w8 w12 w13 w16 w17 w18 w19 : Option V} {u7 u9 u10 u11 u15 : V} (e : Same F H) (hf : Far A B num) (hk : k ≤ 60) (h1 : SetD d1 A) (h2 : SetD d2 B)
    (r7 : Rp K F u7 (.list [lset (upBy (leastOf A.1 A.2) k), lset (upBy (leastOf B.1 B.2) k)])) (r9 : Rp K F u9 (optD num)) (r10 : Rp K F u10 d1) (r11 : Rp K F u11 d2) (r15 : Rp K F u15 (.list [lset (leastOf A.1 A.2), lset (leastOf B.1 B.2)]))
    (hD : ∀ F' H' σ', Sx [] F H F' H' → Sh va (.ref p) σ' → D.nx σ' H') : t_law_last K D [some va, some (.ref p), w2, w3, w4, w5, w6, some u7, w8, some u9, some u10, some u11, w12, w13, some (.int (k : Int)), some u15, w16, w17, w18, w19] H := by
  obtain ⟨oA, oB, hfirst⟩ := hf
  have sA := oA.small
  have sB := oB.small
  have lA := least_small sA
  have lB' := least_small sB
  have sh : ∀ {σ'}, σ' = [some va, some (.ref p), w2, w3, w4, w5, w6, some u7, w8, some u9, some u10, some u11, w12, w13, some (.int (k : Int)), some u15, w16, w17, w18, w19] → Sh va (.ref p) σ' := fun h => ⟨_, _, _, _, _, _, _, _, _, _, _, _, _, _, _, _, _, _, h⟩
  generalize hUA : upBy (leastOf A.1 A.2) k = UA at r7
  generalize hUB : upBy (leastOf B.1 B.2) k = UB at r7
  refine st_if (K := K) (M := []) (b := decide (((max UA.1.length UB.1.length : Nat) : Int) < 61)) e (et_test (ev_op (ev_cb (ea_cons (EvD.is (EvN.ev (xLcL (en_lcL [UA, UB] lset (fun u => .int (u.1.length : Int)) (fun _ => true) (fun u => Nm2 K 18 19 (lB u.1) (lB u.2)) (ev_var rfl r7) (by simp) (fun _ _ => tg_nm2) ?_ (fun _ _ _ _ _ _ _ => et_yes) ?_))) (y := .list ([(UA.1.length : Int), (UB.1.length : Int)].map .int)) rfl) ea_nil) (rc_max (m := ((max UA.1.length UB.1.length : Nat) : Int)) (by simp) ?_)) ev_int xLt)) (fun hb F1 H1 s1 => ?_) (fun hb F1 H1 s1 => hD F1 H1 _ (s1) (sh rfl))
  · rintro u _ F1 _ ⟨a, b, _, _, rfl⟩; rfl
  · rintro u _ _ F1 H1 _ s1 ⟨a, b, ra, rb, rfl⟩
    exact EvD.is (ev_cb (ea_cons (ev_var rfl ra) ea_nil) xLenL) (by rw [List.length_map])
  · intro m hm hmax
    have h3 := hmax (UA.1.length : Int) (by simp)
    have h4 := hmax (UB.1.length : Int) (by simp)
    simp at hm
    omega
  · have hmx : max UA.1.length UB.1.length < 61 := by have := of_decide_eq_true hb; omega
    have uA : Small UA := ⟨by omega, by rw [← hUA]; exact Nat.le_trans (least_len _ _).2.1 lA.2.1, by rw [← hUA]; exact up_ne lA.2.2 k⟩
    have uB : Small UB := ⟨by omega, by rw [← hUB]; exact Nat.le_trans (least_len _ _).2.1 lB'.2.1, by rw [← hUB]; exact up_ne lB'.2.2 k⟩
    have q10 := r10.mono s1.ff
    have q11 := r11.mono s1.ff
    have q7 := r7.mono s1.ff
    refine q_set (K := K) (M := []) (d := .list [lset UA, lset UB]) s1.fh (ev_lst (ea_cons (EvD.is (ev_shifted_up (p := A) (k := k) (ea_cons (ev_var rfl q10) (ea_cons (ev_var rfl (.int (k : Int))) ea_nil)) ⟨⟨h1, sA⟩, hk, by rw [hUA]; exact uA.1⟩) (by rw [hUA])) (ea_cons (EvD.is (ev_shifted_up (p := B) (k := k) (ea_cons (ev_var rfl q11) (ea_cons (ev_var rfl (.int (k : Int))) ea_nil)) ⟨⟨h2, sB⟩, hk, by rw [hUB]; exact uB.1⟩) (by rw [hUB])) ea_nil)) (by simp)) fun F2 H2 u16 s2 r16 => ?_
    have i0 : ∀ {M : List Addr} {F1 H1 : Hp} {w : L2.St}, Rp K F1 u16 (.list [lset UA, lset UB]) → w[16]? = some (some u16) → EvD K M (tOp (rIx K) (tVar 16) (tC (.int 0))) w F1 H1 (lset UA) := fun {M F1 H1 w} hr hw => ev_op (ev_var hw hr) ev_int (rv_ixl rfl)
    have i1 : ∀ {M : List Addr} {F1 H1 : Hp} {w : L2.St}, Rp K F1 u16 (.list [lset UA, lset UB]) → w[16]? = some (some u16) → EvD K M (tOp (rIx K) (tVar 16) (tC (.int 1))) w F1 H1 (lset UB) := fun {M F1 H1 w} hr hw => ev_op (ev_var hw hr) ev_int (rv_ixl rfl)
    have dUA : SetD (lset UA) UA := ⟨_, _, .inr rfl, .inl rfl, .inl rfl⟩
    have dUB : SetD (lset UB) UB := ⟨_, _, .inr rfl, .inl rfl, .inl rfl⟩
    have q7' := q7.mono s2.ff
    have q9' := (r9.mono s1.ff).mono s2.ff
    refine q_when (K := K) (M := []) (b := false || false) s2.fh (et_or (et_nsame (d := .list [lset UA, lset UB]) (ev_var rfl r16) (ev_var rfl q7') (pl_two uA uB)) fun _ => et_nsame (d := .bool num.isNone) (EvD.is (ev_is_within (p := UA) (p2 := UB) (ea_cons (i0 r16 rfl) (ea_cons (i1 r16 rfl) ea_nil)) ⟨⟨dUA, uA⟩, dUB, uB⟩) ?_) (EvD.is (ev_op (ev_var rfl q9') ev_non xIsN) (by rw [isNon_optD])) .bool) (fun hb => absurd hb (by decide)) fun _ F3 H3 s3 => ?_
    · rw [← hUA, ← hUB, up_within oA.2.2 oB.2.2 hfirst]
    · have q16 := r16.mono s3.ff
      have q15 := ((r15.mono s1.ff).mono s2.ff).mono s3.ff
      refine st_if (K := K) (M := []) (b := false) s3.fh (et_nsame (d := .list [lset (leastOf A.1 A.2), lset (leastOf B.1 B.2)]) (ev_lst (ea_cons (EvD.is (ev_shifted_down (p := UA) (k := k) (ea_cons (i0 q16 rfl) (ea_cons (ev_var rfl (.int (k : Int))) ea_nil)) ⟨⟨dUA, uA⟩, hk⟩) ?_) (ea_cons (EvD.is (ev_shifted_down (p := UB) (k := k) (ea_cons (i1 q16 rfl) (ea_cons (ev_var rfl (.int (k : Int))) ea_nil)) ⟨⟨dUB, uB⟩, hk⟩) ?_) ea_nil)) (by simp)) (ev_var rfl q15) (pl_two lA lB')) (fun hb => absurd hb (by decide)) fun _ F4 H4 s4 => hD F4 H4 _ (((s1.trans s2).trans s3).trans s4) ⟨_, _, _, _, _, _, _, _, _, _, _, _, _, _, _, _, _, _, rfl⟩
      · rw [← hUA, down_up lA.2.2 k, least_one (f1 := (leastOf A.1 A.2).1) (r1 := (leastOf A.1 A.2).2) (f2 := A.1) (r2 := A.2) lA.2.2 oA.2.2 fun n => inSet_least oA.2.2 n]
      · rw [← hUB, down_up lB'.2.2 k, least_one (f1 := (leastOf B.1 B.2).1) (r1 := (leastOf B.1 B.2).2) (f2 := B.1) (r2 := B.2) lB'.2.2 oB.2.2 fun n => inSet_least oB.2.2 n]
end
end Sf

namespace Sf
open PySem L2 RZ
/-! evaluation, construct by construct -/
local macro_rules | `(tactic| walk_at "rp") => `(tactic| first | assumption | exact .int _ | exact .bl _ | exact .str _ | exact .non | exact Rp.mono (Sx.ff (by assumption)) (by walk_at "rp"))
local macro_rules | `(tactic| walk_at "sc") => `(tactic| first | rfl | assumption | omega | decide | (simp; done) | (simp; omega))
local macro_rules | `(tactic| walk_at "ix") => `(tactic| first | rfl | assumption)
local macro_rules | `(tactic| walk_at "rv") => `(tactic| first
  | exact xAddI | exact xSub | exact xLt | exact xLe | exact xGt | exact xGe | exact xIsN | exact xNotN | exact xEqI | exact xNeI | exact xEqB | exact xNeB | exact xEqLB | exact xEqTB | exact xNeTB
  | exact xMod (by walk_at "sc")
  | exact xDiv (by walk_at "sc")
  | exact xPow (by walk_at "sc")
  | exact xMulI (by walk_at "sc")
  | exact rv_ixt (by walk_at "ix")
  | exact rv_ixl (by walk_at "ix")
  | exact xAddL (by walk_at "sc")
  | exact xAddT (by walk_at "sc"))
local macro_rules | `(tactic| walk_at "rc") => `(tactic| first | exact xLenL | exact xLenT | exact xListL | exact xListT | exact xTupL | exact xTupT | exact xMax2 | exact xInt | exact rc_all | exact rc_any)
local macro_rules | `(tactic| walk_at "ea") => `(tactic| first | exact ea_nil | refine ea_cons (by walk_at "ev") (by walk_at "ea"))
local macro_rules | `(tactic| walk_at "eo") => `(tactic| first | exact eo_none | refine eo_some (by walk_at "ev"))
local macro_rules | `(tactic| walk_at "et") => `(tactic| first
  | ((with_reducible show EvT _ _ (tTest _) _ _ _ _); exact et_test (by walk_at "ev"))
  | ((with_reducible show EvT _ _ (tNot _) _ _ _ _); exact et_not (by walk_at "et"))
  | ((with_reducible show EvT _ _ (tAnd _ _) _ _ _ _); exact et_and (by walk_at "et") (fun hh => by walk_at "et"))
  | ((with_reducible show EvT _ _ (tOr _ _) _ _ _ _); exact et_or (by walk_at "et") (fun hh => by walk_at "et"))
  | ((with_reducible show EvT _ _ (tTru _ _) _ _ _ _); exact xTru (by walk_at "ev") (by walk_at "sc"))
  | ((with_reducible show EvT _ _ tYes _ _ _ _); exact et_yes))
local macro_rules | `(tactic| walk_at "ev") => `(tactic| first
  | ((with_reducible show EvD _ _ (tC _) _ _ _ _); first | exact ev_int | exact ev_bl | exact ev_str | exact ev_non)
  | ((with_reducible show EvD _ _ (tVar _) _ _ _ _); exact ev_var (by rfl) (by walk_at "rp"))
  | ((with_reducible show EvD _ _ (tOp _ _ _) _ _ _ _); exact ev_op (by walk_at "ev") (by walk_at "ev") (by walk_at "rv"))
  | ((with_reducible show EvD _ _ (tUn _ _) _ _ _ _); exact ev_un (by walk_at "ev") xNeg)
  | ((with_reducible show EvD _ _ (tCB _ _) _ _ _ _); exact ev_cb (by walk_at "ea") (by walk_at "rc"))
  | ((with_reducible show EvD _ _ (tTup _) _ _ _ _); exact ev_tup (by walk_at "ea") (by walk_at "sc"))
  | ((with_reducible show EvD _ _ (tLst _) _ _ _ _); exact ev_lst (by walk_at "ea") (by walk_at "sc"))
  | ((with_reducible show EvD _ _ (tSl _ _ _ _) _ _ _ _); first | exact xSlL (by walk_at "ev") (by walk_at "eo") (by walk_at "eo") | exact xSlT (by walk_at "ev") (by walk_at "eo") (by walk_at "eo"))
  | ((with_reducible show EvD _ _ (tNotT _ _) _ _ _ _); exact ev_notT (by walk_at "ev") (by walk_at "sc"))
  | ((with_reducible show EvD _ _ (tAndT _ _ _) _ _ _ _); exact ev_andB (by walk_at "ev") (fun hh => by walk_at "ev"))
  | ((with_reducible show EvD _ _ (tOrT _ _ _) _ _ _ _); exact ev_orB (by walk_at "ev") (fun hh => by walk_at "ev")))

local macro_rules | `(tactic| walk_at "ev") => `(tactic| ((with_reducible show EvD _ _ (tCall (sp_is_row _) _ _ _) _ _ _ _); exact ev_is_row (by walk_at "ea")))
local macro_rules | `(tactic| walk_at "ev") => `(tactic| ((with_reducible show EvD _ _ (tCall (sp_is_number _) _ _ _) _ _ _ _); exact ev_is_number (by walk_at "ea")))
local macro_rules | `(tactic| walk_at "ev") => `(tactic| ((with_reducible show EvD _ _ (tCall (sp_is_truths _) _ _ _) _ _ _ _); exact ev_is_truths (by walk_at "ea") (by walk_at "sc")))
local macro_rules | `(tactic| walk_at "ev") => `(tactic| ((with_reducible show EvD _ _ (tCall (sp_round_size _) _ _ _) _ _ _ _); exact ev_round_size (by walk_at "ea") (by walk_at "sc")))
local macro_rules | `(tactic| walk_at "ev") => `(tactic| ((with_reducible show EvD _ _ (tCall (sp_in_set _) _ _ _) _ _ _ _); exact ev_in_set (by walk_at "ea") (by walk_at "sc")))
local macro_rules | `(tactic| walk_at "ev") => `(tactic| ((with_reducible show EvD _ _ (tCall (sp_common_round _) _ _ _) _ _ _ _); exact ev_common_round (by walk_at "ea") (by walk_at "sc")))
local macro_rules | `(tactic| walk_at "ev") => `(tactic| ((with_reducible show EvD _ _ (tCall (sp_least_of _) _ _ _) _ _ _ _); exact ev_least_of (by walk_at "ea") (by walk_at "sc")))
local macro_rules | `(tactic| walk_at "ev") => `(tactic| ((with_reducible show EvD _ _ (tCall (sp_set_in _) _ _ _) _ _ _ _); exact ev_set_in (by walk_at "ea") (by walk_at "sc")))
local macro_rules | `(tactic| walk_at "ev") => `(tactic| ((with_reducible show EvD _ _ (tCall (sp_need_set _) _ _ _) _ _ _ _); exact ev_need_set (by walk_at "ea") (by walk_at "sc")))
local macro_rules | `(tactic| walk_at "ev") => `(tactic| ((with_reducible show EvD _ _ (tCall (sp_need_sets _) _ _ _) _ _ _ _); exact ev_need_sets (by walk_at "ea") (by walk_at "sc")))
local macro_rules | `(tactic| walk_at "ev") => `(tactic| ((with_reducible show EvD _ _ (tCall (sp_told_set _) _ _ _) _ _ _ _); exact ev_told_set (by walk_at "ea") (by walk_at "sc")))
local macro_rules | `(tactic| walk_at "ev") => `(tactic| ((with_reducible show EvD _ _ (tCall (sp_set_by _) _ _ _) _ _ _ _); exact ev_set_by (by walk_at "ea") (by walk_at "sc")))
local macro_rules | `(tactic| walk_at "ev") => `(tactic| ((with_reducible show EvD _ _ (tCall (sp_first_of _) _ _ _) _ _ _ _); exact ev_first_of (by walk_at "ea") (by walk_at "sc")))
local macro_rules | `(tactic| walk_at "ev") => `(tactic| ((with_reducible show EvD _ _ (tCall (sp_has_number _) _ _ _) _ _ _ _); exact ev_has_number (by walk_at "ea") (by walk_at "sc")))
local macro_rules | `(tactic| walk_at "ev") => `(tactic| ((with_reducible show EvD _ _ (tCall (sp_numbers_below _) _ _ _) _ _ _ _); exact ev_numbers_below (by walk_at "ea") (by walk_at "sc")))
local macro_rules | `(tactic| walk_at "ev") => `(tactic| ((with_reducible show EvD _ _ (tCall (sp_is_within _) _ _ _) _ _ _ _); exact ev_is_within (by walk_at "ea") (by walk_at "sc")))
local macro_rules | `(tactic| walk_at "ev") => `(tactic| ((with_reducible show EvD _ _ (tCall (sp_first_number _) _ _ _) _ _ _ _); exact ev_first_number (by walk_at "ea") (by walk_at "sc")))
local macro_rules | `(tactic| walk_at "ev") => `(tactic| ((with_reducible show EvD _ _ (tCall (sp_first_apart _) _ _ _) _ _ _ _); exact ev_first_apart (by walk_at "ea") (by walk_at "sc")))
local macro_rules | `(tactic| walk_at "ev") => `(tactic| ((with_reducible show EvD _ _ (tCall (sp_need_by _) _ _ _) _ _ _ _); exact ev_need_by (by walk_at "ea") (by walk_at "sc")))
local macro_rules | `(tactic| walk_at "ev") => `(tactic| ((with_reducible show EvD _ _ (tCall (sp_up_by _) _ _ _) _ _ _ _); exact ev_up_by (by walk_at "ea") (by walk_at "sc")))
local macro_rules | `(tactic| walk_at "ev") => `(tactic| ((with_reducible show EvD _ _ (tCall (sp_down_by _) _ _ _) _ _ _ _); exact ev_down_by (by walk_at "ea") (by walk_at "sc")))
local macro_rules | `(tactic| walk_at "ev") => `(tactic| ((with_reducible show EvD _ _ (tCall (sp_shifted_up _) _ _ _) _ _ _ _); exact ev_shifted_up (by walk_at "ea") (by walk_at "sc")))
local macro_rules | `(tactic| walk_at "ev") => `(tactic| ((with_reducible show EvD _ _ (tCall (sp_shifted_down _) _ _ _) _ _ _ _); exact ev_shifted_down (by walk_at "ea") (by walk_at "sc")))
local macro_rules | `(tactic| walk_at "ev") => `(tactic| ((with_reducible show EvD _ _ (tCall (sp_law_min _) _ _ _) _ _ _ _); exact ev_law_min (by walk_at "ea") (by walk_at "sc")))
local macro_rules | `(tactic| walk_at "ev") => `(tactic| ((with_reducible show EvD _ _ (tCall (sp_law_mleast_set _) _ _ _) _ _ _ _); exact ev_law_mleast_set (by walk_at "ea") (by walk_at "sc")))
theorem xForTq {K : PySem.W.Frag} {g : TG} {te : TE} {tw tv : TS} {D : Ends} {σ : L2.St} {H : Hp} (h : tSeq (tFor (iTup K te) g tw) tv D σ H) : tSeq (tFor (iSeq K te) g tw) tv D σ H := xForT (D := { D with nx := tv D }) h
theorem esa_nil' {K : PySem.W.Frag} {p q : Addr} {σ : L2.St} {F H : Hp} {P : List PyData → Prop} (h : P []) : EvSA K p q tNil σ F H 0 P := fun F1 H1 n s st hn Q k => k F1 H1 [] [] (Sx.refl s.fh) st h .nil
section
variable {K : PySem.W.Frag} {F H F' H' F1 H1 F2 H2 : Hp} {M : List Addr} {σ : L2.St} {te ta tb tc tl : TE} {tt tu : TT} {d x y z : PyData} {D : Ends} {tw tz : TS} {p q : Addr} {c c' : Nat} {Px Py : PyData → Prop}
def PN (B k : Nat) (ds : List PyData) : Prop := ∃ ns : List Nat, ds = ns.map (fun n : Nat => PyData.int (n : Int)) ∧ (∀ m ∈ ns, m ≤ B) ∧ ns.length = k
def Upto (B : Nat) (d : PyData) : Prop := ∃ n : Nat, d = .int (n : Int) ∧ n ≤ B
theorem PN.nil {B : Nat} : PN B 0 [] := ⟨[], rfl, by simp, rfl⟩
theorem PN.cons {B k : Nat} {x : PyData} {ds : List PyData} (hx : Upto B x) (h : PN B k ds) : PN B (k + 1) (x :: ds) := by
  obtain ⟨n, rfl, hn⟩ := hx
  obtain ⟨ns, rfl, hns, hl⟩ := h
  exact ⟨n :: ns, rfl, fun m hm => by rcases List.mem_cons.mp hm with rfl | hm; exact hn; exact hns m hm, by rw [List.length_cons, hl]⟩
/-- for over a tuple of drawn numbers; its body draws nothing -/
theorem qs_forT {tv : TS} {n i B k : Nat} (e : Same F H) (st : Stm F H p q n) (h : EvS K p q te σ F H c (fun z => ∃ ds, PN B k ds ∧ z = .tuple ds)) (hn : n + c ≤ 1000000000) (I : L2.St → Prop) (hI : I σ)
    (hw : ∀ σ' m F1 H1 (D' : Ends), m ≤ B → I σ' → Sx [p, q] F H F1 H1 → (∀ F2 H2 σ2, Sx [] F1 H1 F2 H2 → I σ2 → D'.nx σ2 H2) → tw D' (σ'.set i (some (.int (m : Int)))) H1)
    (k : ∀ F1 H1 σ', Sx [p, q] F H F1 H1 → Stm F1 H1 p q (n + c) → I σ' → tv D σ' H1) : tSeq (tFor (iTup K te) (gName i) tw) tv D σ H :=
  h F H n (Sx.refl e) st hn _ fun F1 H1 v d s st1 ⟨ds, ⟨ns, hds, hns, hl⟩, hd⟩ rv => by
    subst hd hds
    obtain ⟨a, ws, rfl, h', rs⟩ := rv.tup_of
    refine ⟨a, rfl, ⟨ws, same_t s.fh h'⟩, for_tup (xs := ws) (fun i σ2 H2 => ∃ F2, Sx [] F1 H1 F2 H2 ∧ I σ2) ⟨F1, Sx.refl s.fh, hI⟩ (fun i σ2 H2 _ ⟨F2, s2, _⟩ => same_t s2.fh (same_t s2.ff h')) (fun i v σ' H' hv ⟨F', s', hi⟩ => ?_) (fun σ' H' ⟨F', s', hi⟩ => k F' H' σ' (s.trans s'.up) (st1.pure s') hi)⟩
    obtain ⟨d, hd, rv⟩ := rs.of_get hv
    rw [List.getElem?_map] at hd
    cases hx : ns[i]? with
    | none => rw [hx] at hd; cases hd
    | some m =>
      rw [hx] at hd
      cases hd
      cases (rv.mono s'.ff).int_of
      exact hw σ' m F' H' _ (hns m (List.mem_of_getElem? hx)) hi (s.trans s'.up) fun F2 H2 σ2 s2 h2 => ⟨F2, s'.trans s2, h2⟩
theorem pow18 : (10 : Int) ^ (18 : Int).toNat = ((10 ^ 18 : Nat) : Int) := by decide
theorem ev_pow {k : Nat} (hk : k ≤ 1000000) : EvD K M (tOp rPowI (tC (.int 10)) (tC (.int (k : Int)))) σ F H (.int ((10 ^ k : Nat) : Int)) := EvD.is (ev_op ev_int ev_int (xPow ⟨by omega, by omega, by decide⟩)) (congrArg PyData.int (by rw [Int.toNat_natCast, Int.natCast_pow]; rfl))
theorem rd_rest {va : V} {A B : Bs} {num : Option Nat} {w2 w3 w4 w5 w6 w7 w10 w11 w12 w13 w14 w15 w16 w17 w18 w19 : Option V} {u8 u9 : V} {n : Nat} (e : Same F H) (st : Stm F H p q n) (hf : Far A B num) (hn : n + 50 ≤ 1000000000)
    (r8 : Rp K F u8 (.list [lset A, lset B])) (r9 : Rp K F u9 (optD num))
    (hD : ∀ F' H' σ', Sx [p, q] F H F' H' → Stm F' H' p q (n + 50) → Sh va (.ref p) σ' → D.nx σ' H') : t_law_rest K D [some va, some (.ref p), w2, w3, w4, w5, w6, w7, some u8, some u9, w10, w11, w12, w13, w14, w15, w16, w17, w18, w19] H := by
  have hf' := hf
  obtain ⟨oA, oB, hfirst⟩ := hf'
  have sA := oA.small
  have sB := oB.small
  refine qs_par (K := K) (c := 3 + (3 + 0)) (Pr := fun x y => SetD x A ∧ SetD y B) e st (by
    refine fun F1 H1 m s st hn Q k => esa2 ((es_loose rfl (ev_op (ev_var rfl r8) ev_int (rv_ixl rfl)) (pl_lset (p := A) (by have := sA.1; omega) (by have := sA.2.1; omega))).weak (Nat.le_of_eq (cst_lset A)) fun _ h => h) ((es_loose rfl (ev_op (ev_var rfl r8) ev_int (rv_ixl rfl)) (pl_lset (p := B) (by have := sB.1; omega) (by have := sB.2.1; omega))).weak (Nat.le_of_eq (cst_lset B)) fun _ h => h) F1 H1 m s st hn Q fun F2 H2 vs ds s2 st2 ⟨x, y, hd, hx, hy⟩ rs => k F2 H2 vs ds s2 st2 ⟨x, y, hd, loose_set hx, loose_set hy⟩ rs) (by omega) fun F1 H1 u10 u11 d1 d2 s1 st1 ⟨hd1, hd2⟩ r10 r11 => ?_
  have i0 : ∀ {M : List Addr} {F1 H1 : Hp} {w : L2.St}, Rp K F1 u8 (.list [lset A, lset B]) → w[8]? = some (some u8) → EvD K M (tOp (rIx K) (tVar 8) (tC (.int 0))) w F1 H1 (lset A) := fun {M F1 H1 w} hr hw => ev_op (ev_var hw hr) ev_int (rv_ixl rfl)
  have i1 : ∀ {M : List Addr} {F1 H1 : Hp} {w : L2.St}, Rp K F1 u8 (.list [lset A, lset B]) → w[8]? = some (some u8) → EvD K M (tOp (rIx K) (tVar 8) (tC (.int 1))) w F1 H1 (lset B) := fun {M F1 H1 w} hr hw => ev_op (ev_var hw hr) ev_int (rv_ixl rfl)
  have q8 := r8.mono s1.ff
  have q9 := r9.mono s1.ff
  refine q_set (K := K) (M := []) (d := .list (((List.range 181).filter fun n => !decide (inSet A n = inSet B n)).map fun n : Nat => PyData.int (n : Int))) s1.fh (EvN.ev (en_lcR1 181 (fun n : Nat => .int (n : Int)) (fun n => !decide (inSet A n = inSet B n)) (j := 17) (m := 181) (ea_cons ev_int ea_nil) rfl (by decide) rfl (fun _ => rfl) (fun a _ F2 H2 s2 => et_test (ev_op (ev_law_min (ea_cons (i0 (q8.mono s2.ff) rfl) (ea_cons (ev_var rfl (.int (a : Int))) ea_nil)) oA.2.2) (ev_law_min (ea_cons (i1 (q8.mono s2.ff) rfl) (ea_cons (ev_var rfl (.int (a : Int))) ea_nil)) oB.2.2) xNeB)) (fun a _ _ F2 H2 s2 => ev_var rfl (.int (a : Int))))) fun F2 H2 u3 s2 r3 => ?_
  have p10 := r10.mono s2.ff
  have p11 := r11.mono s2.ff
  have p8 := q8.mono s2.ff
  have p9 := q9.mono s2.ff
  refine q_set (K := K) (M := []) (d := .list [.bool num.isNone, .bool num.isNone, optD ((List.range 181).filter fun n => !decide (inSet A n = inSet B n)).head?, optD ((List.range 181).filter fun n => !decide (inSet A n = inSet B n)).head?]) s2.fh (ev_lst (ea_cons (EvD.is (ev_is_within (p := A) (p2 := B) (ea_cons (ev_var rfl p10) (ea_cons (ev_var rfl p11) ea_nil)) ⟨⟨hd1, sA⟩, hd2, sB⟩) ?_) (ea_cons (EvD.is (ev_callK0 (d1, d2, A, B) (ea_cons (ev_var rfl p11) (ea_cons (ev_var rfl p10) ea_nil)) (fun F vs rs => by obtain ⟨v, w, rfl, h1, h2⟩ := rs.inv2; exact .cons h2 (.one h1)) ⟨⟨hd1, sA⟩, hd2, sB⟩) ?_) (ea_cons (EvD.is (ev_first_apart (p := A) (p2 := B) (ea_cons (ev_var rfl p10) (ea_cons (ev_var rfl p11) ea_nil)) ⟨⟨hd1, sA⟩, hd2, sB⟩) ?_) (ea_cons (EvD.is (ev_first_apart (p := B) (p2 := A) (ea_cons (ev_var rfl p11) (ea_cons (ev_var rfl p10) ea_nil)) ⟨⟨hd2, sB⟩, hd1, sA⟩) ?_) ea_nil)))) (by simp)) fun F3 H3 u4 s3 r4 => ?_
  · rw [within_eq oA.2.2 oB.2.2 hfirst]
  · show PyData.bool _ = _
    rw [within_eq oA.2.2 oB.2.2 hfirst]
  · rw [apart_eq oA oB]
  · rw [apart_eq oB oA, apart_sym]
  have t3 := r3.mono s3.ff
  have t8 := p8.mono s3.ff
  have t9 := p9.mono s3.ff
  refine q_when (K := K) (M := []) (b := false) s3.fh (et_nsame (d := .list [.bool num.isNone, .bool num.isNone, optD ((List.range 181).filter fun n => !decide (inSet A n = inSet B n)).head?, optD ((List.range 181).filter fun n => !decide (inSet A n = inSet B n)).head?]) (ev_var rfl r4) (EvD.is (ev_op (ev_op (ev_lst (ea_cons (EvD.is (ev_op (ev_var rfl t9) ev_non xIsN) (congrArg PyData.bool (isNon_optD num))) ea_nil) (by simp)) ev_int (xMulL (by omega) (by simp))) (ev_op (ev_lst (ea_cons (ev_head rfl t3) ea_nil) (by simp)) ev_int (xMulL (by omega) (by simp))) (xAddL (by simp))) rfl) (.list (Pl.cons .bool (Pl.cons .bool (Pl.cons (pl_optD _) (Pl.one (pl_optD _))))) (by simp))) (fun hb => absurd hb (by decide)) fun _ F4 H4 s4 => ?_
  have v8 := t8.mono s4.ff
  have v10 := (p10.mono s3.ff).mono s4.ff
  have v11 := (p11.mono s3.ff).mono s4.ff
  refine q_par (K := K) (M := []) (d := .list (((List.range 200).filter (inSet A)).map fun n : Nat => PyData.int (n : Int))) (e := .list (((List.range 121).filter (inSet A)).map fun n : Nat => PyData.int (n : Int))) s4.fh (ea_cons (EvN.ev (en_lcR1 200 (fun n : Nat => .int (n : Int)) (inSet A) (j := 17) (m := 200) (ea_cons ev_int ea_nil) rfl (by decide) rfl (fun _ => rfl) (fun a _ F2 H2 s2 => xTru (ev_law_min (ea_cons (i0 (v8.mono s2.ff) rfl) (ea_cons (ev_var rfl (.int (a : Int))) ea_nil)) oA.2.2) rfl) (fun a _ _ F2 H2 s2 => ev_var rfl (.int (a : Int))))) (ea_cons (EvN.ev (en_lcR1 121 (fun n : Nat => .int (n : Int)) (inSet A) (j := 17) (m := 121) (ea_cons ev_int ea_nil) rfl (by decide) rfl (fun _ => rfl) (fun a _ F2 H2 s2 => xTru (ev_law_min (ea_cons (i0 (v8.mono s2.ff) rfl) (ea_cons (ev_var rfl (.int (a : Int))) ea_nil)) oA.2.2) rfl) (fun a _ _ F2 H2 s2 => ev_var rfl (.int (a : Int))))) ea_nil)) fun F5 H5 u12 u13 s5 r12 r13 => ?_
  have x10 := v10.mono s5.ff
  refine q_when (K := K) (M := []) (b := false) s5.fh (et_nsame (d := .list [.list (((List.range 200).filter (inSet A)).map fun n : Nat => PyData.int (n : Int)), optD ((List.range 121).filter (inSet A)).head?, .none]) (ev_lst (ea_cons (EvD.is (ev_numbers_below (p := A) (m := 200) (ea_cons (ev_var rfl x10) (ea_cons ev_int ea_nil)) ⟨⟨hd1, sA⟩, by decide⟩) ?_) (ea_cons (EvD.is (ev_first_number (p := A) (ea_cons (ev_var rfl x10) ea_nil) ⟨hd1, sA⟩) ?_) (ea_cons (EvD.is (ev_first_number (p := (List.replicate 60 false, List.replicate 60 false)) (ea_cons (ev_tup (ea_cons (EvD.is (ev_op (ev_lst (ea_cons ev_bl ea_nil) (by simp)) ev_int (xMulL (by omega) (by simp))) (rep_bool false 60 ▸ rfl)) (ea_cons (EvD.is (ev_op (ev_lst (ea_cons ev_bl ea_nil) (by simp)) ev_int (xMulL (by omega) (by simp))) (rep_bool false 60 ▸ rfl)) ea_nil)) (by simp)) ea_nil) ⟨⟨_, _, .inr rfl, .inl rfl, .inl rfl⟩, by decide, by decide, by decide⟩) ?_) ea_nil))) (by simp)) (ev_lst (ea_cons (ev_var rfl r12) (ea_cons (ev_head rfl r13) (ea_cons ev_non ea_nil))) (by simp)) (.list (Pl.cons (.list Pl.ints (by rw [List.length_map]; refine Nat.le_trans (List.length_filter_le _ _) (by rw [List.length_range]; decide))) (Pl.cons (pl_optD _) (Pl.one .non))) (by simp))) (fun hb => absurd hb (by decide)) fun _ F6 H6 s6 => ?_
  · rw [show inSet (leastOf A.1 A.2) = inSet A from funext fun n => inSet_least oA.2.2 n]
  · rw [first_eq oA]
  · rw [zero_first]; rfl
  have s26 := ((((s2.trans s3).trans s4).trans s5).trans s6)
  have st6 := st1.pure s26
  have y8 := r8.mono (s1.trans s26.up).ff
  have y9 := r9.mono (s1.trans s26.up).ff
  have y10 := r10.mono s26.ff
  have y11 := r11.mono s26.ff
  refine xForTq (qs_forT (K := K) (B := 10 ^ 18) (k := 4) (c := 0 + ((0 + 1) + ((0 + 1) + (1 + 0)))) s6.fh st6 (es_tup (esa_cons (Px := Upto (10 ^ 18)) (Pr := PN (10 ^ 18) 3) ((es_d (ev_pow (k := 18) (by decide))).weak (Nat.le_refl _) ?_) (esa_cons (Px := Upto (10 ^ 18)) (Pr := PN (10 ^ 18) 2) (es_op (es_d (ev_op (ev_pow (k := 18) (by decide)) ev_int xSub)) (es_below (m := 10 ^ 9) rfl (ev_pow (k := 9) (by decide)) (by decide) (by decide)) ?_) (esa_cons (Px := Upto (10 ^ 18)) (Pr := PN (10 ^ 18) 1) (es_op (es_d ev_int) (es_below (m := 10 ^ 6) rfl (ev_pow (k := 6) (by decide)) (by decide) (by decide)) ?_) (esa_cons (Px := Upto (10 ^ 18)) (Pr := PN (10 ^ 18) 0) ((es_below (m := 61) rfl ev_int (by decide) (by decide)).weak (Nat.le_refl _) ?_) (esa_nil' PN.nil) fun x ds hx h => PN.cons hx h) fun x ds hx h => PN.cons hx h) fun x ds hx h => PN.cons hx h) fun x ds hx h => PN.cons hx h) ?_) (by omega)
    (fun σ' => ∃ u5 : Option V, σ' = [some va, some (.ref p), w2, some u3, some u4, u5, w6, w7, some u8, some u9, some u10, some u11, some u12, some u13, w14, w15, w16, w17, w18, w19]) ⟨_, rfl⟩ ?_ ?_)
  · rintro _ rfl
    exact ⟨10 ^ 18, rfl, Nat.le_refl _⟩
  · rintro _ _ rfl ⟨r, hr, rfl⟩
    exact ⟨_, xSub, 10 ^ 18 - 1 - r, by congr 1; omega, by omega⟩
  · rintro _ _ rfl ⟨r, hr, rfl⟩
    exact ⟨_, xAddI, 61 + r, by congr 1, by omega⟩
  · rintro _ ⟨r, hr, rfl⟩
    exact ⟨r, rfl, by omega⟩
  · rintro _ ⟨ns, rfl, _, hl⟩
    rw [List.length_map, hl]; decide
  · rintro _ m F7 H7 D' hm ⟨u5, rfl⟩ s7 k7
    have z8 := y8.mono s7.ff
    have z10 := y10.mono s7.ff
    have z11 := y11.mono s7.ff
    refine st_if (K := K) (M := []) (b := false) s7.fh (et_nsame (d := .list [.bool (inSet A m), .bool (inSet B m)]) (ev_lst (ea_cons (EvD.is (ev_has_number (p := A) (n := m) (ea_cons (ev_var rfl z10) (ea_cons (ev_var rfl (.int (m : Int))) ea_nil)) ⟨⟨hd1, sA⟩, hm⟩) (by rw [inSet_least oA.2.2])) (ea_cons (EvD.is (ev_has_number (p := B) (n := m) (ea_cons (ev_var rfl z11) (ea_cons (ev_var rfl (.int (m : Int))) ea_nil)) ⟨⟨hd2, sB⟩, hm⟩) (by rw [inSet_least oB.2.2])) ea_nil)) (by simp)) (ev_lst (ea_cons (ev_law_min (ea_cons (i0 z8 rfl) (ea_cons (ev_var rfl (.int (m : Int))) ea_nil)) oA.2.2) (ea_cons (ev_law_min (ea_cons (i1 z8 rfl) (ea_cons (ev_var rfl (.int (m : Int))) ea_nil)) oB.2.2) ea_nil)) (by simp)) (.list (Pl.cons .bool (Pl.one .bool)) (by simp))) (fun hb => absurd hb (by decide)) fun _ F8 H8 s8 => k7 _ _ _ s8 ⟨_, rfl⟩
  rintro F7 H7 _ s7 st7 ⟨u5, rfl⟩
  have z8 := y8.mono s7.ff
  have lA := least_small sA
  have lB' := least_small sB
  refine qs_asg2 (K := K) (i := 14) (j := 15) (c := 1 + (0 + 0)) (Pr := fun x y => Upto 60 x ∧ y = .list [lset (leastOf A.1 A.2), lset (leastOf B.1 B.2)]) s7.fh st7 (es_tup2 (esa2 ((es_below (m := 61) rfl ev_int (by decide) (by decide)).weak (Nat.le_refl _) fun d ⟨r, hr, hd⟩ => ⟨r, hd, by omega⟩) (es_d (EvN.ev (xLcL (en_lcL [A, B] lset (fun u => lset (leastOf u.1 u.2)) (fun _ => true) (fun u => Nm2 K 18 19 (lB u.1) (lB u.2)) (ev_var rfl z8) (by simp) (fun _ _ => tg_nm2) ?_ (fun _ _ _ _ _ _ _ => et_yes) ?_)))))) (by omega) fun F8 H8 u14 u15 d14 d15 s8 st8 ⟨⟨by_, hd14, hby⟩, hd15⟩ r14 r15 => ?_
  · rintro u _ F1 _ ⟨a, b, _, _, rfl⟩; rfl
  · rintro u hu _ F1 H1 _ s1 ⟨a, b, ra, rb, rfl⟩
    have hu2 : u.2 ≠ [] ∧ u.2.length ≤ 1000 := by
      rcases List.mem_cons.mp hu with rfl | hu
      · exact ⟨sA.2.2, by have := sA.2.1; omega⟩
      · rw [List.mem_singleton.mp hu]; exact ⟨sB.2.2, by have := sB.2.1; omega⟩
    exact ev_law_mleast_set (ea_cons (ev_var rfl ra) (ea_cons (ev_var rfl rb) ea_nil)) hu2
  subst hd14 hd15
  cases r14.int_of
  refine q_set (K := K) (M := []) (d := .list ([leastOf A.1 A.2, leastOf B.1 B.2].map fun u => lset (List.replicate by_ false ++ u.1, u.2))) s8.fh (EvN.ev (xLcL (en_lcL [leastOf A.1 A.2, leastOf B.1 B.2] lset (fun u => lset (List.replicate by_ false ++ u.1, u.2)) (fun _ => true) (fun u => Nm2 K 18 19 (lB u.1) (lB u.2)) (ev_var rfl r15) (by simp) (fun _ _ => tg_nm2) ?_ (fun _ _ _ _ _ _ _ => et_yes) ?_))) fun F9 H9 u6 s9 r6 => ?_
  · rintro u _ F1 _ ⟨a, b, _, _, rfl⟩; rfl
  · rintro u hu _ F1 H1 _ s1 ⟨a, b, ra, rb, rfl⟩
    have hul : u.1.length ≤ 60 := by
      rcases List.mem_cons.mp hu with rfl | hu
      · exact lA.1
      · rw [List.mem_singleton.mp hu]; exact lB'.1
    refine ev_tup (ea_cons (EvD.is (ev_op (EvD.is (ev_op (ev_lst (ea_cons ev_bl ea_nil) (by simp)) (ev_var rfl (.int (by_ : Int))) (xMulL (by omega) (by simp; omega))) (by rw [Int.toNat_natCast, rep_bool])) (ev_var rfl ra) (xAddL (by simp; omega))) (congrArg PyData.list List.map_append.symm)) (ea_cons (ev_var rfl rb) ea_nil)) (by simp)
  refine q_set (K := K) (M := []) (d := .list [lset (upBy (leastOf A.1 A.2) by_), lset (upBy (leastOf B.1 B.2) by_)]) s9.fh (EvN.ev (xLcL (en_lcL [(List.replicate by_ false ++ (leastOf A.1 A.2).1, (leastOf A.1 A.2).2), (List.replicate by_ false ++ (leastOf B.1 B.2).1, (leastOf B.1 B.2).2)] lset (fun u => lset (leastOf u.1 u.2)) (fun _ => true) (fun u => Nm2 K 18 19 (lB u.1) (lB u.2)) (ev_var rfl r6) (by simp) (fun _ _ => tg_nm2) ?_ (fun _ _ _ _ _ _ _ => et_yes) ?_))) fun F10 H10 u7 s10 r7 => ?_
  · rintro u _ F1 _ ⟨a, b, _, _, rfl⟩; rfl
  · rintro u hu _ F1 H1 _ s1 ⟨a, b, ra, rb, rfl⟩
    have hu2 : u.2 ≠ [] ∧ u.2.length ≤ 1000 := by
      rcases List.mem_cons.mp hu with rfl | hu
      · exact ⟨lA.2.2, by have := lA.2.1; simp only; omega⟩
      · rw [List.mem_singleton.mp hu]; exact ⟨lB'.2.2, by have := lB'.2.1; simp only; omega⟩
    exact ev_law_mleast_set (ea_cons (ev_var rfl ra) (ea_cons (ev_var rfl rb) ea_nil)) hu2
  have s810 := s9.trans s10
  have s710 := s8.trans s810.up
  exact rd_last (A := A) (B := B) (num := num) (k := by_) (d1 := d1) (d2 := d2) s10.fh hf hby hd1 hd2 r7 (y9.mono (s7.trans s710).ff) (y10.mono (s7.trans s710).ff) (y11.mono (s7.trans s710).ff) (r15.mono s810.ff) fun F' H' σ' s' h' => hD F' H' σ' (((s1.trans s26.up).trans s7).trans (s710.trans s'.up)) ((st8.pure (s810.trans s')).le (by omega)) h'
end
end Sf

namespace Sf
open PySem L2 RZ
/-! evaluation, construct by construct -/
local macro_rules | `(tactic| walk_at "rp") => `(tactic| first | assumption | exact .int _ | exact .bl _ | exact .str _ | exact .non | exact Rp.mono (Sx.ff (by assumption)) (by walk_at "rp"))
local macro_rules | `(tactic| walk_at "sc") => `(tactic| first | rfl | assumption | omega | decide | (simp; done) | (simp; omega))
local macro_rules | `(tactic| walk_at "ix") => `(tactic| first | rfl | assumption)
local macro_rules | `(tactic| walk_at "rv") => `(tactic| first
  | exact xAddI | exact xSub | exact xLt | exact xLe | exact xGt | exact xGe | exact xIsN | exact xNotN | exact xEqI | exact xNeI | exact xEqB | exact xNeB | exact xEqLB | exact xEqTB | exact xNeTB
  | exact xMod (by walk_at "sc")
  | exact xDiv (by walk_at "sc")
  | exact xPow (by walk_at "sc")
  | exact xMulI (by walk_at "sc")
  | exact rv_ixt (by walk_at "ix")
  | exact rv_ixl (by walk_at "ix")
  | exact xAddL (by walk_at "sc")
  | exact xAddT (by walk_at "sc"))
local macro_rules | `(tactic| walk_at "rc") => `(tactic| first | exact xLenL | exact xLenT | exact xListL | exact xListT | exact xTupL | exact xTupT | exact xMax2 | exact xInt | exact rc_all | exact rc_any)
local macro_rules | `(tactic| walk_at "ea") => `(tactic| first | exact ea_nil | refine ea_cons (by walk_at "ev") (by walk_at "ea"))
local macro_rules | `(tactic| walk_at "eo") => `(tactic| first | exact eo_none | refine eo_some (by walk_at "ev"))
local macro_rules | `(tactic| walk_at "et") => `(tactic| first
  | ((with_reducible show EvT _ _ (tTest _) _ _ _ _); exact et_test (by walk_at "ev"))
  | ((with_reducible show EvT _ _ (tNot _) _ _ _ _); exact et_not (by walk_at "et"))
  | ((with_reducible show EvT _ _ (tAnd _ _) _ _ _ _); exact et_and (by walk_at "et") (fun hh => by walk_at "et"))
  | ((with_reducible show EvT _ _ (tOr _ _) _ _ _ _); exact et_or (by walk_at "et") (fun hh => by walk_at "et"))
  | ((with_reducible show EvT _ _ (tTru _ _) _ _ _ _); exact xTru (by walk_at "ev") (by walk_at "sc"))
  | ((with_reducible show EvT _ _ tYes _ _ _ _); exact et_yes))
local macro_rules | `(tactic| walk_at "ev") => `(tactic| first
  | ((with_reducible show EvD _ _ (tC _) _ _ _ _); first | exact ev_int | exact ev_bl | exact ev_str | exact ev_non)
  | ((with_reducible show EvD _ _ (tVar _) _ _ _ _); exact ev_var (by rfl) (by walk_at "rp"))
  | ((with_reducible show EvD _ _ (tOp _ _ _) _ _ _ _); exact ev_op (by walk_at "ev") (by walk_at "ev") (by walk_at "rv"))
  | ((with_reducible show EvD _ _ (tUn _ _) _ _ _ _); exact ev_un (by walk_at "ev") xNeg)
  | ((with_reducible show EvD _ _ (tCB _ _) _ _ _ _); exact ev_cb (by walk_at "ea") (by walk_at "rc"))
  | ((with_reducible show EvD _ _ (tTup _) _ _ _ _); exact ev_tup (by walk_at "ea") (by walk_at "sc"))
  | ((with_reducible show EvD _ _ (tLst _) _ _ _ _); exact ev_lst (by walk_at "ea") (by walk_at "sc"))
  | ((with_reducible show EvD _ _ (tSl _ _ _ _) _ _ _ _); first | exact xSlL (by walk_at "ev") (by walk_at "eo") (by walk_at "eo") | exact xSlT (by walk_at "ev") (by walk_at "eo") (by walk_at "eo"))
  | ((with_reducible show EvD _ _ (tNotT _ _) _ _ _ _); exact ev_notT (by walk_at "ev") (by walk_at "sc"))
  | ((with_reducible show EvD _ _ (tAndT _ _ _) _ _ _ _); exact ev_andB (by walk_at "ev") (fun hh => by walk_at "ev"))
  | ((with_reducible show EvD _ _ (tOrT _ _ _) _ _ _ _); exact ev_orB (by walk_at "ev") (fun hh => by walk_at "ev")))

local macro_rules | `(tactic| walk_at "ev") => `(tactic| ((with_reducible show EvD _ _ (tCall (sp_is_row _) _ _ _) _ _ _ _); exact ev_is_row (by walk_at "ea")))
local macro_rules | `(tactic| walk_at "ev") => `(tactic| ((with_reducible show EvD _ _ (tCall (sp_is_number _) _ _ _) _ _ _ _); exact ev_is_number (by walk_at "ea")))
local macro_rules | `(tactic| walk_at "ev") => `(tactic| ((with_reducible show EvD _ _ (tCall (sp_is_truths _) _ _ _) _ _ _ _); exact ev_is_truths (by walk_at "ea") (by walk_at "sc")))
local macro_rules | `(tactic| walk_at "ev") => `(tactic| ((with_reducible show EvD _ _ (tCall (sp_round_size _) _ _ _) _ _ _ _); exact ev_round_size (by walk_at "ea") (by walk_at "sc")))
local macro_rules | `(tactic| walk_at "ev") => `(tactic| ((with_reducible show EvD _ _ (tCall (sp_in_set _) _ _ _) _ _ _ _); exact ev_in_set (by walk_at "ea") (by walk_at "sc")))
local macro_rules | `(tactic| walk_at "ev") => `(tactic| ((with_reducible show EvD _ _ (tCall (sp_common_round _) _ _ _) _ _ _ _); exact ev_common_round (by walk_at "ea") (by walk_at "sc")))
local macro_rules | `(tactic| walk_at "ev") => `(tactic| ((with_reducible show EvD _ _ (tCall (sp_least_of _) _ _ _) _ _ _ _); exact ev_least_of (by walk_at "ea") (by walk_at "sc")))
local macro_rules | `(tactic| walk_at "ev") => `(tactic| ((with_reducible show EvD _ _ (tCall (sp_set_in _) _ _ _) _ _ _ _); exact ev_set_in (by walk_at "ea") (by walk_at "sc")))
local macro_rules | `(tactic| walk_at "ev") => `(tactic| ((with_reducible show EvD _ _ (tCall (sp_need_set _) _ _ _) _ _ _ _); exact ev_need_set (by walk_at "ea") (by walk_at "sc")))
local macro_rules | `(tactic| walk_at "ev") => `(tactic| ((with_reducible show EvD _ _ (tCall (sp_need_sets _) _ _ _) _ _ _ _); exact ev_need_sets (by walk_at "ea") (by walk_at "sc")))
local macro_rules | `(tactic| walk_at "ev") => `(tactic| ((with_reducible show EvD _ _ (tCall (sp_told_set _) _ _ _) _ _ _ _); exact ev_told_set (by walk_at "ea") (by walk_at "sc")))
local macro_rules | `(tactic| walk_at "ev") => `(tactic| ((with_reducible show EvD _ _ (tCall (sp_set_by _) _ _ _) _ _ _ _); exact ev_set_by (by walk_at "ea") (by walk_at "sc")))
local macro_rules | `(tactic| walk_at "ev") => `(tactic| ((with_reducible show EvD _ _ (tCall (sp_first_of _) _ _ _) _ _ _ _); exact ev_first_of (by walk_at "ea") (by walk_at "sc")))
local macro_rules | `(tactic| walk_at "ev") => `(tactic| ((with_reducible show EvD _ _ (tCall (sp_has_number _) _ _ _) _ _ _ _); exact ev_has_number (by walk_at "ea") (by walk_at "sc")))
local macro_rules | `(tactic| walk_at "ev") => `(tactic| ((with_reducible show EvD _ _ (tCall (sp_numbers_below _) _ _ _) _ _ _ _); exact ev_numbers_below (by walk_at "ea") (by walk_at "sc")))
local macro_rules | `(tactic| walk_at "ev") => `(tactic| ((with_reducible show EvD _ _ (tCall (sp_is_within _) _ _ _) _ _ _ _); exact ev_is_within (by walk_at "ea") (by walk_at "sc")))
local macro_rules | `(tactic| walk_at "ev") => `(tactic| ((with_reducible show EvD _ _ (tCall (sp_first_number _) _ _ _) _ _ _ _); exact ev_first_number (by walk_at "ea") (by walk_at "sc")))
local macro_rules | `(tactic| walk_at "ev") => `(tactic| ((with_reducible show EvD _ _ (tCall (sp_first_apart _) _ _ _) _ _ _ _); exact ev_first_apart (by walk_at "ea") (by walk_at "sc")))
local macro_rules | `(tactic| walk_at "ev") => `(tactic| ((with_reducible show EvD _ _ (tCall (sp_need_by _) _ _ _) _ _ _ _); exact ev_need_by (by walk_at "ea") (by walk_at "sc")))
local macro_rules | `(tactic| walk_at "ev") => `(tactic| ((with_reducible show EvD _ _ (tCall (sp_up_by _) _ _ _) _ _ _ _); exact ev_up_by (by walk_at "ea") (by walk_at "sc")))
local macro_rules | `(tactic| walk_at "ev") => `(tactic| ((with_reducible show EvD _ _ (tCall (sp_down_by _) _ _ _) _ _ _ _); exact ev_down_by (by walk_at "ea") (by walk_at "sc")))
local macro_rules | `(tactic| walk_at "ev") => `(tactic| ((with_reducible show EvD _ _ (tCall (sp_shifted_up _) _ _ _) _ _ _ _); exact ev_shifted_up (by walk_at "ea") (by walk_at "sc")))
local macro_rules | `(tactic| walk_at "ev") => `(tactic| ((with_reducible show EvD _ _ (tCall (sp_shifted_down _) _ _ _) _ _ _ _); exact ev_shifted_down (by walk_at "ea") (by walk_at "sc")))
local macro_rules | `(tactic| walk_at "ev") => `(tactic| ((with_reducible show EvD _ _ (tCall (sp_law_min _) _ _ _) _ _ _ _); exact ev_law_min (by walk_at "ea") (by walk_at "sc")))
local macro_rules | `(tactic| walk_at "ev") => `(tactic| ((with_reducible show EvD _ _ (tCall (sp_law_mleast_set _) _ _ _) _ _ _ _); exact ev_law_mleast_set (by walk_at "ea") (by walk_at "sc")))
section
variable {K : PySem.W.Frag} {F H F' H' F1 H1 F2 H2 : Hp} {M : List Addr} {σ : L2.St} {te ta tb tc tl : TE} {tt tu : TT} {d x y z : PyData} {D : Ends} {tw tz : TS} {p q : Addr} {c c' : Nat} {Px Py : PyData → Prop}
theorem es_vfar {i : Nat} {E : XK} (h : σ[i]? = some (some (.ref p))) : EvS K p q (tCall (sp_law_vfar_sets K) [] E (tCons (tVar i) (tCons (tC (.bl false)) tNil))) σ F H 6 (fun d => ∃ x y, d = .tuple [x, y] ∧ ∃ A B num, Far A B num ∧ x = .list [lset A, lset B] ∧ y = optD num) := fun F1 H1 n s st hn Q k =>
  ⟨.ref p, h, p, q, n, F1, rfl, s.fh, st, hn, fun F' H' v A B num s3 st3 hf rv => k F' H' _ _ s3 st3 ⟨_, _, rfl, A, B, num, hf, rfl, rfl⟩ rv⟩
theorem rd_body {va : V} {w2 w3 w4 w5 w6 w7 w8 w9 w10 w11 w12 w13 w14 w15 w16 w17 w18 w19 : Option V} {n : Nat} (e : Same F H) (st : Stm F H p q n) (hn : n + 100 ≤ 1000000000)
    (hD : ∀ F' H' σ', Sx [p, q] F H F' H' → Stm F' H' p q (n + 100) → Sh va (.ref p) σ' → D.nx σ' H') : t_law_body K D [some va, some (.ref p), w2, w3, w4, w5, w6, w7, w8, w9, w10, w11, w12, w13, w14, w15, w16, w17, w18, w19] H := by
  refine qs_asg2 (K := K) (i := 8) (j := 9) e st (es_vfar rfl) (by omega) fun F1 H1 u8 u9 x y s1 st1 ⟨A, B, num, hf, hx, hy⟩ r8 r9 => ?_
  subst hx hy
  refine qs_if (K := K) s1.fh st1 (est_tru (Pb := fun _ => True) ((es_chance (m := 3) rfl ev_int (by decide) (by decide)).weak (Nat.le_refl _) fun d ⟨b, hd⟩ => ⟨b, by rw [hd]; rfl, trivial⟩)) (by omega) (fun _ F2 H2 s2 st2 => ?_) (fun _ F2 H2 s2 st2 => ?_)
  · have q8 := r8.mono s2.ff
    refine st_asg (K := K) (M := []) (d := .tuple [.list [lset A, lset A], optD none]) tg_nm2 s2.fh (ev_tup (ea_cons (ev_lst (ea_cons (ev_op (ev_var rfl q8) ev_int (rv_ixl rfl)) (ea_cons (ev_op (ev_var rfl q8) ev_int (rv_ixl rfl)) ea_nil)) (by simp)) (ea_cons ev_non ea_nil)) (by simp)) fun F3 H3 σ3 s3 ⟨v, w, rv, rw, hσ⟩ => ?_
    subst hσ
    exact rd_rest (A := A) (B := A) (num := none) s3.fh (st2.pure s3) ⟨hf.1, hf.1, fun k => by show (inSet A k && !inSet A k) = false; cases inSet A k <;> rfl⟩ (by omega) rv rw fun F' H' σ' s' st' h' => hD F' H' σ' (((s1.trans s2).trans s3.up).trans s') (st'.le (by omega)) h'
  · exact rd_rest (A := A) (B := B) (num := num) s2.fh st2 hf (by omega) (r8.mono s2.ff) (r9.mono s2.ff) fun F' H' σ' s' st' h' => hD F' H' σ' ((s1.trans s2).trans s') (st'.le (by omega)) h'
theorem qs_forR1 {tv : TS} {ta : TA} {j n : Nat} {m : Int} (I : Nat → L2.St → Hp → Hp → Prop) (e : Same F H) (h : EvA K M ta σ F H [.int m]) (hm : m = (n : Int)) (hz : n ≤ 1000000) (h0 : ∀ F1 H1, Sx [] F H F1 H1 → I 0 σ F1 H1)
    (hs : ∀ i σ' F' H', i < n → Sx M F H F' H' → I i σ' F' H' → tw { D with nx := fun σ2 H2 => ∃ F2, Sx M F H F2 H2 ∧ I (i + 1) σ2 F2 H2, ct := fun σ2 H2 => ∃ F2, Sx M F H F2 H2 ∧ I (i + 1) σ2 F2 H2, bk := tv D } (σ'.set j (some (.int (i : Int)))) H')
    (hd : ∀ σ' F' H', Sx M F H F' H' → I n σ' F' H' → tv D σ' H') : tSeq (tFor (iRng1 ta) (gName j) tw) tv D σ H :=
  h F H (Sx.refl e) _ fun F1 H1 vs s rs => by
    obtain ⟨_, rfl, h1⟩ := rs.inv1
    cases h1.int_of; subst hm
    refine ⟨_, rfl, by omega, by omega, for_range (lo := 0) (n := (n : Int).toNat) (fun i σ2 H2 => ∃ F2, Sx M F H F2 H2 ∧ I i σ2 F2 H2) ⟨F1, s.up, h0 F1 H1 s⟩ (fun i σ' H' hi ⟨F', s', hI⟩ => ?_) (fun σ' H' ⟨F', s', hI⟩ => hd σ' F' H' s' (by simpa using hI))⟩
    have e0 : (0 : Int) + (i : Int) = (i : Int) := Int.zero_add _
    show tw _ (σ'.set j (some (.int ((0 : Int) + (i : Int))))) H'
    rw [e0]
    exact hs i σ' F' H' (by simpa using hi) s' hI
def sp_law (K : PySem.W.Frag) : Sp := fun vs H Q _ => ∃ (a : Addr) (ns : List Int), vs = [.ref a] ∧ SqL K H a (ns.map .int) ∧ ∀ H', Q (.bl true) H'
theorem len_law {vs : List V} {Q : VK} {E : XK} (h : sp_law K vs H Q E) : vs.length = ["script"].length := by
  obtain ⟨a, ns, rfl, _⟩ := h
  rfl
theorem rd_law {vs : List V} {Q : VK} {E : XK} (h : sp_law K vs H Q E) : t_law K { nx := fun _ H' => Q .non H', rt := Q } (L2.start N_law vs) H := by
  obtain ⟨a, ns, rfl, hs, k⟩ := h
  have e0 : Same (fun _ => none) H := fun l o h => by cases h
  refine ⟨.ref a, rfl, a, ns, fun _ => none, rfl, e0, hs, fun H' p q s n1 n2 st => ?_⟩
  refine qs_forR1 (K := K) (M := [p, q]) (F := fun _ => none) (n := 6) (m := 6) (fun i σ' F' H' => Stm F' H' p q (100 * i) ∧ Sh (.ref a) (.ref p) σ') s.fh (ea_cons ev_int ea_nil) rfl (by decide) (fun F1 H1 s1 => ?_) (fun i σ' F' H' hi s' ⟨st', h'⟩ => ?_) (fun σ' F' H' s' ⟨st', h'⟩ => ?_)
  · exact ⟨st.pure s1, ⟨_, _, _, _, _, _, _, _, _, _, _, _, _, _, _, _, _, _, rfl⟩⟩
  · obtain ⟨w2, w3, w4, w5, w6, w7, w8, w9, w10, w11, w12, w13, w14, w15, w16, w17, w18, w19, rfl⟩ := h'
    exact rd_body s'.fh st' (by omega) fun F2 H2 σ2 s2 st2 h2 => ⟨F2, s'.trans s2, st2.le (by omega), h2⟩
  · exact st_ret (K := K) (M := []) (d := .bool true) s'.fh ev_bl fun F2 H2 v s2 rv => by cases rv.bl_of; exact k H2
end
end Sf

set_option maxHeartbeats 4000000
namespace K9
open PySem L2
def topS (i : Nat) : Stmt := PySem.Challenge.pw_swornfilters_k09_whole_sets_far_out.main.body.getD i (.Pass ⟨0, 0, 0, 0⟩)
abbrev s_is_row : Stmt := topS 9
theorem sc_is_row : FnScope ["thing"] ["thing"] (defScope s_is_row) := ⟨rfl, rfl, rfl, by decide +kernel, rfl, by decide +kernel, by decide +kernel⟩
abbrev s_is_number : Stmt := topS 10
theorem sc_is_number : FnScope ["thing", "low", "high"] ["thing", "low", "high"] (defScope s_is_number) := ⟨rfl, rfl, rfl, by decide +kernel, rfl, by decide +kernel, by decide +kernel⟩
abbrev s_is_truths : Stmt := topS 13
theorem sc_is_truths : FnScope ["thing", "one"] ["thing"] (defScope s_is_truths) := ⟨rfl, rfl, rfl, by decide +kernel, rfl, by decide +kernel, by decide +kernel⟩
abbrev s_round_size : Stmt := topS 14
theorem sc_round_size : FnScope ["ring", "size"] ["ring"] (defScope s_round_size) := ⟨rfl, rfl, rfl, by decide +kernel, rfl, by decide +kernel, by decide +kernel⟩
abbrev s_least_of : Stmt := topS 15
theorem sc_least_of : FnScope ["few", "ring"] ["few", "ring"] (defScope s_least_of) := ⟨rfl, rfl, rfl, by decide +kernel, rfl, by decide +kernel, by decide +kernel⟩
abbrev s_set_in : Stmt := topS 16
theorem sc_set_in : FnScope ["thing"] ["thing"] (defScope s_set_in) := ⟨rfl, rfl, rfl, by decide +kernel, rfl, by decide +kernel, by decide +kernel⟩
abbrev s_need_set : Stmt := topS 17
theorem sc_need_set : FnScope ["numbers", "plain"] ["numbers"] (defScope s_need_set) := ⟨rfl, rfl, rfl, by decide +kernel, rfl, by decide +kernel, by decide +kernel⟩
abbrev s_need_sets : Stmt := topS 18
theorem sc_need_sets : FnScope ["numbers", "other", "plain", "second"] ["numbers", "other"] (defScope s_need_sets) := ⟨rfl, rfl, rfl, by decide +kernel, rfl, by decide +kernel, by decide +kernel⟩
abbrev s_told_set : Stmt := topS 19
theorem sc_told_set : FnScope ["plain", "many"] ["plain"] (defScope s_told_set) := ⟨rfl, rfl, rfl, by decide +kernel, rfl, by decide +kernel, by decide +kernel⟩
abbrev s_in_set : Stmt := topS 20
theorem sc_in_set : FnScope ["plain", "number", "few", "ring"] ["plain", "number"] (defScope s_in_set) := ⟨rfl, rfl, rfl, by decide +kernel, rfl, by decide +kernel, by decide +kernel⟩
abbrev s_common_round : Stmt := topS 21
theorem sc_common_round : FnScope ["one", "two", "size"] ["one", "two"] (defScope s_common_round) := ⟨rfl, rfl, rfl, by decide +kernel, rfl, by decide +kernel, by decide +kernel⟩
abbrev s_set_by : Stmt := topS 22
theorem sc_set_by : FnScope ["one", "two", "truths", "row", "begin", "size", "number"] ["one", "two", "truths"] (defScope s_set_by) := ⟨rfl, rfl, rfl, by decide +kernel, rfl, by decide +kernel, by decide +kernel⟩
abbrev s_first_of : Stmt := topS 23
theorem sc_first_of : FnScope ["plain", "row", "number"] ["plain"] (defScope s_first_of) := ⟨rfl, rfl, rfl, by decide +kernel, rfl, by decide +kernel, by decide +kernel⟩
abbrev s_has_number : Stmt := topS 24
theorem sc_has_number : FnScope ["numbers", "number", "plain"] ["numbers", "number"] (defScope s_has_number) := ⟨rfl, rfl, rfl, by decide +kernel, rfl, by decide +kernel, by decide +kernel⟩
abbrev s_numbers_below : Stmt := topS 25
theorem sc_numbers_below : FnScope ["numbers", "many", "plain", "number"] ["numbers", "many"] (defScope s_numbers_below) := ⟨rfl, rfl, rfl, by decide +kernel, rfl, by decide +kernel, by decide +kernel⟩
abbrev s_is_within : Stmt := topS 26
theorem sc_is_within : FnScope ["numbers", "other", "one", "two"] ["numbers", "other"] (defScope s_is_within) := ⟨rfl, rfl, rfl, by decide +kernel, rfl, by decide +kernel, by decide +kernel⟩
abbrev s_first_number : Stmt := topS 27
theorem sc_first_number : FnScope ["numbers"] ["numbers"] (defScope s_first_number) := ⟨rfl, rfl, rfl, by decide +kernel, rfl, by decide +kernel, by decide +kernel⟩
abbrev s_first_apart : Stmt := topS 28
theorem sc_first_apart : FnScope ["numbers", "other", "one", "two"] ["numbers", "other"] (defScope s_first_apart) := ⟨rfl, rfl, rfl, by decide +kernel, rfl, by decide +kernel, by decide +kernel⟩
abbrev s_need_by : Stmt := topS 30
theorem sc_need_by : FnScope ["by"] ["by"] (defScope s_need_by) := ⟨rfl, rfl, rfl, by decide +kernel, rfl, by decide +kernel, by decide +kernel⟩
abbrev s_up_by : Stmt := topS 31
theorem sc_up_by : FnScope ["plain", "by"] ["plain", "by"] (defScope s_up_by) := ⟨rfl, rfl, rfl, by decide +kernel, rfl, by decide +kernel, by decide +kernel⟩
abbrev s_down_by : Stmt := topS 32
theorem sc_down_by : FnScope ["plain", "by", "row", "begin", "size", "number"] ["plain", "by"] (defScope s_down_by) := ⟨rfl, rfl, rfl, by decide +kernel, rfl, by decide +kernel, by decide +kernel⟩
abbrev s_shifted_up : Stmt := topS 33
theorem sc_shifted_up : FnScope ["numbers", "by", "plain"] ["numbers", "by"] (defScope s_shifted_up) := ⟨rfl, rfl, rfl, by decide +kernel, rfl, by decide +kernel, by decide +kernel⟩
abbrev s_shifted_down : Stmt := topS 34
theorem sc_shifted_down : FnScope ["numbers", "by", "plain"] ["numbers", "by"] (defScope s_shifted_down) := ⟨rfl, rfl, rfl, by decide +kernel, rfl, by decide +kernel, by decide +kernel⟩
abbrev s_law_mleast_set : Stmt := topS 36
theorem sc_law_mleast_set : FnScope ["few", "ring", "size", "many"] ["few", "ring"] (defScope s_law_mleast_set) := ⟨rfl, rfl, rfl, by decide +kernel, rfl, by decide +kernel, by decide +kernel⟩
abbrev s_law_min : Stmt := topS 37
theorem sc_law_min : FnScope ["numbers", "number", "few", "ring"] ["numbers", "number"] (defScope s_law_min) := ⟨rfl, rfl, rfl, by decide +kernel, rfl, by decide +kernel, by decide +kernel⟩
abbrev s_law_start : Stmt := topS 38
theorem sc_law_start : FnScope ["script"] ["script"] (defScope s_law_start) := ⟨rfl, rfl, rfl, by decide +kernel, rfl, by decide +kernel, by decide +kernel⟩
abbrev s_law_below : Stmt := topS 39
theorem sc_law_below : FnScope ["stream", "many", "mixed", "cell", "digit"] ["stream", "many"] (defScope s_law_below) := ⟨rfl, rfl, rfl, by decide +kernel, rfl, by decide +kernel, by decide +kernel⟩
abbrev s_law_chance : Stmt := topS 40
theorem sc_law_chance : FnScope ["stream", "many"] ["stream", "many"] (defScope s_law_chance) := ⟨rfl, rfl, rfl, by decide +kernel, rfl, by decide +kernel, by decide +kernel⟩
abbrev s_law_mixed : Stmt := topS 41
theorem sc_law_mixed : FnScope ["stream", "some", "left", "k"] ["stream", "some"] (defScope s_law_mixed) := ⟨rfl, rfl, rfl, by decide +kernel, rfl, by decide +kernel, by decide +kernel⟩
abbrev s_law_same : Stmt := topS 42
theorem sc_law_same : FnScope ["found", "due", "x", "y"] ["found", "due"] (defScope s_law_same) := ⟨rfl, rfl, rfl, by decide +kernel, rfl, by decide +kernel, by decide +kernel⟩
abbrev s_law_loose : Stmt := topS 43
theorem sc_law_loose : FnScope ["stream", "thing", "found", "part", "key"] ["stream", "thing"] (defScope s_law_loose) := ⟨rfl, rfl, rfl, by decide +kernel, rfl, by decide +kernel, by decide +kernel⟩
abbrev s_law_vfar_sets : Stmt := topS 44
theorem sc_law_vfar_sets : FnScope ["stream", "first", "sets", "one", "two", "here", "there", "few", "more", "number", "most", "at"] ["stream", "first"] (defScope s_law_vfar_sets) := ⟨rfl, rfl, rfl, by decide +kernel, rfl, by decide +kernel, by decide +kernel⟩
abbrev s_law : Stmt := topS 45
theorem sc_law : FnScope ["script", "stream", "turn", "apart", "found", "far", "up", "ups", "sets", "number", "one", "two", "here", "first", "by", "plain", "moved", "at", "few", "ring"] ["script"] (defScope s_law) := ⟨rfl, rfl, rfl, by decide +kernel, rfl, by decide +kernel, by decide +kernel⟩
/-- what the top has left -/
structure Txt (K : PySem.W.Frag) (mg : Str → Option Value) where
  a_is_row : Addr
  d_is_row : FuncData
  F_is_row : Fun K "is_row" "is_row" s_is_row a_is_row d_is_row
  g_is_row : mg "is_row" = some (.ref a_is_row)
  b_is_row : Binds K d_is_row ["thing"] []
  a_is_number : Addr
  d_is_number : FuncData
  F_is_number : Fun K "is_number" "is_number" s_is_number a_is_number d_is_number
  g_is_number : mg "is_number" = some (.ref a_is_number)
  b_is_number : Binds K d_is_number ["thing", "low", "high"] []
  a_is_truths : Addr
  d_is_truths : FuncData
  F_is_truths : Fun K "is_truths" "is_truths" s_is_truths a_is_truths d_is_truths
  g_is_truths : mg "is_truths" = some (.ref a_is_truths)
  b_is_truths : Binds K d_is_truths ["thing"] []
  a_round_size : Addr
  d_round_size : FuncData
  F_round_size : Fun K "round_size" "round_size" s_round_size a_round_size d_round_size
  g_round_size : mg "round_size" = some (.ref a_round_size)
  b_round_size : Binds K d_round_size ["ring"] []
  a_least_of : Addr
  d_least_of : FuncData
  F_least_of : Fun K "least_of" "least_of" s_least_of a_least_of d_least_of
  g_least_of : mg "least_of" = some (.ref a_least_of)
  b_least_of : Binds K d_least_of ["few", "ring"] []
  a_set_in : Addr
  d_set_in : FuncData
  F_set_in : Fun K "set_in" "set_in" s_set_in a_set_in d_set_in
  g_set_in : mg "set_in" = some (.ref a_set_in)
  b_set_in : Binds K d_set_in ["thing"] []
  a_need_set : Addr
  d_need_set : FuncData
  F_need_set : Fun K "need_set" "need_set" s_need_set a_need_set d_need_set
  g_need_set : mg "need_set" = some (.ref a_need_set)
  b_need_set : Binds K d_need_set ["numbers"] []
  a_need_sets : Addr
  d_need_sets : FuncData
  F_need_sets : Fun K "need_sets" "need_sets" s_need_sets a_need_sets d_need_sets
  g_need_sets : mg "need_sets" = some (.ref a_need_sets)
  b_need_sets : Binds K d_need_sets ["numbers", "other"] []
  a_told_set : Addr
  d_told_set : FuncData
  F_told_set : Fun K "told_set" "told_set" s_told_set a_told_set d_told_set
  g_told_set : mg "told_set" = some (.ref a_told_set)
  b_told_set : Binds K d_told_set ["plain"] []
  a_in_set : Addr
  d_in_set : FuncData
  F_in_set : Fun K "in_set" "in_set" s_in_set a_in_set d_in_set
  g_in_set : mg "in_set" = some (.ref a_in_set)
  b_in_set : Binds K d_in_set ["plain", "number"] []
  a_common_round : Addr
  d_common_round : FuncData
  F_common_round : Fun K "common_round" "common_round" s_common_round a_common_round d_common_round
  g_common_round : mg "common_round" = some (.ref a_common_round)
  b_common_round : Binds K d_common_round ["one", "two"] []
  a_set_by : Addr
  d_set_by : FuncData
  F_set_by : Fun K "set_by" "set_by" s_set_by a_set_by d_set_by
  g_set_by : mg "set_by" = some (.ref a_set_by)
  b_set_by : Binds K d_set_by ["one", "two", "truths"] []
  a_first_of : Addr
  d_first_of : FuncData
  F_first_of : Fun K "first_of" "first_of" s_first_of a_first_of d_first_of
  g_first_of : mg "first_of" = some (.ref a_first_of)
  b_first_of : Binds K d_first_of ["plain"] []
  a_has_number : Addr
  d_has_number : FuncData
  F_has_number : Fun K "has_number" "has_number" s_has_number a_has_number d_has_number
  g_has_number : mg "has_number" = some (.ref a_has_number)
  b_has_number : Binds K d_has_number ["numbers", "number"] []
  a_numbers_below : Addr
  d_numbers_below : FuncData
  F_numbers_below : Fun K "numbers_below" "numbers_below" s_numbers_below a_numbers_below d_numbers_below
  g_numbers_below : mg "numbers_below" = some (.ref a_numbers_below)
  b_numbers_below : Binds K d_numbers_below ["numbers", "many"] []
  a_is_within : Addr
  d_is_within : FuncData
  F_is_within : Fun K "is_within" "is_within" s_is_within a_is_within d_is_within
  g_is_within : mg "is_within" = some (.ref a_is_within)
  b_is_within : Binds K d_is_within ["numbers", "other"] []
  a_first_number : Addr
  d_first_number : FuncData
  F_first_number : Fun K "first_number" "first_number" s_first_number a_first_number d_first_number
  g_first_number : mg "first_number" = some (.ref a_first_number)
  b_first_number : Binds K d_first_number ["numbers"] []
  a_first_apart : Addr
  d_first_apart : FuncData
  F_first_apart : Fun K "first_apart" "first_apart" s_first_apart a_first_apart d_first_apart
  g_first_apart : mg "first_apart" = some (.ref a_first_apart)
  b_first_apart : Binds K d_first_apart ["numbers", "other"] []
  a_need_by : Addr
  d_need_by : FuncData
  F_need_by : Fun K "need_by" "need_by" s_need_by a_need_by d_need_by
  g_need_by : mg "need_by" = some (.ref a_need_by)
  b_need_by : Binds K d_need_by ["by"] []
  a_up_by : Addr
  d_up_by : FuncData
  F_up_by : Fun K "up_by" "up_by" s_up_by a_up_by d_up_by
  g_up_by : mg "up_by" = some (.ref a_up_by)
  b_up_by : Binds K d_up_by ["plain", "by"] []
  a_down_by : Addr
  d_down_by : FuncData
  F_down_by : Fun K "down_by" "down_by" s_down_by a_down_by d_down_by
  g_down_by : mg "down_by" = some (.ref a_down_by)
  b_down_by : Binds K d_down_by ["plain", "by"] []
  a_shifted_up : Addr
  d_shifted_up : FuncData
  F_shifted_up : Fun K "shifted_up" "shifted_up" s_shifted_up a_shifted_up d_shifted_up
  g_shifted_up : mg "shifted_up" = some (.ref a_shifted_up)
  b_shifted_up : Binds K d_shifted_up ["numbers", "by"] []
  a_shifted_down : Addr
  d_shifted_down : FuncData
  F_shifted_down : Fun K "shifted_down" "shifted_down" s_shifted_down a_shifted_down d_shifted_down
  g_shifted_down : mg "shifted_down" = some (.ref a_shifted_down)
  b_shifted_down : Binds K d_shifted_down ["numbers", "by"] []
  a_law_mleast_set : Addr
  d_law_mleast_set : FuncData
  F_law_mleast_set : Fun K "_law_mleast_set" "_law_mleast_set" s_law_mleast_set a_law_mleast_set d_law_mleast_set
  g_law_mleast_set : mg "_law_mleast_set" = some (.ref a_law_mleast_set)
  b_law_mleast_set : Binds K d_law_mleast_set ["few", "ring"] []
  a_law_min : Addr
  d_law_min : FuncData
  F_law_min : Fun K "_law_min" "_law_min" s_law_min a_law_min d_law_min
  g_law_min : mg "_law_min" = some (.ref a_law_min)
  b_law_min : Binds K d_law_min ["numbers", "number"] []
  a_law_start : Addr
  d_law_start : FuncData
  F_law_start : Fun K "_law_start" "_law_start" s_law_start a_law_start d_law_start
  g_law_start : mg "_law_start" = some (.ref a_law_start)
  b_law_start : Binds K d_law_start ["script"] []
  a_law_below : Addr
  d_law_below : FuncData
  F_law_below : Fun K "_law_below" "_law_below" s_law_below a_law_below d_law_below
  g_law_below : mg "_law_below" = some (.ref a_law_below)
  b_law_below : Binds K d_law_below ["stream", "many"] []
  a_law_chance : Addr
  d_law_chance : FuncData
  F_law_chance : Fun K "_law_chance" "_law_chance" s_law_chance a_law_chance d_law_chance
  g_law_chance : mg "_law_chance" = some (.ref a_law_chance)
  b_law_chance : Binds K d_law_chance ["stream", "many"] []
  a_law_mixed : Addr
  d_law_mixed : FuncData
  F_law_mixed : Fun K "_law_mixed" "_law_mixed" s_law_mixed a_law_mixed d_law_mixed
  g_law_mixed : mg "_law_mixed" = some (.ref a_law_mixed)
  b_law_mixed : Binds K d_law_mixed ["stream", "some"] []
  a_law_same : Addr
  d_law_same : FuncData
  F_law_same : Fun K "_law_same" "_law_same" s_law_same a_law_same d_law_same
  g_law_same : mg "_law_same" = some (.ref a_law_same)
  b_law_same : Binds K d_law_same ["found", "due"] []
  a_law_loose : Addr
  d_law_loose : FuncData
  F_law_loose : Fun K "_law_loose" "_law_loose" s_law_loose a_law_loose d_law_loose
  g_law_loose : mg "_law_loose" = some (.ref a_law_loose)
  b_law_loose : Binds K d_law_loose ["stream", "thing"] []
  a_law_vfar_sets : Addr
  d_law_vfar_sets : FuncData
  F_law_vfar_sets : Fun K "_law_vfar_sets" "_law_vfar_sets" s_law_vfar_sets a_law_vfar_sets d_law_vfar_sets
  g_law_vfar_sets : mg "_law_vfar_sets" = some (.ref a_law_vfar_sets)
  b_law_vfar_sets : Binds K d_law_vfar_sets ["stream", "first"] []
  a_law : Addr
  d_law : FuncData
  F_law : Fun K "law" "law" s_law a_law d_law
  g_law : mg "law" = some (.ref a_law)
  b_law : Binds K d_law ["script"] []
  t_MOST : Tok
  g_MOST : mg "MOST" = some (.int 60 t_MOST)
  n_all : mg "all" = none
  n_bool : mg "bool" = none
  n_dict : mg "dict" = none
  n_int : mg "int" = none
  n_isinstance : mg "isinstance" = none
  n_len : mg "len" = none
  n_list : mg "list" = none
  n_max : mg "max" = none
  n_range : mg "range" = none
  n_str : mg "str" = none
  n_tuple : mg "tuple" = none
  n_zip : mg "zip" = none
end K9

set_option maxHeartbeats 8000000
namespace K9
open PySem L2 RZ Sf
def gKw : List Value → List Value → List Value := fun us zs => match us, zs with
  | [], [o, n] => [n, o]
  | us, zs => us ++ zs
theorem KB_is_within_other_numbers {K : PySem.W.Frag} {f : Addr} {fd : FuncData} (F : Fun K "is_within" "is_within" s_is_within f fd) : KBinds K fd ["numbers", "other"] ["other", "numbers"] gKw gV_is_within_other_numbers where
  to s us ws _ hl := by
    obtain ⟨oc, od, kV, doc, pm, an, cdv, ct, osl, rfl, lk, hcd⟩ := F.ex
    match us, ws, hl with
    | [], [a, b], _ => exact .of_eq rfl
    | [a], [b], _ => exact .of_eq rfl
    | [a, b], [], _ => exact .of_eq rfl
  rel := fun h1 h2 => by
    cases h1 with
    | nil =>
      cases h2 with
      | nil => exact .nil
      | cons a h2 =>
        cases h2 with
        | nil => exact .cons a .nil
        | cons b h2 =>
          cases h2 with
          | nil => exact .cons b (.cons a .nil)
          | cons c h2 => exact .cons a (.cons b (.cons c h2))
    | cons a h1 => exact Vals.append (Paired.cons a h1) h2
section
variable {P : Program} {w : World} {K : PySem.W.Frag} {mg : Str → Option Value} {base : Heap}
theorem ok_law_start (T : Txt K mg) : FnOk P w K mg base CX0 1 T.a_law_start T.d_law_start ["script"] (sp_law_start K) := by
  refine T.F_law_start.ok sc_law_start (fun vs H Q E h => len_law_start h) (fun cdv A outer s H vs Q E hr h => ⟨t_law_start K, (pss_one (ps_ret (pe_lst (pa_cons (pe_callTy call_list_of (by rfl) T.n_list (by decide +kernel) (pa_cons (pv 0) pa_nil)) (pa_cons pe_int (pa_cons pe_int (pa_cons pe_int pa_nil))))))), rd_law_start h⟩)
theorem ok_law_below (T : Txt K mg) : FnOk P w K mg base CX0 1 T.a_law_below T.d_law_below ["stream", "many"] (sp_law_below K) := by
  refine T.F_law_below.ok sc_law_below (fun vs H Q E h => len_law_below h) (fun cdv A outer s H vs Q E hr h => ⟨t_law_below K, (pss_cons (ps_asg (pe_op oAdd (pe_ix ix_seq (pv 0) pe_int (fun _ _ => rfl)) pe_int) (pg_sub (pv 0) pe_int set_list))
  (pss_cons (ps_while PassesOwn.never (PW.pt (pw_and (pt_cmpR (op_eqD hr.units) (pe_ix ix_seq (pv 0) pe_int (fun _ _ => rfl)) pe_int (nomark _)) (pw_and1 (pt_cmpR (op_neD hr.units) (pe_ix ix_seq (pv 0) pe_int (fun _ _ => rfl)) (pe_lst pa_nil) (nomark _)))))
   (pss_cons (ps_set (i := 3) sc_law_below.nd rfl (Or.inl rfl) (pe_bm PySem.F.plainAttrs_list PySem.F.slot_list_pop PySem.F.type_list_pop mt_popAt (pe_ix ix_seq (pv 0) pe_int (fun _ _ => rfl)) (pa_cons pe_int pa_nil)))
    (pss_cons (ps_asg (pe_op op_mod (pe_callTy call_int1 (by rfl) T.n_int (by decide +kernel) (pa_cons (pe_op oAdd (pe_op oAdd (pe_op oMul (pe_ix ix_seq (pv 0) pe_int (fun _ _ => rfl)) pe_int) (pv 3)) pe_int) pa_nil)) pe_int) (pg_sub (pv 0) pe_int set_list))
    (pss_one (ps_asg (pe_ifExp (pt_cmpR op_ge (pv 3) (pe_op op_pow pe_int pe_int) (nomark _)) (pv 3) pe_int) (pg_sub (pv 0) pe_int set_list))))))
  (pss_cons (ps_if (pt_cmpR op_gt (pe_ix ix_seq (pv 0) pe_int (fun _ _ => rfl)) pe_int (nomark _))
   (pss_cons (ps_set (i := 4) sc_law_below.nd rfl (Or.inl rfl) (pe_op op_mod (pe_callTy call_int1 (by rfl) T.n_int (by decide +kernel) (pa_cons (pe_ix ix_seq (pv 0) pe_int (fun _ _ => rfl)) pa_nil)) (pv 1)))
    (pss_cons (ps_asg (pe_op op_fdiv (pe_ix ix_seq (pv 0) pe_int (fun _ _ => rfl)) (pv 1)) (pg_sub (pv 0) pe_int set_list))
    (pss_one (ps_ret (pv 4)))))
   pss_nil)
  (pss_cons (ps_set (i := 2) sc_law_below.nd rfl (Or.inl rfl) (pe_op op_mod (pe_callTy call_int1 (by rfl) T.n_int (by decide +kernel) (pa_cons (pe_op op_pow (pe_op oAdd (pe_op oAdd (pe_ix ix_seq (pv 0) pe_int (fun _ _ => rfl)) (pe_op oMul pe_int (pe_ix ix_seq (pv 0) pe_int (fun _ _ => rfl)))) pe_int) pe_int) pa_nil)) pe_int))
  (pss_one (ps_ret (pe_op op_mod (pe_op op_mod (pe_callTy call_int1 (by rfl) T.n_int (by decide +kernel) (pa_cons (pe_op op_pow (pe_op oAdd (pe_op oAdd (pe_op oMul (pv 2) pe_int) (pe_op oMul pe_int (pe_ix ix_seq (pv 0) pe_int (fun _ _ => rfl)))) pe_int) pe_int) pa_nil)) pe_int) (pv 1)))))))), rd_law_below h⟩)
theorem ok_law_chance (T : Txt K mg) : FnOk P w K mg base CX0 2 T.a_law_chance T.d_law_chance ["stream", "many"] (sp_law_chance K) := by
  have G_law_below : FnOk P w K mg base CX0 1 T.a_law_below T.d_law_below ["stream", "many"] (sp_law_below K) := ok_law_below T
  refine T.F_law_chance.ok sc_law_chance (fun vs H Q E h => len_law_chance h) (fun cdv A outer s H vs Q E hr h => ⟨t_law_chance K, (pss_one (ps_ret (pe_cmpR (op_eqD hr.units) (pe_call G_law_below (hr.mono (by omega)) (by rfl) T.g_law_below T.F_law_below.kp T.b_law_below .nil pass0 (pa_cons (pv 0) (pa_cons (pv 1) pa_nil))) pe_int (nomark _)))), rd_law_chance h⟩)
theorem okn_law_same (T : Txt K mg) : ∀ n, FnOk P w K mg base CX0 (1 + 1 + n) T.a_law_same T.d_law_same ["found", "due"] (spn_law_same n K)
  | 0 => by
    have GR : FnOk P w K mg base CX0 1 T.a_law_same T.d_law_same ["found", "due"] (rc_law_same 0 K) := T.F_law_same.ok sc_law_same (fun _ _ _ _ h => h.elim) (fun _ _ _ _ _ _ _ _ _ h => h.elim)
    refine T.F_law_same.ok (k := 1) sc_law_same (fun vs H Q E h => len_law_same h) (fun cdv A outer s H vs Q E hr h => ⟨t_law_same K (rc_law_same 0 K), (pss_cons (ps_if (pt_truth (pe_callB call_isiT (by rfl) T.n_isinstance (by decide +kernel) (pa_cons (pv 1) (pa_cons (pe_tup (pa_cons (pe_bltn (by rfl) T.n_list (by decide +kernel) rfl) (pa_cons (pe_bltn (by rfl) T.n_tuple (by decide +kernel) rfl) pa_nil))) pa_nil))) (by intro _; rfl))
   (pss_cons (ps_if (PW.pt (pw_or (pt_cmpR (op_neD hr.units) (pe_callB call_isi (by rfl) T.n_isinstance (by decide +kernel) (pa_cons (pv 0) (pa_cons (pe_bltn (by rfl) T.n_list (by decide +kernel) rfl) pa_nil))) (pe_callB call_isi (by rfl) T.n_isinstance (by decide +kernel) (pa_cons (pv 1) (pa_cons (pe_bltn (by rfl) T.n_list (by decide +kernel) rfl) pa_nil))) (nomark _)) (pw_or1 (pt_cmpR (op_neD hr.units) (pe_callB call_isi (by rfl) T.n_isinstance (by decide +kernel) (pa_cons (pv 0) (pa_cons (pe_bltn (by rfl) T.n_tuple (by decide +kernel) rfl) pa_nil))) (pe_callB call_isi (by rfl) T.n_isinstance (by decide +kernel) (pa_cons (pv 1) (pa_cons (pe_bltn (by rfl) T.n_tuple (by decide +kernel) rfl) pa_nil))) (nomark _)))))
     (pss_one (ps_ret pe_bl))
     pss_nil)
    (pss_one (ps_ret (pe_andT (pe_cmpR (op_eqD hr.units) (pe_callB call_len (by rfl) T.n_len (by decide +kernel) (pa_cons (pv 0) pa_nil)) (pe_callB call_len (by rfl) T.n_len (by decide +kernel) (pa_cons (pv 1) pa_nil)) (nomark _)) (pe_one (pe_callB (cr_all rfl) (by rfl) T.n_all (by decide +kernel) (pa_cons (pe_lc (own := [("x", 2), ("y", 3)]) rfl sc_law_same.nd (pi_zipA (by rfl) T.n_zip (pa_cons (pv 0) (pa_cons (pv 1) pa_nil))) (blkOk_by (N := N_law_same) (sc := defScope s_law_same) (by decide +kernel)) (fun _ _ _ _ _ => (pg_tup (by rfl) (pgs_cons (pg_name (i := 2) sc_law_same.nd rfl (Or.inl rfl)) (pgs_cons (pg_name (i := 3) sc_law_same.nd rfl (Or.inl rfl)) pgs_nil)))) (fun _ _ _ _ _ => pts_nil) (fun _ _ _ _ _ => (pe_call GR (hr.mono (by omega)) (by rfl) T.g_law_same T.F_law_same.kp T.b_law_same .nil pass0 (pa_cons (pv 2) (pa_cons (pv 3) pa_nil))))) pa_nil)))))))
   pss_nil)
  (pss_cons (ps_if (pt_truth (pe_callB call_isi (by rfl) T.n_isinstance (by decide +kernel) (pa_cons (pv 1) (pa_cons (pe_bltn (by rfl) T.n_dict (by decide +kernel) rfl) pa_nil))) (by intro _; rfl))
   (pss_one ps_never)
   pss_nil)
  (pss_cons (ps_if (pt_truth (pe_callB call_isi (by rfl) T.n_isinstance (by decide +kernel) (pa_cons (pv 1) (pa_cons (pe_bltn (by rfl) T.n_int (by decide +kernel) rfl) pa_nil))) (by intro _; rfl))
   (pss_one (ps_ret (pe_andT (pe_callB call_isi (by rfl) T.n_isinstance (by decide +kernel) (pa_cons (pv 0) (pa_cons (pe_bltn (by rfl) T.n_int (by decide +kernel) rfl) pa_nil))) (pe_andT (pe_cmpR (op_eqD hr.units) (pe_callB call_isi (by rfl) T.n_isinstance (by decide +kernel) (pa_cons (pv 0) (pa_cons (pe_bltn (by rfl) T.n_bool (by decide +kernel) rfl) pa_nil))) (pe_callB call_isi (by rfl) T.n_isinstance (by decide +kernel) (pa_cons (pv 1) (pa_cons (pe_bltn (by rfl) T.n_bool (by decide +kernel) rfl) pa_nil))) (nomark _)) (pe_one (pe_cmpR (op_eqD hr.units) (pv 0) (pv 1) (nomark _)))))))
   pss_nil)
  (pss_cons (ps_if (pt_cmpR op_isN (pv 1) pe_non (nomark _))
   (pss_one (ps_ret (pe_cmpR op_isN (pv 0) pe_non (nomark _))))
   pss_nil)
  (pss_cons (ps_if (pt_truth (pe_callB call_isi (by rfl) T.n_isinstance (by decide +kernel) (pa_cons (pv 1) (pa_cons (pe_bltn (by rfl) T.n_str (by decide +kernel) rfl) pa_nil))) (by intro _; rfl))
   (pss_one (ps_ret (pe_andT (pe_callB call_isi (by rfl) T.n_isinstance (by decide +kernel) (pa_cons (pv 0) (pa_cons (pe_bltn (by rfl) T.n_str (by decide +kernel) rfl) pa_nil))) (pe_one (pe_cmpR (op_eqD hr.units) (pv 0) (pv 1) (nomark _))))))
   pss_nil)
  (pss_one ps_never)))))), rd_law_same 0 h⟩)
  | n + 1 => by
    have GR : FnOk P w K mg base CX0 (1 + 1 + n) T.a_law_same T.d_law_same ["found", "due"] (rc_law_same (n + 1) K) := okn_law_same T n
    refine T.F_law_same.ok (k := 1 + 1 + n) sc_law_same (fun vs H Q E h => len_law_same h) (fun cdv A outer s H vs Q E hr h => ⟨t_law_same K (rc_law_same (n + 1) K), (pss_cons (ps_if (pt_truth (pe_callB call_isiT (by rfl) T.n_isinstance (by decide +kernel) (pa_cons (pv 1) (pa_cons (pe_tup (pa_cons (pe_bltn (by rfl) T.n_list (by decide +kernel) rfl) (pa_cons (pe_bltn (by rfl) T.n_tuple (by decide +kernel) rfl) pa_nil))) pa_nil))) (by intro _; rfl))
   (pss_cons (ps_if (PW.pt (pw_or (pt_cmpR (op_neD hr.units) (pe_callB call_isi (by rfl) T.n_isinstance (by decide +kernel) (pa_cons (pv 0) (pa_cons (pe_bltn (by rfl) T.n_list (by decide +kernel) rfl) pa_nil))) (pe_callB call_isi (by rfl) T.n_isinstance (by decide +kernel) (pa_cons (pv 1) (pa_cons (pe_bltn (by rfl) T.n_list (by decide +kernel) rfl) pa_nil))) (nomark _)) (pw_or1 (pt_cmpR (op_neD hr.units) (pe_callB call_isi (by rfl) T.n_isinstance (by decide +kernel) (pa_cons (pv 0) (pa_cons (pe_bltn (by rfl) T.n_tuple (by decide +kernel) rfl) pa_nil))) (pe_callB call_isi (by rfl) T.n_isinstance (by decide +kernel) (pa_cons (pv 1) (pa_cons (pe_bltn (by rfl) T.n_tuple (by decide +kernel) rfl) pa_nil))) (nomark _)))))
     (pss_one (ps_ret pe_bl))
     pss_nil)
    (pss_one (ps_ret (pe_andT (pe_cmpR (op_eqD hr.units) (pe_callB call_len (by rfl) T.n_len (by decide +kernel) (pa_cons (pv 0) pa_nil)) (pe_callB call_len (by rfl) T.n_len (by decide +kernel) (pa_cons (pv 1) pa_nil)) (nomark _)) (pe_one (pe_callB (cr_all rfl) (by rfl) T.n_all (by decide +kernel) (pa_cons (pe_lc (own := [("x", 2), ("y", 3)]) rfl sc_law_same.nd (pi_zipA (by rfl) T.n_zip (pa_cons (pv 0) (pa_cons (pv 1) pa_nil))) (blkOk_by (N := N_law_same) (sc := defScope s_law_same) (by decide +kernel)) (fun _ _ _ _ _ => (pg_tup (by rfl) (pgs_cons (pg_name (i := 2) sc_law_same.nd rfl (Or.inl rfl)) (pgs_cons (pg_name (i := 3) sc_law_same.nd rfl (Or.inl rfl)) pgs_nil)))) (fun _ _ _ _ _ => pts_nil) (fun _ _ _ _ _ => (pe_call GR (hr.mono (by omega)) (by rfl) T.g_law_same T.F_law_same.kp T.b_law_same .nil pass0 (pa_cons (pv 2) (pa_cons (pv 3) pa_nil))))) pa_nil)))))))
   pss_nil)
  (pss_cons (ps_if (pt_truth (pe_callB call_isi (by rfl) T.n_isinstance (by decide +kernel) (pa_cons (pv 1) (pa_cons (pe_bltn (by rfl) T.n_dict (by decide +kernel) rfl) pa_nil))) (by intro _; rfl))
   (pss_one ps_never)
   pss_nil)
  (pss_cons (ps_if (pt_truth (pe_callB call_isi (by rfl) T.n_isinstance (by decide +kernel) (pa_cons (pv 1) (pa_cons (pe_bltn (by rfl) T.n_int (by decide +kernel) rfl) pa_nil))) (by intro _; rfl))
   (pss_one (ps_ret (pe_andT (pe_callB call_isi (by rfl) T.n_isinstance (by decide +kernel) (pa_cons (pv 0) (pa_cons (pe_bltn (by rfl) T.n_int (by decide +kernel) rfl) pa_nil))) (pe_andT (pe_cmpR (op_eqD hr.units) (pe_callB call_isi (by rfl) T.n_isinstance (by decide +kernel) (pa_cons (pv 0) (pa_cons (pe_bltn (by rfl) T.n_bool (by decide +kernel) rfl) pa_nil))) (pe_callB call_isi (by rfl) T.n_isinstance (by decide +kernel) (pa_cons (pv 1) (pa_cons (pe_bltn (by rfl) T.n_bool (by decide +kernel) rfl) pa_nil))) (nomark _)) (pe_one (pe_cmpR (op_eqD hr.units) (pv 0) (pv 1) (nomark _)))))))
   pss_nil)
  (pss_cons (ps_if (pt_cmpR op_isN (pv 1) pe_non (nomark _))
   (pss_one (ps_ret (pe_cmpR op_isN (pv 0) pe_non (nomark _))))
   pss_nil)
  (pss_cons (ps_if (pt_truth (pe_callB call_isi (by rfl) T.n_isinstance (by decide +kernel) (pa_cons (pv 1) (pa_cons (pe_bltn (by rfl) T.n_str (by decide +kernel) rfl) pa_nil))) (by intro _; rfl))
   (pss_one (ps_ret (pe_andT (pe_callB call_isi (by rfl) T.n_isinstance (by decide +kernel) (pa_cons (pv 0) (pa_cons (pe_bltn (by rfl) T.n_str (by decide +kernel) rfl) pa_nil))) (pe_one (pe_cmpR (op_eqD hr.units) (pv 0) (pv 1) (nomark _))))))
   pss_nil)
  (pss_one ps_never)))))), rd_law_same (n + 1) h⟩)
theorem ok_law_same (T : Txt K mg) : FnOk P w K mg base CX0 10 T.a_law_same T.d_law_same ["found", "due"] (sp_law_same K) := okn_law_same T 8

theorem okn_law_loose (T : Txt K mg) : ∀ n, FnOk P w K mg base CX0 (2 + 1 + n) T.a_law_loose T.d_law_loose ["stream", "thing"] (spn_law_loose n K)
  | 0 => by
    have G_law_below : FnOk P w K mg base CX0 1 T.a_law_below T.d_law_below ["stream", "many"] (sp_law_below K) := ok_law_below T
    have GR : FnOk P w K mg base CX0 2 T.a_law_loose T.d_law_loose ["stream", "thing"] (rc_law_loose 0 K) := T.F_law_loose.ok sc_law_loose (fun _ _ _ _ h => h.elim) (fun _ _ _ _ _ _ _ _ _ h => h.elim)
    refine T.F_law_loose.ok (k := 2) sc_law_loose (fun vs H Q E h => len_law_loose h) (fun cdv A outer s H vs Q E hr h => ⟨t_law_loose K (rc_law_loose 0 K), (pss_cons (ps_if (pt_truth (pe_callB call_isi (by rfl) T.n_isinstance (by decide +kernel) (pa_cons (pv 1) (pa_cons (pe_bltn (by rfl) T.n_dict (by decide +kernel) rfl) pa_nil))) (by intro _; rfl))
   (pss_one ps_never)
   pss_nil)
  (pss_cons (ps_if (pt_not (pt_truth (pe_callB call_isiT (by rfl) T.n_isinstance (by decide +kernel) (pa_cons (pv 1) (pa_cons (pe_tup (pa_cons (pe_bltn (by rfl) T.n_list (by decide +kernel) rfl) (pa_cons (pe_bltn (by rfl) T.n_tuple (by decide +kernel) rfl) pa_nil))) pa_nil))) (by intro _; rfl)))
   (pss_one (ps_ret (pv 1)))
   pss_nil)
  (pss_cons (ps_setLc (i := 2) (own := [("part", 3)]) rfl sc_law_loose.nd rfl rfl (sw_true rfl rfl rfl (by decide +kernel)) (pi_seq (pv 1)) (blkOk_by (N := N_law_loose) (sc := defScope s_law_loose) (by decide +kernel)) (fun _ _ _ _ _ => (pg_name (i := 3) sc_law_loose.nd rfl (Or.inl rfl))) (fun _ _ _ _ _ => pts_nil) (fun _ _ _ _ _ => (pe_call GR (hr.mono (by omega)) (by rfl) T.g_law_loose T.F_law_loose.kp T.b_law_loose .nil pass0 (pa_cons (pv 0) (pa_cons (pv 3) pa_nil)))))
  (pss_one (ps_ret (pe_ifExp (pt_cmpR (op_eqD hr.units) (pe_call G_law_below (hr.mono (by omega)) (by rfl) T.g_law_below T.F_law_below.kp T.b_law_below .nil pass0 (pa_cons (pv 0) (pa_cons pe_int pa_nil))) pe_int (nomark _)) (pv 2) (pe_callTy call_tuple_of (by rfl) T.n_tuple (by decide +kernel) (pa_cons (pv 2) pa_nil)))))))), rd_law_loose 0 h⟩)
  | n + 1 => by
    have G_law_below : FnOk P w K mg base CX0 1 T.a_law_below T.d_law_below ["stream", "many"] (sp_law_below K) := ok_law_below T
    have GR : FnOk P w K mg base CX0 (2 + 1 + n) T.a_law_loose T.d_law_loose ["stream", "thing"] (rc_law_loose (n + 1) K) := okn_law_loose T n
    refine T.F_law_loose.ok (k := 2 + 1 + n) sc_law_loose (fun vs H Q E h => len_law_loose h) (fun cdv A outer s H vs Q E hr h => ⟨t_law_loose K (rc_law_loose (n + 1) K), (pss_cons (ps_if (pt_truth (pe_callB call_isi (by rfl) T.n_isinstance (by decide +kernel) (pa_cons (pv 1) (pa_cons (pe_bltn (by rfl) T.n_dict (by decide +kernel) rfl) pa_nil))) (by intro _; rfl))
   (pss_one ps_never)
   pss_nil)
  (pss_cons (ps_if (pt_not (pt_truth (pe_callB call_isiT (by rfl) T.n_isinstance (by decide +kernel) (pa_cons (pv 1) (pa_cons (pe_tup (pa_cons (pe_bltn (by rfl) T.n_list (by decide +kernel) rfl) (pa_cons (pe_bltn (by rfl) T.n_tuple (by decide +kernel) rfl) pa_nil))) pa_nil))) (by intro _; rfl)))
   (pss_one (ps_ret (pv 1)))
   pss_nil)
  (pss_cons (ps_setLc (i := 2) (own := [("part", 3)]) rfl sc_law_loose.nd rfl rfl (sw_true rfl rfl rfl (by decide +kernel)) (pi_seq (pv 1)) (blkOk_by (N := N_law_loose) (sc := defScope s_law_loose) (by decide +kernel)) (fun _ _ _ _ _ => (pg_name (i := 3) sc_law_loose.nd rfl (Or.inl rfl))) (fun _ _ _ _ _ => pts_nil) (fun _ _ _ _ _ => (pe_call GR (hr.mono (by omega)) (by rfl) T.g_law_loose T.F_law_loose.kp T.b_law_loose .nil pass0 (pa_cons (pv 0) (pa_cons (pv 3) pa_nil)))))
  (pss_one (ps_ret (pe_ifExp (pt_cmpR (op_eqD hr.units) (pe_call G_law_below (hr.mono (by omega)) (by rfl) T.g_law_below T.F_law_below.kp T.b_law_below .nil pass0 (pa_cons (pv 0) (pa_cons pe_int pa_nil))) pe_int (nomark _)) (pv 2) (pe_callTy call_tuple_of (by rfl) T.n_tuple (by decide +kernel) (pa_cons (pv 2) pa_nil)))))))), rd_law_loose (n + 1) h⟩)
theorem ok_law_loose (T : Txt K mg) : FnOk P w K mg base CX0 11 T.a_law_loose T.d_law_loose ["stream", "thing"] (sp_law_loose K) := okn_law_loose T 8

theorem ok_is_row (T : Txt K mg) : FnOk P w K mg base CX0 1 T.a_is_row T.d_is_row ["thing"] (sp_is_row K) := by
  refine ok_spP T.F_is_row sc_is_row (fun _ => rfl) (fun cdv A outer s H E F i vs hr e rs hp => ⟨t_is_row K, (pss_one (ps_ret (pe_callB call_isiT (by rfl) T.n_isinstance (by decide +kernel) (pa_cons (pv 0) (pa_cons (pe_tup (pa_cons (pe_bltn (by rfl) T.n_list (by decide +kernel) rfl) (pa_cons (pe_bltn (by rfl) T.n_tuple (by decide +kernel) rfl) pa_nil))) pa_nil))))), fun D hn q => rd_is_row' i e rs hp D hn q⟩)
theorem ok_is_number (T : Txt K mg) : FnOk P w K mg base CX0 1 T.a_is_number T.d_is_number ["thing", "low", "high"] (sp_is_number K) := by
  refine ok_spP T.F_is_number sc_is_number (fun _ => rfl) (fun cdv A outer s H E F i vs hr e rs hp => ⟨t_is_number K, (pss_one (ps_ret (pe_andT (pe_callB call_isi (by rfl) T.n_isinstance (by decide +kernel) (pa_cons (pv 0) (pa_cons (pe_bltn (by rfl) T.n_int (by decide +kernel) rfl) pa_nil))) (pe_andT (pe_notT (pe_callB call_isi (by rfl) T.n_isinstance (by decide +kernel) (pa_cons (pv 0) (pa_cons (pe_bltn (by rfl) T.n_bool (by decide +kernel) rfl) pa_nil)))) (pe_one (pe_chain op_le op_le (pv 1) (pv 0) (pv 2))))))), fun D hn q => rd_is_number' i.1 i.2.1 i.2.2 e rs hp D hn q⟩)
theorem ok_is_truths (T : Txt K mg) : FnOk P w K mg base CX0 2 T.a_is_truths T.d_is_truths ["thing"] (sp_is_truths K) := by
  have G_is_row : FnOk P w K mg base CX0 1 T.a_is_row T.d_is_row ["thing"] (sp_is_row K) := ok_is_row T
  refine ok_spP T.F_is_truths sc_is_truths (fun _ => rfl) (fun cdv A outer s H E F i vs hr e rs hp => ⟨t_is_truths K, (pss_one (ps_ret (pe_andT (pe_call G_is_row (hr.mono (by omega)) (by rfl) T.g_is_row T.F_is_row.kp T.b_is_row .nil pass0 (pa_cons (pv 0) pa_nil)) (pe_andT (pe_cmpR op_le (pe_callB call_len (by rfl) T.n_len (by decide +kernel) (pa_cons (pv 0) pa_nil)) (pe_glob (by rfl) T.g_MOST ⟨_, rfl⟩) (nomark _)) (pe_one (pe_cmpR (op_eqD hr.units) (pe_lc (own := [("one", 1)]) rfl sc_is_truths.nd (pi_seq (pv 0)) (blkOk_by (N := N_is_truths) (sc := defScope s_is_truths) (by decide +kernel)) (fun _ _ _ _ _ => (pg_name (i := 1) sc_is_truths.nd rfl (Or.inl rfl))) (fun _ _ _ _ _ => pts_one (pt_not (pt_truth (pe_callB call_isi (by rfl) T.n_isinstance (by decide +kernel) (pa_cons (pv 1) (pa_cons (pe_bltn (by rfl) T.n_bool (by decide +kernel) rfl) pa_nil))) (by intro _; rfl)))) (fun _ _ _ _ _ => (pv 1))) (pe_lst pa_nil) (nomark _))))))), fun D hn q => rd_is_truths' i.1 i.2 e rs hp D hn q⟩)
theorem ok_round_size (T : Txt K mg) : FnOk P w K mg base CX0 1 T.a_round_size T.d_round_size ["ring"] (sp_round_size K) := by
  refine ok_spP T.F_round_size sc_round_size (fun _ => rfl) (fun cdv A outer s H E F i vs hr e rs hp => ⟨t_round_size K, (pss_cons (ps_set (i := 1) sc_round_size.nd rfl (Or.inl rfl) pe_int)
  (pss_cons (ps_while PassesOwn.never (PW.pt (pw_or (pt_truth (pe_op op_mod (pe_callB call_len (by rfl) T.n_len (by decide +kernel) (pa_cons (pv 0) pa_nil)) (pv 1)) (by intro _; rfl)) (pw_or1 (pt_cmpR (op_neD hr.units) (pe_slice sl_seq (pv 0) (po_some (pv 1)) po_none) (pe_slice sl_seq (pv 0) po_none (po_some (pe_op op_sub (pe_callB call_len (by rfl) T.n_len (by decide +kernel) (pa_cons (pv 0) pa_nil)) (pv 1)))) (nomark _)))))
   (pss_one (ps_aug (i := 1) sc_round_size.nd rfl (Or.inl rfl) pe_int ip_add)))
  (pss_one (ps_ret (pv 1))))), fun D hn q => rd_round_size' i e rs hp D hn q⟩)
theorem ok_in_set (T : Txt K mg) : FnOk P w K mg base CX0 1 T.a_in_set T.d_in_set ["plain", "number"] (sp_in_set K) := by
  refine ok_spP T.F_in_set sc_in_set (fun _ => rfl) (fun cdv A outer s H E F i vs hr e rs hp => ⟨t_in_set K, (pss_cons (ps_asg (pv 0) (pg_tup (by rfl) (pgs_cons (pg_name (i := 2) sc_in_set.nd rfl (Or.inl rfl)) (pgs_cons (pg_name (i := 3) sc_in_set.nd rfl (Or.inl rfl)) pgs_nil))))
  (pss_one (ps_ret (pe_ifExp (pt_cmpR op_lt (pv 1) (pe_callB call_len (by rfl) T.n_len (by decide +kernel) (pa_cons (pv 2) pa_nil)) (nomark _)) (pe_ix ix_seq (pv 2) (pv 1) (fun _ _ => rfl)) (pe_ix ix_seq (pv 3) (pe_op op_mod (pe_op op_sub (pv 1) (pe_callB call_len (by rfl) T.n_len (by decide +kernel) (pa_cons (pv 2) pa_nil))) (pe_callB call_len (by rfl) T.n_len (by decide +kernel) (pa_cons (pv 3) pa_nil))) (fun _ _ => rfl)))))), fun D hn q => rd_in_set' i.1 i.2 e rs hp D hn q⟩)
theorem ok_common_round (T : Txt K mg) : FnOk P w K mg base CX0 1 T.a_common_round T.d_common_round ["one", "two"] (sp_common_round K) := by
  refine ok_spP T.F_common_round sc_common_round (fun _ => rfl) (fun cdv A outer s H E F i vs hr e rs hp => ⟨t_common_round K, (pss_cons (ps_set (i := 2) sc_common_round.nd rfl (Or.inl rfl) (pe_callB call_len (by rfl) T.n_len (by decide +kernel) (pa_cons (pv 0) pa_nil)))
  (pss_cons (ps_while PassesOwn.never (pt_truth (pe_op op_mod (pv 2) (pe_callB call_len (by rfl) T.n_len (by decide +kernel) (pa_cons (pv 1) pa_nil))) (by intro _; rfl))
   (pss_one (ps_aug (i := 2) sc_common_round.nd rfl (Or.inl rfl) (pe_callB call_len (by rfl) T.n_len (by decide +kernel) (pa_cons (pv 0) pa_nil)) ip_add)))
  (pss_one (ps_ret (pv 2))))), fun D hn q => rd_common_round' i.1 i.2 e rs hp D hn q⟩)
theorem ok_least_of (T : Txt K mg) : FnOk P w K mg base CX0 2 T.a_least_of T.d_least_of ["few", "ring"] (sp_least_of K) := by
  have G_round_size : FnOk P w K mg base CX0 1 T.a_round_size T.d_round_size ["ring"] (sp_round_size K) := ok_round_size T
  refine ok_spP T.F_least_of sc_least_of (fun _ => rfl) (fun cdv A outer s H E F i vs hr e rs hp => ⟨t_least_of K, (pss_cons (ps_par (i := 0) (j := 1) rfl sc_least_of.nd rfl rfl (by decide) rfl rfl (pa_cons (pe_callTy call_tuple_of (by rfl) T.n_tuple (by decide +kernel) (pa_cons (pv 0) pa_nil)) (pa_cons (pe_slice sl_seq (pe_callTy call_tuple_of (by rfl) T.n_tuple (by decide +kernel) (pa_cons (pv 1) pa_nil)) po_none (po_some (pe_call G_round_size (hr.mono (by omega)) (by rfl) T.g_round_size T.F_round_size.kp T.b_round_size .nil pass0 (pa_cons (pe_callTy call_tuple_of (by rfl) T.n_tuple (by decide +kernel) (pa_cons (pv 1) pa_nil)) pa_nil)))) pa_nil)) (by rfl))
  (pss_cons (ps_while PassesOwn.never (PW.pt (pw_and (pt_truth (pv 0) (by intro _; rfl)) (pw_and1 (pt_cmpR (op_eqD hr.units) (pe_ix ix_seq (pv 0) (pe_un un_neg pe_int) (fun _ _ => rfl)) (pe_ix ix_seq (pv 1) (pe_un un_neg pe_int) (fun _ _ => rfl)) (nomark _)))))
   (pss_one (ps_par (i := 0) (j := 1) rfl sc_least_of.nd rfl rfl (by decide) rfl rfl (pa_cons (pe_slice sl_seq (pv 0) po_none (po_some (pe_un un_neg pe_int))) (pa_cons (pe_op oAdd (pe_slice sl_seq (pv 1) (po_some (pe_un un_neg pe_int)) po_none) (pe_slice sl_seq (pv 1) po_none (po_some (pe_un un_neg pe_int)))) pa_nil)) (by rfl))))
  (pss_one (ps_ret (pe_tup (pa_cons (pv 0) (pa_cons (pv 1) pa_nil))))))), fun D hn q => rd_least_of' i.1 i.2.1 i.2.2.1 i.2.2.2 e rs hp D hn q⟩)
theorem ok_set_in (T : Txt K mg) : FnOk P w K mg base CX0 3 T.a_set_in T.d_set_in ["thing"] (sp_set_in K) := by
  have G_is_row : FnOk P w K mg base CX0 1 T.a_is_row T.d_is_row ["thing"] (sp_is_row K) := ok_is_row T
  have G_is_truths : FnOk P w K mg base CX0 2 T.a_is_truths T.d_is_truths ["thing"] (sp_is_truths K) := ok_is_truths T
  have G_least_of : FnOk P w K mg base CX0 2 T.a_least_of T.d_least_of ["few", "ring"] (sp_least_of K) := ok_least_of T
  refine ok_spP T.F_set_in sc_set_in (fun _ => rfl) (fun cdv A outer s H E F i vs hr e rs hp => ⟨t_set_in K, (pss_cons (ps_if (PW.pt (pw_or (pt_not (pt_truth (pe_call G_is_row (hr.mono (by omega)) (by rfl) T.g_is_row T.F_is_row.kp T.b_is_row .nil pass0 (pa_cons (pv 0) pa_nil)) (by intro _; rfl))) (pw_or (pt_cmpR (op_neD hr.units) (pe_callB call_len (by rfl) T.n_len (by decide +kernel) (pa_cons (pv 0) pa_nil)) pe_int (nomark _)) (pw_or (pt_not (pt_truth (pe_call G_is_truths (hr.mono (by omega)) (by rfl) T.g_is_truths T.F_is_truths.kp T.b_is_truths .nil pass0 (pa_cons (pe_ix ix_seq (pv 0) pe_int (fun _ _ => rfl)) pa_nil)) (by intro _; rfl))) (pw_or (pt_not (pt_truth (pe_call G_is_truths (hr.mono (by omega)) (by rfl) T.g_is_truths T.F_is_truths.kp T.b_is_truths .nil pass0 (pa_cons (pe_ix ix_seq (pv 0) pe_int (fun _ _ => rfl)) pa_nil)) (by intro _; rfl))) (pw_or1 (pt_not (pt_truth (pe_ix ix_seq (pv 0) pe_int (fun _ _ => rfl)) (by intro _; rfl)))))))))
   (pss_one (ps_ret pe_non))
   pss_nil)
  (pss_one (ps_ret (pe_call G_least_of (hr.mono (by omega)) (by rfl) T.g_least_of T.F_least_of.kp T.b_least_of .nil pass0 (pa_cons (pe_ix ix_seq (pv 0) pe_int (fun _ _ => rfl)) (pa_cons (pe_ix ix_seq (pv 0) pe_int (fun _ _ => rfl)) pa_nil)))))), fun D hn q => rd_set_in' i.1 i.2 e rs hp D hn q⟩)
theorem ok_need_set (T : Txt K mg) : FnOk P w K mg base CX0 4 T.a_need_set T.d_need_set ["numbers"] (sp_need_set K) := by
  have G_set_in : FnOk P w K mg base CX0 3 T.a_set_in T.d_set_in ["thing"] (sp_set_in K) := ok_set_in T
  refine ok_spP T.F_need_set sc_need_set (fun _ => rfl) (fun cdv A outer s H E F i vs hr e rs hp => ⟨t_need_set K, (pss_cons (ps_set (i := 1) sc_need_set.nd rfl (Or.inl rfl) (pe_call G_set_in (hr.mono (by omega)) (by rfl) T.g_set_in T.F_set_in.kp T.b_set_in .nil pass0 (pa_cons (pv 0) pa_nil)))
  (pss_cons (ps_if (pt_cmpR op_isN (pv 1) pe_non (nomark _))
   (pss_one ps_never)
   pss_nil)
  (pss_one (ps_ret (pv 1))))), fun D hn q => rd_need_set' i.1 i.2 e rs hp D hn q⟩)
theorem ok_need_sets (T : Txt K mg) : FnOk P w K mg base CX0 5 T.a_need_sets T.d_need_sets ["numbers", "other"] (sp_need_sets K) := by
  have G_need_set : FnOk P w K mg base CX0 4 T.a_need_set T.d_need_set ["numbers"] (sp_need_set K) := ok_need_set T
  have G_set_in : FnOk P w K mg base CX0 3 T.a_set_in T.d_set_in ["thing"] (sp_set_in K) := ok_set_in T
  refine ok_spP T.F_need_sets sc_need_sets (fun _ => rfl) (fun cdv A outer s H E F i vs hr e rs hp => ⟨t_need_sets K, (pss_cons (ps_par (i := 2) (j := 3) rfl sc_need_sets.nd rfl rfl (by decide) rfl rfl (pa_cons (pe_call G_need_set (hr.mono (by omega)) (by rfl) T.g_need_set T.F_need_set.kp T.b_need_set .nil pass0 (pa_cons (pv 0) pa_nil)) (pa_cons (pe_call G_set_in (hr.mono (by omega)) (by rfl) T.g_set_in T.F_set_in.kp T.b_set_in .nil pass0 (pa_cons (pv 1) pa_nil)) pa_nil)) (by rfl))
  (pss_cons (ps_if (pt_cmpR op_isN (pv 3) pe_non (nomark _))
   (pss_one ps_never)
   pss_nil)
  (pss_one (ps_ret (pe_tup (pa_cons (pv 2) (pa_cons (pv 3) pa_nil))))))), fun D hn q => rd_need_sets' i.1 i.2.1 i.2.2.1 i.2.2.2 e rs hp D hn q⟩)
theorem ok_told_set (T : Txt K mg) : FnOk P w K mg base CX0 1 T.a_told_set T.d_told_set ["plain"] (sp_told_set K) := by
  refine ok_spP T.F_told_set sc_told_set (fun _ => rfl) (fun cdv A outer s H E F i vs hr e rs hp => ⟨t_told_set K, (pss_cons (ps_set (i := 1) sc_told_set.nd rfl (Or.inl rfl) (pe_callB (call_max2 rfl) (by rfl) T.n_max (by decide +kernel) (pa_cons (pe_callB call_len (by rfl) T.n_len (by decide +kernel) (pa_cons (pe_ix ix_seq (pv 0) pe_int (fun _ _ => rfl)) pa_nil)) (pa_cons (pe_callB call_len (by rfl) T.n_len (by decide +kernel) (pa_cons (pe_ix ix_seq (pv 0) pe_int (fun _ _ => rfl)) pa_nil)) pa_nil))))
  (pss_cons (ps_if (pt_cmpR op_gt (pv 1) (pe_glob (by rfl) T.g_MOST ⟨_, rfl⟩) (nomark _))
   (pss_one ps_never)
   pss_nil)
  (pss_one (ps_ret (pe_tup (pa_cons (pe_callTy call_list_of (by rfl) T.n_list (by decide +kernel) (pa_cons (pe_ix ix_seq (pv 0) pe_int (fun _ _ => rfl)) pa_nil)) (pa_cons (pe_callTy call_list_of (by rfl) T.n_list (by decide +kernel) (pa_cons (pe_ix ix_seq (pv 0) pe_int (fun _ _ => rfl)) pa_nil)) pa_nil))))))), fun D hn q => rd_told_set' i e rs hp D hn q⟩)
theorem ok_set_by (T : Txt K mg) : FnOk P w K mg base CX0 3 T.a_set_by T.d_set_by ["one", "two", "truths"] (sp_set_by K) := by
  have G_common_round : FnOk P w K mg base CX0 1 T.a_common_round T.d_common_round ["one", "two"] (sp_common_round K) := ok_common_round T
  have G_in_set : FnOk P w K mg base CX0 1 T.a_in_set T.d_in_set ["plain", "number"] (sp_in_set K) := ok_in_set T
  have G_least_of : FnOk P w K mg base CX0 2 T.a_least_of T.d_least_of ["few", "ring"] (sp_least_of K) := ok_least_of T
  refine ok_spP T.F_set_by sc_set_by (fun _ => rfl) (fun cdv A outer s H E F i vs hr e rs hp => ⟨t_set_by K, (pss_cons (ps_par (i := 4) (j := 5) rfl sc_set_by.nd rfl rfl (by decide) rfl rfl (pa_cons (pe_callB (call_max2 rfl) (by rfl) T.n_max (by decide +kernel) (pa_cons (pe_callB call_len (by rfl) T.n_len (by decide +kernel) (pa_cons (pe_ix ix_seq (pv 0) pe_int (fun _ _ => rfl)) pa_nil)) (pa_cons (pe_callB call_len (by rfl) T.n_len (by decide +kernel) (pa_cons (pe_ix ix_seq (pv 1) pe_int (fun _ _ => rfl)) pa_nil)) pa_nil))) (pa_cons (pe_call G_common_round (hr.mono (by omega)) (by rfl) T.g_common_round T.F_common_round.kp T.b_common_round .nil pass0 (pa_cons (pe_ix ix_seq (pv 0) pe_int (fun _ _ => rfl)) (pa_cons (pe_ix ix_seq (pv 1) pe_int (fun _ _ => rfl)) pa_nil))) pa_nil)) (by rfl))
  (pss_cons (ps_setLc (i := 3) (own := [("number", 6)]) rfl sc_set_by.nd rfl rfl (sw_true rfl rfl rfl (by decide +kernel)) (pi_range1 (by rfl) T.n_range (pa_cons (pe_op oAdd (pv 4) (pv 5)) pa_nil)) (blkOk_by (N := N_set_by) (sc := defScope s_set_by) (by decide +kernel)) (fun _ _ _ _ _ => (pg_name (i := 6) sc_set_by.nd rfl (Or.inl rfl))) (fun _ _ _ _ _ => pts_nil) (fun _ _ _ _ _ => (pe_cmpR (op_inD (room65 hr)) (pe_tup (pa_cons (pe_call G_in_set (hr.mono (by omega)) (by rfl) T.g_in_set T.F_in_set.kp T.b_in_set .nil pass0 (pa_cons (pv 0) (pa_cons (pv 6) pa_nil))) (pa_cons (pe_call G_in_set (hr.mono (by omega)) (by rfl) T.g_in_set T.F_in_set.kp T.b_in_set .nil pass0 (pa_cons (pv 1) (pa_cons (pv 6) pa_nil))) pa_nil))) (pv 2) (by rfl))))
  (pss_one (ps_ret (pe_call G_least_of (hr.mono (by omega)) (by rfl) T.g_least_of T.F_least_of.kp T.b_least_of .nil pass0 (pa_cons (pe_slice sl_seq (pv 3) po_none (po_some (pv 4))) (pa_cons (pe_slice sl_seq (pv 3) (po_some (pv 4)) po_none) pa_nil))))))), fun D hn q => rd_set_by' i.1 i.2.1 i.2.2 e rs hp D hn q⟩)
theorem ok_first_of (T : Txt K mg) : FnOk P w K mg base CX0 2 T.a_first_of T.d_first_of ["plain"] (sp_first_of K) := by
  have G_in_set : FnOk P w K mg base CX0 1 T.a_in_set T.d_in_set ["plain", "number"] (sp_in_set K) := ok_in_set T
  refine ok_spP T.F_first_of sc_first_of (fun _ => rfl) (fun cdv A outer s H E F i vs hr e rs hp => ⟨t_first_of K, (pss_cons (ps_setLc (i := 1) (own := [("number", 2)]) rfl sc_first_of.nd rfl rfl (sw_true rfl rfl rfl (by decide +kernel)) (pi_range1 (by rfl) T.n_range (pa_cons (pe_op oAdd (pe_callB call_len (by rfl) T.n_len (by decide +kernel) (pa_cons (pe_ix ix_seq (pv 0) pe_int (fun _ _ => rfl)) pa_nil)) (pe_callB call_len (by rfl) T.n_len (by decide +kernel) (pa_cons (pe_ix ix_seq (pv 0) pe_int (fun _ _ => rfl)) pa_nil))) pa_nil)) (blkOk_by (N := N_first_of) (sc := defScope s_first_of) (by decide +kernel)) (fun _ _ _ _ _ => (pg_name (i := 2) sc_first_of.nd rfl (Or.inl rfl))) (fun _ _ _ _ _ => pts_one (pt_truth (pe_call G_in_set (hr.mono (by omega)) (by rfl) T.g_in_set T.F_in_set.kp T.b_in_set .nil pass0 (pa_cons (pv 0) (pa_cons (pv 2) pa_nil))) (by intro _; rfl))) (fun _ _ _ _ _ => (pv 2)))
  (pss_one (ps_ret (pe_ifExp (pt_truth (pv 1) (by intro _; rfl)) (pe_ix ix_seq (pv 1) pe_int (fun _ _ => rfl)) pe_non)))), fun D hn q => rd_first_of' i e rs hp D hn q⟩)
theorem ok_has_number (T : Txt K mg) : FnOk P w K mg base CX0 5 T.a_has_number T.d_has_number ["numbers", "number"] (sp_has_number K) := by
  have G_need_set : FnOk P w K mg base CX0 4 T.a_need_set T.d_need_set ["numbers"] (sp_need_set K) := ok_need_set T
  have G_is_number : FnOk P w K mg base CX0 1 T.a_is_number T.d_is_number ["thing", "low", "high"] (sp_is_number K) := ok_is_number T
  have G_in_set : FnOk P w K mg base CX0 1 T.a_in_set T.d_in_set ["plain", "number"] (sp_in_set K) := ok_in_set T
  refine ok_spP T.F_has_number sc_has_number (fun _ => rfl) (fun cdv A outer s H E F i vs hr e rs hp => ⟨t_has_number K, (pss_cons (ps_set (i := 2) sc_has_number.nd rfl (Or.inl rfl) (pe_call G_need_set (hr.mono (by omega)) (by rfl) T.g_need_set T.F_need_set.kp T.b_need_set .nil pass0 (pa_cons (pv 0) pa_nil)))
  (pss_cons (ps_if (pt_not (pt_truth (pe_call G_is_number (hr.mono (by omega)) (by rfl) T.g_is_number T.F_is_number.kp T.b_is_number .nil pass0 (pa_cons (pv 1) (pa_cons pe_int (pa_cons (pe_op op_pow pe_int pe_int) pa_nil)))) (by intro _; rfl)))
   (pss_one ps_never)
   pss_nil)
  (pss_one (ps_ret (pe_call G_in_set (hr.mono (by omega)) (by rfl) T.g_in_set T.F_in_set.kp T.b_in_set .nil pass0 (pa_cons (pv 2) (pa_cons (pv 1) pa_nil))))))), fun D hn q => rd_has_number' i.1 i.2.1 i.2.2 e rs hp D hn q⟩)
theorem ok_numbers_below (T : Txt K mg) : FnOk P w K mg base CX0 5 T.a_numbers_below T.d_numbers_below ["numbers", "many"] (sp_numbers_below K) := by
  have G_need_set : FnOk P w K mg base CX0 4 T.a_need_set T.d_need_set ["numbers"] (sp_need_set K) := ok_need_set T
  have G_is_number : FnOk P w K mg base CX0 1 T.a_is_number T.d_is_number ["thing", "low", "high"] (sp_is_number K) := ok_is_number T
  have G_in_set : FnOk P w K mg base CX0 1 T.a_in_set T.d_in_set ["plain", "number"] (sp_in_set K) := ok_in_set T
  refine ok_spP T.F_numbers_below sc_numbers_below (fun _ => rfl) (fun cdv A outer s H E F i vs hr e rs hp => ⟨t_numbers_below K, (pss_cons (ps_set (i := 2) sc_numbers_below.nd rfl (Or.inr rfl) (pe_call G_need_set (hr.mono (by omega)) (by rfl) T.g_need_set T.F_need_set.kp T.b_need_set .nil pass0 (pa_cons (pv 0) pa_nil)))
  (pss_cons (ps_if (pt_not (pt_truth (pe_call G_is_number (hr.mono (by omega)) (by rfl) T.g_is_number T.F_is_number.kp T.b_is_number .nil pass0 (pa_cons (pv 1) (pa_cons pe_int (pa_cons pe_int pa_nil)))) (by intro _; rfl)))
   (pss_one ps_never)
   pss_nil)
  (pss_one (ps_ret (pe_lc (own := [("number", 3)]) rfl sc_numbers_below.nd (pi_range1 (by rfl) T.n_range (pa_cons (pv 1) pa_nil)) (blkOk_by (N := N_numbers_below) (sc := defScope s_numbers_below) (by decide +kernel)) (fun _ _ _ _ _ => (pg_name (i := 3) sc_numbers_below.nd rfl (Or.inl rfl))) (fun _ _ _ _ _ => pts_one (pt_truth (pe_call G_in_set (hr.mono (by omega)) (by rfl) T.g_in_set T.F_in_set.kp T.b_in_set .nil pass0 (pa_cons (pv 2) (pa_cons (pv 3) pa_nil))) (by intro _; rfl))) (fun _ _ _ _ _ => (pv 3))))))), fun D hn q => rd_numbers_below' i.1 i.2.1 i.2.2 e rs hp D hn q⟩)
theorem ok_is_within (T : Txt K mg) : FnOk P w K mg base CX0 6 T.a_is_within T.d_is_within ["numbers", "other"] (sp_is_within K) := by
  have G_need_sets : FnOk P w K mg base CX0 5 T.a_need_sets T.d_need_sets ["numbers", "other"] (sp_need_sets K) := ok_need_sets T
  have G_first_of : FnOk P w K mg base CX0 2 T.a_first_of T.d_first_of ["plain"] (sp_first_of K) := ok_first_of T
  have G_set_by : FnOk P w K mg base CX0 3 T.a_set_by T.d_set_by ["one", "two", "truths"] (sp_set_by K) := ok_set_by T
  refine ok_spP T.F_is_within sc_is_within (fun _ => rfl) (fun cdv A outer s H E F i vs hr e rs hp => ⟨t_is_within K, (pss_cons (ps_asg (pe_call G_need_sets (hr.mono (by omega)) (by rfl) T.g_need_sets T.F_need_sets.kp T.b_need_sets .nil pass0 (pa_cons (pv 0) (pa_cons (pv 1) pa_nil))) (pg_tup (by rfl) (pgs_cons (pg_name (i := 2) sc_is_within.nd rfl (Or.inl rfl)) (pgs_cons (pg_name (i := 3) sc_is_within.nd rfl (Or.inl rfl)) pgs_nil))))
  (pss_one (ps_ret (pe_cmpR op_isN (pe_call G_first_of (hr.mono (by omega)) (by rfl) T.g_first_of T.F_first_of.kp T.b_first_of .nil pass0 (pa_cons (pe_call G_set_by (hr.mono (by omega)) (by rfl) T.g_set_by T.F_set_by.kp T.b_set_by .nil pass0 (pa_cons (pv 2) (pa_cons (pv 3) (pa_cons (pe_lst (pa_cons (pe_tup (pa_cons pe_bl (pa_cons pe_bl pa_nil))) pa_nil)) pa_nil)))) pa_nil)) pe_non (nomark _))))), fun D hn q => rd_is_within' i.1 i.2.1 i.2.2.1 i.2.2.2 e rs hp D hn q⟩)
theorem ok_first_number (T : Txt K mg) : FnOk P w K mg base CX0 5 T.a_first_number T.d_first_number ["numbers"] (sp_first_number K) := by
  have G_first_of : FnOk P w K mg base CX0 2 T.a_first_of T.d_first_of ["plain"] (sp_first_of K) := ok_first_of T
  have G_need_set : FnOk P w K mg base CX0 4 T.a_need_set T.d_need_set ["numbers"] (sp_need_set K) := ok_need_set T
  refine ok_spP T.F_first_number sc_first_number (fun _ => rfl) (fun cdv A outer s H E F i vs hr e rs hp => ⟨t_first_number K, (pss_one (ps_ret (pe_call G_first_of (hr.mono (by omega)) (by rfl) T.g_first_of T.F_first_of.kp T.b_first_of .nil pass0 (pa_cons (pe_call G_need_set (hr.mono (by omega)) (by rfl) T.g_need_set T.F_need_set.kp T.b_need_set .nil pass0 (pa_cons (pv 0) pa_nil)) pa_nil)))), fun D hn q => rd_first_number' i.1 i.2 e rs hp D hn q⟩)
theorem ok_first_apart (T : Txt K mg) : FnOk P w K mg base CX0 6 T.a_first_apart T.d_first_apart ["numbers", "other"] (sp_first_apart K) := by
  have G_need_sets : FnOk P w K mg base CX0 5 T.a_need_sets T.d_need_sets ["numbers", "other"] (sp_need_sets K) := ok_need_sets T
  have G_first_of : FnOk P w K mg base CX0 2 T.a_first_of T.d_first_of ["plain"] (sp_first_of K) := ok_first_of T
  have G_set_by : FnOk P w K mg base CX0 3 T.a_set_by T.d_set_by ["one", "two", "truths"] (sp_set_by K) := ok_set_by T
  refine ok_spP T.F_first_apart sc_first_apart (fun _ => rfl) (fun cdv A outer s H E F i vs hr e rs hp => ⟨t_first_apart K, (pss_cons (ps_asg (pe_call G_need_sets (hr.mono (by omega)) (by rfl) T.g_need_sets T.F_need_sets.kp T.b_need_sets .nil pass0 (pa_cons (pv 0) (pa_cons (pv 1) pa_nil))) (pg_tup (by rfl) (pgs_cons (pg_name (i := 2) sc_first_apart.nd rfl (Or.inl rfl)) (pgs_cons (pg_name (i := 3) sc_first_apart.nd rfl (Or.inl rfl)) pgs_nil))))
  (pss_one (ps_ret (pe_call G_first_of (hr.mono (by omega)) (by rfl) T.g_first_of T.F_first_of.kp T.b_first_of .nil pass0 (pa_cons (pe_call G_set_by (hr.mono (by omega)) (by rfl) T.g_set_by T.F_set_by.kp T.b_set_by .nil pass0 (pa_cons (pv 2) (pa_cons (pv 3) (pa_cons (pe_lst (pa_cons (pe_tup (pa_cons pe_bl (pa_cons pe_bl pa_nil))) (pa_cons (pe_tup (pa_cons pe_bl (pa_cons pe_bl pa_nil))) pa_nil))) pa_nil)))) pa_nil))))), fun D hn q => rd_first_apart' i.1 i.2.1 i.2.2.1 i.2.2.2 e rs hp D hn q⟩)
theorem ok_need_by (T : Txt K mg) : FnOk P w K mg base CX0 2 T.a_need_by T.d_need_by ["by"] (sp_need_by K) := by
  have G_is_number : FnOk P w K mg base CX0 1 T.a_is_number T.d_is_number ["thing", "low", "high"] (sp_is_number K) := ok_is_number T
  refine ok_spP T.F_need_by sc_need_by (fun _ => rfl) (fun cdv A outer s H E F i vs hr e rs hp => ⟨t_need_by K, (pss_cons (ps_if (pt_not (pt_truth (pe_call G_is_number (hr.mono (by omega)) (by rfl) T.g_is_number T.F_is_number.kp T.b_is_number .nil pass0 (pa_cons (pv 0) (pa_cons pe_int (pa_cons (pe_glob (by rfl) T.g_MOST ⟨_, rfl⟩) pa_nil)))) (by intro _; rfl)))
   (pss_one ps_never)
   pss_nil)
  (pss_one (ps_ret (pv 0)))), fun D hn q => rd_need_by' i e rs hp D hn q⟩)
theorem ok_up_by (T : Txt K mg) : FnOk P w K mg base CX0 3 T.a_up_by T.d_up_by ["plain", "by"] (sp_up_by K) := by
  have G_least_of : FnOk P w K mg base CX0 2 T.a_least_of T.d_least_of ["few", "ring"] (sp_least_of K) := ok_least_of T
  refine ok_spP T.F_up_by sc_up_by (fun _ => rfl) (fun cdv A outer s H E F i vs hr e rs hp => ⟨t_up_by K, (pss_one (ps_ret (pe_call G_least_of (hr.mono (by omega)) (by rfl) T.g_least_of T.F_least_of.kp T.b_least_of .nil pass0 (pa_cons (pe_op oAdd (pe_op oMul (pe_tup (pa_cons pe_bl pa_nil)) (pv 1)) (pe_ix ix_seq (pv 0) pe_int (fun _ _ => rfl))) (pa_cons (pe_ix ix_seq (pv 0) pe_int (fun _ _ => rfl)) pa_nil))))), fun D hn q => rd_up_by' i.1 i.2 e rs hp D hn q⟩)
theorem ok_down_by (T : Txt K mg) : FnOk P w K mg base CX0 3 T.a_down_by T.d_down_by ["plain", "by"] (sp_down_by K) := by
  have G_in_set : FnOk P w K mg base CX0 1 T.a_in_set T.d_in_set ["plain", "number"] (sp_in_set K) := ok_in_set T
  have G_least_of : FnOk P w K mg base CX0 2 T.a_least_of T.d_least_of ["few", "ring"] (sp_least_of K) := ok_least_of T
  refine ok_spP T.F_down_by sc_down_by (fun _ => rfl) (fun cdv A outer s H E F i vs hr e rs hp => ⟨t_down_by K, (pss_cons (ps_par (i := 3) (j := 4) rfl sc_down_by.nd rfl rfl (by decide) rfl rfl (pa_cons (pe_callB (call_max2 rfl) (by rfl) T.n_max (by decide +kernel) (pa_cons pe_int (pa_cons (pe_op op_sub (pe_callB call_len (by rfl) T.n_len (by decide +kernel) (pa_cons (pe_ix ix_seq (pv 0) pe_int (fun _ _ => rfl)) pa_nil)) (pv 1)) pa_nil))) (pa_cons (pe_callB call_len (by rfl) T.n_len (by decide +kernel) (pa_cons (pe_ix ix_seq (pv 0) pe_int (fun _ _ => rfl)) pa_nil)) pa_nil)) (by rfl))
  (pss_cons (ps_setLc (i := 2) (own := [("number", 5)]) rfl sc_down_by.nd rfl rfl (sw_true rfl rfl rfl (by decide +kernel)) (pi_range1 (by rfl) T.n_range (pa_cons (pe_op oAdd (pv 3) (pv 4)) pa_nil)) (blkOk_by (N := N_down_by) (sc := defScope s_down_by) (by decide +kernel)) (fun _ _ _ _ _ => (pg_name (i := 5) sc_down_by.nd rfl (Or.inl rfl))) (fun _ _ _ _ _ => pts_nil) (fun _ _ _ _ _ => (pe_call G_in_set (hr.mono (by omega)) (by rfl) T.g_in_set T.F_in_set.kp T.b_in_set .nil pass0 (pa_cons (pv 0) (pa_cons (pe_op oAdd (pv 5) (pv 1)) pa_nil)))))
  (pss_one (ps_ret (pe_call G_least_of (hr.mono (by omega)) (by rfl) T.g_least_of T.F_least_of.kp T.b_least_of .nil pass0 (pa_cons (pe_slice sl_seq (pv 2) po_none (po_some (pv 3))) (pa_cons (pe_slice sl_seq (pv 2) (po_some (pv 3)) po_none) pa_nil))))))), fun D hn q => rd_down_by' i.1 i.2 e rs hp D hn q⟩)
theorem ok_shifted_up (T : Txt K mg) : FnOk P w K mg base CX0 5 T.a_shifted_up T.d_shifted_up ["numbers", "by"] (sp_shifted_up K) := by
  have G_need_set : FnOk P w K mg base CX0 4 T.a_need_set T.d_need_set ["numbers"] (sp_need_set K) := ok_need_set T
  have G_told_set : FnOk P w K mg base CX0 1 T.a_told_set T.d_told_set ["plain"] (sp_told_set K) := ok_told_set T
  have G_up_by : FnOk P w K mg base CX0 3 T.a_up_by T.d_up_by ["plain", "by"] (sp_up_by K) := ok_up_by T
  have G_need_by : FnOk P w K mg base CX0 2 T.a_need_by T.d_need_by ["by"] (sp_need_by K) := ok_need_by T
  refine ok_spP T.F_shifted_up sc_shifted_up (fun _ => rfl) (fun cdv A outer s H E F i vs hr e rs hp => ⟨t_shifted_up K, (pss_cons (ps_set (i := 2) sc_shifted_up.nd rfl (Or.inl rfl) (pe_call G_need_set (hr.mono (by omega)) (by rfl) T.g_need_set T.F_need_set.kp T.b_need_set .nil pass0 (pa_cons (pv 0) pa_nil)))
  (pss_one (ps_ret (pe_call G_told_set (hr.mono (by omega)) (by rfl) T.g_told_set T.F_told_set.kp T.b_told_set .nil pass0 (pa_cons (pe_call G_up_by (hr.mono (by omega)) (by rfl) T.g_up_by T.F_up_by.kp T.b_up_by .nil pass0 (pa_cons (pv 2) (pa_cons (pe_call G_need_by (hr.mono (by omega)) (by rfl) T.g_need_by T.F_need_by.kp T.b_need_by .nil pass0 (pa_cons (pv 1) pa_nil)) pa_nil))) pa_nil))))), fun D hn q => rd_shifted_up' i.1 i.2.1 i.2.2 e rs hp D hn q⟩)
theorem ok_shifted_down (T : Txt K mg) : FnOk P w K mg base CX0 5 T.a_shifted_down T.d_shifted_down ["numbers", "by"] (sp_shifted_down K) := by
  have G_need_set : FnOk P w K mg base CX0 4 T.a_need_set T.d_need_set ["numbers"] (sp_need_set K) := ok_need_set T
  have G_told_set : FnOk P w K mg base CX0 1 T.a_told_set T.d_told_set ["plain"] (sp_told_set K) := ok_told_set T
  have G_down_by : FnOk P w K mg base CX0 3 T.a_down_by T.d_down_by ["plain", "by"] (sp_down_by K) := ok_down_by T
  have G_need_by : FnOk P w K mg base CX0 2 T.a_need_by T.d_need_by ["by"] (sp_need_by K) := ok_need_by T
  refine ok_spP T.F_shifted_down sc_shifted_down (fun _ => rfl) (fun cdv A outer s H E F i vs hr e rs hp => ⟨t_shifted_down K, (pss_cons (ps_set (i := 2) sc_shifted_down.nd rfl (Or.inl rfl) (pe_call G_need_set (hr.mono (by omega)) (by rfl) T.g_need_set T.F_need_set.kp T.b_need_set .nil pass0 (pa_cons (pv 0) pa_nil)))
  (pss_one (ps_ret (pe_call G_told_set (hr.mono (by omega)) (by rfl) T.g_told_set T.F_told_set.kp T.b_told_set .nil pass0 (pa_cons (pe_call G_down_by (hr.mono (by omega)) (by rfl) T.g_down_by T.F_down_by.kp T.b_down_by .nil pass0 (pa_cons (pv 2) (pa_cons (pe_call G_need_by (hr.mono (by omega)) (by rfl) T.g_need_by T.F_need_by.kp T.b_need_by .nil pass0 (pa_cons (pv 1) pa_nil)) pa_nil))) pa_nil))))), fun D hn q => rd_shifted_down' i.1 i.2.1 i.2.2 e rs hp D hn q⟩)
theorem ok_law_min (T : Txt K mg) : FnOk P w K mg base CX0 1 T.a_law_min T.d_law_min ["numbers", "number"] (sp_law_min K) := by
  refine ok_spP T.F_law_min sc_law_min (fun _ => rfl) (fun cdv A outer s H E F i vs hr e rs hp => ⟨t_law_min K, (pss_cons (ps_asg (pv 0) (pg_tup (by rfl) (pgs_cons (pg_name (i := 2) sc_law_min.nd rfl (Or.inl rfl)) (pgs_cons (pg_name (i := 3) sc_law_min.nd rfl (Or.inl rfl)) pgs_nil))))
  (pss_one (ps_ret (pe_ifExp (pt_cmpR op_lt (pv 1) (pe_callB call_len (by rfl) T.n_len (by decide +kernel) (pa_cons (pv 2) pa_nil)) (nomark _)) (pe_ix ix_seq (pv 2) (pv 1) (fun _ _ => rfl)) (pe_ix ix_seq (pv 3) (pe_op op_mod (pe_op op_sub (pv 1) (pe_callB call_len (by rfl) T.n_len (by decide +kernel) (pa_cons (pv 2) pa_nil))) (pe_callB call_len (by rfl) T.n_len (by decide +kernel) (pa_cons (pv 3) pa_nil))) (fun _ _ => rfl)))))), fun D hn q => rd_law_min' i.1 i.2 e rs hp D hn q⟩)
theorem ok_law_mleast_set (T : Txt K mg) : FnOk P w K mg base CX0 1 T.a_law_mleast_set T.d_law_mleast_set ["few", "ring"] (sp_law_mleast_set K) := by
  refine ok_spP T.F_law_mleast_set sc_law_mleast_set (fun _ => rfl) (fun cdv A outer s H E F i vs hr e rs hp => ⟨t_law_mleast_set K, (pss_cons (ps_set (i := 2) sc_law_mleast_set.nd rfl (Or.inl rfl) (pe_ix ix_seq (pe_lc (own := [("many", 3)]) rfl sc_law_mleast_set.nd (pi_range2 (by rfl) T.n_range (pa_cons pe_int (pa_cons (pe_op oAdd (pe_callB call_len (by rfl) T.n_len (by decide +kernel) (pa_cons (pv 1) pa_nil)) pe_int) pa_nil))) (blkOk_by (N := N_law_mleast_set) (sc := defScope s_law_mleast_set) (by decide +kernel)) (fun _ _ _ _ _ => (pg_name (i := 3) sc_law_mleast_set.nd rfl (Or.inl rfl))) (fun _ _ _ _ _ => pts_one (PW.pt (pw_and (pt_cmpR (op_eqD hr.units) (pe_op op_mod (pe_callB call_len (by rfl) T.n_len (by decide +kernel) (pa_cons (pv 1) pa_nil)) (pv 3)) pe_int (nomark _)) (pw_and1 (pt_cmpR (op_eqD hr.units) (pe_op oMul (pe_slice sl_seq (pv 1) po_none (po_some (pv 3))) (pe_op op_fdiv (pe_callB call_len (by rfl) T.n_len (by decide +kernel) (pa_cons (pv 1) pa_nil)) (pv 3))) (pv 1) (nomark _)))))) (fun _ _ _ _ _ => (pv 3))) pe_int (fun _ _ => rfl)))
  (pss_cons (ps_asg (pe_tup (pa_cons (pe_callTy call_list_of (by rfl) T.n_list (by decide +kernel) (pa_cons (pv 0) pa_nil)) (pa_cons (pe_callTy call_list_of (by rfl) T.n_list (by decide +kernel) (pa_cons (pe_slice sl_seq (pv 1) po_none (po_some (pv 2))) pa_nil)) pa_nil))) (pg_tup (by rfl) (pgs_cons (pg_name (i := 0) sc_law_mleast_set.nd rfl (Or.inl rfl)) (pgs_cons (pg_name (i := 1) sc_law_mleast_set.nd rfl (Or.inr rfl)) pgs_nil))))
  (pss_cons (ps_while PassesOwn.never (PW.pt (pw_and (pt_cmpR (op_neD hr.units) (pv 0) (pe_lst pa_nil) (nomark _)) (pw_and1 (pt_cmpR (op_eqD hr.units) (pe_ix ix_seq (pv 0) (pe_un un_neg pe_int) (fun _ _ => rfl)) (pe_ix ix_seq (pv 1) (pe_un un_neg pe_int) (fun _ _ => rfl)) (nomark _)))))
   (pss_one (ps_asg (pe_tup (pa_cons (pe_slice sl_seq (pv 0) po_none (po_some (pe_un un_neg pe_int))) (pa_cons (pe_op oAdd (pe_slice sl_seq (pv 1) (po_some (pe_un un_neg pe_int)) po_none) (pe_slice sl_seq (pv 1) po_none (po_some (pe_un un_neg pe_int)))) pa_nil))) (pg_tup (by rfl) (pgs_cons (pg_name (i := 0) sc_law_mleast_set.nd rfl (Or.inl rfl)) (pgs_cons (pg_name (i := 1) sc_law_mleast_set.nd rfl (Or.inr rfl)) pgs_nil))))))
  (pss_one (ps_ret (pe_tup (pa_cons (pv 0) (pa_cons (pv 1) pa_nil)))))))), fun D hn q => rd_law_mleast_set' i.1 i.2 e rs hp D hn q⟩)
theorem ok_law_vfar_sets (T : Txt K mg) : FnOk P w K mg base CX0 2 T.a_law_vfar_sets T.d_law_vfar_sets ["stream", "first"] (sp_law_vfar_sets K) := by
  have G_law_below : FnOk P w K mg base CX0 1 T.a_law_below T.d_law_below ["stream", "many"] (sp_law_below K) := ok_law_below T
  have G_law_min : FnOk P w K mg base CX0 1 T.a_law_min T.d_law_min ["numbers", "number"] (sp_law_min K) := ok_law_min T
  refine T.F_law_vfar_sets.ok sc_law_vfar_sets (fun vs H Q E h => len_law_vfar_sets h) (fun cdv A outer s H vs Q E hr h => ⟨t_law_vfar_sets K, (pss_cons (ps_par (i := 3) (j := 4) rfl sc_law_vfar_sets.nd rfl rfl (by decide) rfl rfl (pa_cons (pe_op oAdd pe_int (pe_call G_law_below (hr.mono (by omega)) (by rfl) T.g_law_below T.F_law_below.kp T.b_law_below .nil pass0 (pa_cons (pv 0) (pa_cons pe_int pa_nil)))) (pa_cons (pe_op oAdd pe_int (pe_call G_law_below (hr.mono (by omega)) (by rfl) T.g_law_below T.F_law_below.kp T.b_law_below .nil pass0 (pa_cons (pv 0) (pa_cons pe_int pa_nil)))) pa_nil)) (by rfl))
  (pss_cons (ps_asg (pe_tup (pa_cons (pe_call G_law_below (hr.mono (by omega)) (by rfl) T.g_law_below T.F_law_below.kp T.b_law_below .nil pass0 (pa_cons (pv 0) (pa_cons (pv 3) pa_nil))) (pa_cons (pe_call G_law_below (hr.mono (by omega)) (by rfl) T.g_law_below T.F_law_below.kp T.b_law_below .nil pass0 (pa_cons (pv 0) (pa_cons (pv 4) pa_nil))) pa_nil))) (pg_tup (by rfl) (pgs_cons (pg_name (i := 5) sc_law_vfar_sets.nd rfl (Or.inr rfl)) (pgs_cons (pg_name (i := 6) sc_law_vfar_sets.nd rfl (Or.inr rfl)) pgs_nil))))
  (pss_cons (ps_par (i := 7) (j := 8) rfl sc_law_vfar_sets.nd rfl rfl (by decide) rfl rfl (pa_cons (pe_call G_law_below (hr.mono (by omega)) (by rfl) T.g_law_below T.F_law_below.kp T.b_law_below .nil pass0 (pa_cons (pv 0) (pa_cons pe_int pa_nil))) (pa_cons (pe_call G_law_below (hr.mono (by omega)) (by rfl) T.g_law_below T.F_law_below.kp T.b_law_below .nil pass0 (pa_cons (pv 0) (pa_cons pe_int pa_nil))) pa_nil)) (by rfl))
  (pss_cons (ps_set (i := 2) sc_law_vfar_sets.nd rfl (Or.inl rfl) (pe_lst (pa_cons (pe_tup (pa_cons (pe_op oMul (pe_lst (pa_cons pe_bl pa_nil)) (pv 7)) (pa_cons (pe_lc (own := [("at", 11)]) rfl sc_law_vfar_sets.nd (pi_range1 (by rfl) T.n_range (pa_cons (pv 3) pa_nil)) (blkOk_by (N := N_law_vfar_sets) (sc := defScope s_law_vfar_sets) (by decide +kernel)) (fun _ _ _ _ _ => (pg_name (i := 11) sc_law_vfar_sets.nd rfl (Or.inl rfl))) (fun _ _ _ _ _ => pts_nil) (fun _ _ _ _ _ => (pe_cmpR (op_eqD hr.units) (pv 11) (pv 5) (nomark _)))) pa_nil))) (pa_cons (pe_tup (pa_cons (pe_op oMul (pe_lst (pa_cons pe_bl pa_nil)) (pv 8)) (pa_cons (pe_lc (own := [("at", 11)]) rfl sc_law_vfar_sets.nd (pi_range1 (by rfl) T.n_range (pa_cons (pv 4) pa_nil)) (blkOk_by (N := N_law_vfar_sets) (sc := defScope s_law_vfar_sets) (by decide +kernel)) (fun _ _ _ _ _ => (pg_name (i := 11) sc_law_vfar_sets.nd rfl (Or.inl rfl))) (fun _ _ _ _ _ => pts_nil) (fun _ _ _ _ _ => (pe_cmpR (op_neD hr.units) (pv 11) (pv 6) (nomark _)))) pa_nil))) pa_nil))))
  (pss_cons (ps_if (PW.pt (pw_and (pt_truth (pv 1) (by intro _; rfl)) (pw_and1 (pt_cmpR op_gt (pv 7) pe_int (nomark _)))))
   (pss_cons ps_never
    (pss_one ps_never))
   (pss_one (ps_if (pt_truth (pv 1) (by intro _; rfl))
     (pss_cons ps_never
      (pss_one ps_never))
     pss_nil)))
  (pss_cons (ps_par (i := 9) (j := 10) rfl sc_law_vfar_sets.nd rfl rfl (by decide) rfl rfl (pa_cons pe_int (pa_cons (pe_op oAdd pe_int (pe_op oMul (pv 3) (pv 4))) pa_nil)) (by rfl))
  (pss_cons (ps_while PassesOwn.never (PW.pt (pw_and (pt_cmpR op_lt (pv 9) (pv 10) (nomark _)) (pw_and1 (pt_not (PW.pt (pw_and (pt_truth (pe_call G_law_min (hr.mono (by omega)) (by rfl) T.g_law_min T.F_law_min.kp T.b_law_min .nil pass0 (pa_cons (pe_ix ix_seq (pv 2) pe_int (fun _ _ => rfl)) (pa_cons (pv 9) pa_nil))) (by intro _; rfl)) (pw_and1 (pt_not (pt_truth (pe_call G_law_min (hr.mono (by omega)) (by rfl) T.g_law_min T.F_law_min.kp T.b_law_min .nil pass0 (pa_cons (pe_ix ix_seq (pv 2) pe_int (fun _ _ => rfl)) (pa_cons (pv 9) pa_nil))) (by intro _; rfl))))))))))
   (pss_one (ps_set (i := 9) sc_law_vfar_sets.nd rfl (Or.inl rfl) (pe_op oAdd (pv 9) pe_int))))
  (pss_one (ps_ret (pe_tup (pa_cons (pv 2) (pa_cons (pe_ifExp (pt_cmpR op_lt (pv 9) (pv 10) (nomark _)) (pv 9) pe_non) pa_nil)))))))))))), rd_law_vfar_sets h⟩)
theorem ok_law (T : Txt K mg) : FnOk P w K mg base CX0 12 T.a_law T.d_law ["script"] (sp_law K) := by
  have G_law_start : FnOk P w K mg base CX0 1 T.a_law_start T.d_law_start ["script"] (sp_law_start K) := ok_law_start T
  have G_law_vfar_sets : FnOk P w K mg base CX0 2 T.a_law_vfar_sets T.d_law_vfar_sets ["stream", "first"] (sp_law_vfar_sets K) := ok_law_vfar_sets T
  have G_law_chance : FnOk P w K mg base CX0 2 T.a_law_chance T.d_law_chance ["stream", "many"] (sp_law_chance K) := ok_law_chance T
  have G_law_loose : FnOk P w K mg base CX0 11 T.a_law_loose T.d_law_loose ["stream", "thing"] (sp_law_loose K) := ok_law_loose T
  have G_law_min : FnOk P w K mg base CX0 1 T.a_law_min T.d_law_min ["numbers", "number"] (sp_law_min K) := ok_law_min T
  have G_is_within : FnOk P w K mg base CX0 6 T.a_is_within T.d_is_within ["numbers", "other"] (sp_is_within K) := ok_is_within T
  have G_first_apart : FnOk P w K mg base CX0 6 T.a_first_apart T.d_first_apart ["numbers", "other"] (sp_first_apart K) := ok_first_apart T
  have G_law_same : FnOk P w K mg base CX0 10 T.a_law_same T.d_law_same ["found", "due"] (sp_law_same K) := ok_law_same T
  have G_numbers_below : FnOk P w K mg base CX0 5 T.a_numbers_below T.d_numbers_below ["numbers", "many"] (sp_numbers_below K) := ok_numbers_below T
  have G_first_number : FnOk P w K mg base CX0 5 T.a_first_number T.d_first_number ["numbers"] (sp_first_number K) := ok_first_number T
  have G_law_below : FnOk P w K mg base CX0 1 T.a_law_below T.d_law_below ["stream", "many"] (sp_law_below K) := ok_law_below T
  have G_has_number : FnOk P w K mg base CX0 5 T.a_has_number T.d_has_number ["numbers", "number"] (sp_has_number K) := ok_has_number T
  have G_law_mleast_set : FnOk P w K mg base CX0 1 T.a_law_mleast_set T.d_law_mleast_set ["few", "ring"] (sp_law_mleast_set K) := ok_law_mleast_set T
  have G_shifted_up : FnOk P w K mg base CX0 5 T.a_shifted_up T.d_shifted_up ["numbers", "by"] (sp_shifted_up K) := ok_shifted_up T
  have G_shifted_down : FnOk P w K mg base CX0 5 T.a_shifted_down T.d_shifted_down ["numbers", "by"] (sp_shifted_down K) := ok_shifted_down T
  refine T.F_law.ok sc_law (fun vs H Q E h => len_law h) (fun cdv A outer s H vs Q E hr h => ⟨t_law K, (pss_cons (ps_set (i := 1) sc_law.nd rfl (Or.inl rfl) (pe_call G_law_start (hr.mono (by omega)) (by rfl) T.g_law_start T.F_law_start.kp T.b_law_start .nil pass0 (pa_cons (pv 0) pa_nil)))
  (pss_cons (ps_for PassesOwn.never rfl (pi_range1 (by rfl) T.n_range (pa_cons pe_int pa_nil)) (pg_name (i := 2) sc_law.nd rfl (Or.inl rfl))
   (pss_cons (ps_asg (pe_call G_law_vfar_sets (hr.mono (by omega)) (by rfl) T.g_law_vfar_sets T.F_law_vfar_sets.kp T.b_law_vfar_sets .nil pass0 (pa_cons (pv 1) (pa_cons pe_bl pa_nil))) (pg_tup (by rfl) (pgs_cons (pg_name (i := 8) sc_law.nd rfl (Or.inr rfl)) (pgs_cons (pg_name (i := 9) sc_law.nd rfl (Or.inl rfl)) pgs_nil))))
    (pss_cons (ps_if (pt_truth (pe_call G_law_chance (hr.mono (by omega)) (by rfl) T.g_law_chance T.F_law_chance.kp T.b_law_chance .nil pass0 (pa_cons (pv 1) (pa_cons pe_int pa_nil))) (by intro _; rfl))
     (pss_one (ps_asg (pe_tup (pa_cons (pe_lst (pa_cons (pe_ix ix_seq (pv 8) pe_int (fun _ _ => rfl)) (pa_cons (pe_ix ix_seq (pv 8) pe_int (fun _ _ => rfl)) pa_nil))) (pa_cons pe_non pa_nil))) (pg_tup (by rfl) (pgs_cons (pg_name (i := 8) sc_law.nd rfl (Or.inr rfl)) (pgs_cons (pg_name (i := 9) sc_law.nd rfl (Or.inl rfl)) pgs_nil)))))
     pss_nil)
    (pss_cons (ps_par (i := 10) (j := 11) rfl sc_law.nd rfl rfl (by decide) rfl rfl (pa_cons (pe_call G_law_loose (hr.mono (by omega)) (by rfl) T.g_law_loose T.F_law_loose.kp T.b_law_loose .nil pass0 (pa_cons (pv 1) (pa_cons (pe_ix ix_seq (pv 8) pe_int (fun _ _ => rfl)) pa_nil))) (pa_cons (pe_call G_law_loose (hr.mono (by omega)) (by rfl) T.g_law_loose T.F_law_loose.kp T.b_law_loose .nil pass0 (pa_cons (pv 1) (pa_cons (pe_ix ix_seq (pv 8) pe_int (fun _ _ => rfl)) pa_nil))) pa_nil)) (by rfl))
    (pss_cons (ps_setLc (i := 3) (own := [("at", 17)]) rfl sc_law.nd rfl rfl (sw_true rfl rfl rfl (by decide +kernel)) (pi_range1 (by rfl) T.n_range (pa_cons pe_int pa_nil)) (blkOk_by (N := N_law) (sc := defScope s_law) (by decide +kernel)) (fun _ _ _ _ _ => (pg_name (i := 17) sc_law.nd rfl (Or.inl rfl))) (fun _ _ _ _ _ => pts_one (pt_cmpR (op_neD hr.units) (pe_call G_law_min (hr.mono (by omega)) (by rfl) T.g_law_min T.F_law_min.kp T.b_law_min .nil pass0 (pa_cons (pe_ix ix_seq (pv 8) pe_int (fun _ _ => rfl)) (pa_cons (pv 17) pa_nil))) (pe_call G_law_min (hr.mono (by omega)) (by rfl) T.g_law_min T.F_law_min.kp T.b_law_min .nil pass0 (pa_cons (pe_ix ix_seq (pv 8) pe_int (fun _ _ => rfl)) (pa_cons (pv 17) pa_nil))) (nomark _))) (fun _ _ _ _ _ => (pv 17)))
    (pss_cons (ps_set (i := 4) sc_law.nd rfl (Or.inl rfl) (pe_lst (pa_cons (pe_call G_is_within (hr.mono (by omega)) (by rfl) T.g_is_within T.F_is_within.kp T.b_is_within .nil pass0 (pa_cons (pv 10) (pa_cons (pv 11) pa_nil))) (pa_cons (pe_callK0 G_is_within (hr.mono (by omega)) (by rfl) T.g_is_within T.F_is_within.kp (KB_is_within_other_numbers T.F_is_within) pass0 (pk_cons (pv 11) (pk_cons (pv 10) pk_nil))) (pa_cons (pe_call G_first_apart (hr.mono (by omega)) (by rfl) T.g_first_apart T.F_first_apart.kp T.b_first_apart .nil pass0 (pa_cons (pv 10) (pa_cons (pv 11) pa_nil))) (pa_cons (pe_call G_first_apart (hr.mono (by omega)) (by rfl) T.g_first_apart T.F_first_apart.kp T.b_first_apart .nil pass0 (pa_cons (pv 11) (pa_cons (pv 10) pa_nil))) pa_nil))))))
    (pss_cons (ps_if (pt_not (pt_truth (pe_call G_law_same (hr.mono (by omega)) (by rfl) T.g_law_same T.F_law_same.kp T.b_law_same .nil pass0 (pa_cons (pv 4) (pa_cons (pe_op oAdd (pe_op oMul (pe_lst (pa_cons (pe_cmpR op_isN (pv 9) pe_non (nomark _)) pa_nil)) pe_int) (pe_op oMul (pe_lst (pa_cons (pe_ifExp (pt_cmpR (op_neD hr.units) (pv 3) (pe_lst pa_nil) (nomark _)) (pe_ix ix_seq (pv 3) pe_int (fun _ _ => rfl)) pe_non) pa_nil)) pe_int)) pa_nil))) (by intro _; rfl)))
     (pss_one (ps_ret pe_bl))
     pss_nil)
    (pss_cons (ps_par (i := 12) (j := 13) rfl sc_law.nd rfl rfl (by decide) rfl rfl (pa_cons (pe_lc (own := [("at", 17)]) rfl sc_law.nd (pi_range1 (by rfl) T.n_range (pa_cons pe_int pa_nil)) (blkOk_by (N := N_law) (sc := defScope s_law) (by decide +kernel)) (fun _ _ _ _ _ => (pg_name (i := 17) sc_law.nd rfl (Or.inl rfl))) (fun _ _ _ _ _ => pts_one (pt_truth (pe_call G_law_min (hr.mono (by omega)) (by rfl) T.g_law_min T.F_law_min.kp T.b_law_min .nil pass0 (pa_cons (pe_ix ix_seq (pv 8) pe_int (fun _ _ => rfl)) (pa_cons (pv 17) pa_nil))) (by intro _; rfl))) (fun _ _ _ _ _ => (pv 17))) (pa_cons (pe_lc (own := [("at", 17)]) rfl sc_law.nd (pi_range1 (by rfl) T.n_range (pa_cons pe_int pa_nil)) (blkOk_by (N := N_law) (sc := defScope s_law) (by decide +kernel)) (fun _ _ _ _ _ => (pg_name (i := 17) sc_law.nd rfl (Or.inl rfl))) (fun _ _ _ _ _ => pts_one (pt_truth (pe_call G_law_min (hr.mono (by omega)) (by rfl) T.g_law_min T.F_law_min.kp T.b_law_min .nil pass0 (pa_cons (pe_ix ix_seq (pv 8) pe_int (fun _ _ => rfl)) (pa_cons (pv 17) pa_nil))) (by intro _; rfl))) (fun _ _ _ _ _ => (pv 17))) pa_nil)) (by rfl))
    (pss_cons (ps_if (pt_not (pt_truth (pe_call G_law_same (hr.mono (by omega)) (by rfl) T.g_law_same T.F_law_same.kp T.b_law_same .nil pass0 (pa_cons (pe_lst (pa_cons (pe_call G_numbers_below (hr.mono (by omega)) (by rfl) T.g_numbers_below T.F_numbers_below.kp T.b_numbers_below .nil pass0 (pa_cons (pv 10) (pa_cons pe_int pa_nil))) (pa_cons (pe_call G_first_number (hr.mono (by omega)) (by rfl) T.g_first_number T.F_first_number.kp T.b_first_number .nil pass0 (pa_cons (pv 10) pa_nil)) (pa_cons (pe_call G_first_number (hr.mono (by omega)) (by rfl) T.g_first_number T.F_first_number.kp T.b_first_number .nil pass0 (pa_cons (pe_tup (pa_cons (pe_op oMul (pe_lst (pa_cons pe_bl pa_nil)) pe_int) (pa_cons (pe_op oMul (pe_lst (pa_cons pe_bl pa_nil)) pe_int) pa_nil))) pa_nil)) pa_nil)))) (pa_cons (pe_lst (pa_cons (pv 12) (pa_cons (pe_ifExp (pt_cmpR (op_neD hr.units) (pv 13) (pe_lst pa_nil) (nomark _)) (pe_ix ix_seq (pv 13) pe_int (fun _ _ => rfl)) pe_non) (pa_cons pe_non pa_nil)))) pa_nil))) (by intro _; rfl)))
     (pss_one (ps_ret pe_bl))
     pss_nil)
    (pss_cons (ps_for PassesOwn.never rfl (pi_seq (pe_tup (pa_cons (pe_op op_pow pe_int pe_int) (pa_cons (pe_op op_sub (pe_op op_sub (pe_op op_pow pe_int pe_int) pe_int) (pe_call G_law_below (hr.mono (by omega)) (by rfl) T.g_law_below T.F_law_below.kp T.b_law_below .nil pass0 (pa_cons (pv 1) (pa_cons (pe_op op_pow pe_int pe_int) pa_nil)))) (pa_cons (pe_op oAdd pe_int (pe_call G_law_below (hr.mono (by omega)) (by rfl) T.g_law_below T.F_law_below.kp T.b_law_below .nil pass0 (pa_cons (pv 1) (pa_cons (pe_op op_pow pe_int pe_int) pa_nil)))) (pa_cons (pe_call G_law_below (hr.mono (by omega)) (by rfl) T.g_law_below T.F_law_below.kp T.b_law_below .nil pass0 (pa_cons (pv 1) (pa_cons pe_int pa_nil))) pa_nil)))))) (pg_name (i := 5) sc_law.nd rfl (Or.inl rfl))
     (pss_one (ps_if (pt_not (pt_truth (pe_call G_law_same (hr.mono (by omega)) (by rfl) T.g_law_same T.F_law_same.kp T.b_law_same .nil pass0 (pa_cons (pe_lst (pa_cons (pe_call G_has_number (hr.mono (by omega)) (by rfl) T.g_has_number T.F_has_number.kp T.b_has_number .nil pass0 (pa_cons (pv 10) (pa_cons (pv 5) pa_nil))) (pa_cons (pe_call G_has_number (hr.mono (by omega)) (by rfl) T.g_has_number T.F_has_number.kp T.b_has_number .nil pass0 (pa_cons (pv 11) (pa_cons (pv 5) pa_nil))) pa_nil))) (pa_cons (pe_lst (pa_cons (pe_call G_law_min (hr.mono (by omega)) (by rfl) T.g_law_min T.F_law_min.kp T.b_law_min .nil pass0 (pa_cons (pe_ix ix_seq (pv 8) pe_int (fun _ _ => rfl)) (pa_cons (pv 5) pa_nil))) (pa_cons (pe_call G_law_min (hr.mono (by omega)) (by rfl) T.g_law_min T.F_law_min.kp T.b_law_min .nil pass0 (pa_cons (pe_ix ix_seq (pv 8) pe_int (fun _ _ => rfl)) (pa_cons (pv 5) pa_nil))) pa_nil))) pa_nil))) (by intro _; rfl)))
       (pss_one (ps_ret pe_bl))
       pss_nil)))
    (pss_cons (ps_asg (pe_tup (pa_cons (pe_call G_law_below (hr.mono (by omega)) (by rfl) T.g_law_below T.F_law_below.kp T.b_law_below .nil pass0 (pa_cons (pv 1) (pa_cons pe_int pa_nil))) (pa_cons (pe_lc (own := [("few", 18), ("ring", 19)]) rfl sc_law.nd (pi_seq (pv 8)) (blkOk_by (N := N_law) (sc := defScope s_law) (by decide +kernel)) (fun _ _ _ _ _ => (pg_tup (by rfl) (pgs_cons (pg_name (i := 18) sc_law.nd rfl (Or.inl rfl)) (pgs_cons (pg_name (i := 19) sc_law.nd rfl (Or.inl rfl)) pgs_nil)))) (fun _ _ _ _ _ => pts_nil) (fun _ _ _ _ _ => (pe_call G_law_mleast_set (hr.mono (by omega)) (by rfl) T.g_law_mleast_set T.F_law_mleast_set.kp T.b_law_mleast_set .nil pass0 (pa_cons (pv 18) (pa_cons (pv 19) pa_nil))))) pa_nil))) (pg_tup (by rfl) (pgs_cons (pg_name (i := 14) sc_law.nd rfl (Or.inr rfl)) (pgs_cons (pg_name (i := 15) sc_law.nd rfl (Or.inl rfl)) pgs_nil))))
    (pss_cons (ps_setLc (i := 6) (own := [("few", 18), ("ring", 19)]) rfl sc_law.nd rfl rfl (sw_true rfl rfl rfl (by decide +kernel)) (pi_seq (pv 15)) (blkOk_by (N := N_law) (sc := defScope s_law) (by decide +kernel)) (fun _ _ _ _ _ => (pg_tup (by rfl) (pgs_cons (pg_name (i := 18) sc_law.nd rfl (Or.inl rfl)) (pgs_cons (pg_name (i := 19) sc_law.nd rfl (Or.inl rfl)) pgs_nil)))) (fun _ _ _ _ _ => pts_nil) (fun _ _ _ _ _ => (pe_tup (pa_cons (pe_op oAdd (pe_op oMul (pe_lst (pa_cons pe_bl pa_nil)) (pv 14)) (pv 18)) (pa_cons (pv 19) pa_nil)))))
    (pss_cons (ps_setLc (i := 7) (own := [("few", 18), ("ring", 19)]) rfl sc_law.nd rfl rfl (sw_true rfl rfl rfl (by decide +kernel)) (pi_seq (pv 6)) (blkOk_by (N := N_law) (sc := defScope s_law) (by decide +kernel)) (fun _ _ _ _ _ => (pg_tup (by rfl) (pgs_cons (pg_name (i := 18) sc_law.nd rfl (Or.inl rfl)) (pgs_cons (pg_name (i := 19) sc_law.nd rfl (Or.inl rfl)) pgs_nil)))) (fun _ _ _ _ _ => pts_nil) (fun _ _ _ _ _ => (pe_call G_law_mleast_set (hr.mono (by omega)) (by rfl) T.g_law_mleast_set T.F_law_mleast_set.kp T.b_law_mleast_set .nil pass0 (pa_cons (pv 18) (pa_cons (pv 19) pa_nil)))))
    (pss_one (ps_if (pt_cmpR op_lt (pe_callB (cr_max rfl) (by rfl) T.n_max (by decide +kernel) (pa_cons (pe_lc (own := [("few", 18), ("ring", 19)]) rfl sc_law.nd (pi_seq (pv 7)) (blkOk_by (N := N_law) (sc := defScope s_law) (by decide +kernel)) (fun _ _ _ _ _ => (pg_tup (by rfl) (pgs_cons (pg_name (i := 18) sc_law.nd rfl (Or.inl rfl)) (pgs_cons (pg_name (i := 19) sc_law.nd rfl (Or.inl rfl)) pgs_nil)))) (fun _ _ _ _ _ => pts_nil) (fun _ _ _ _ _ => (pe_callB call_len (by rfl) T.n_len (by decide +kernel) (pa_cons (pv 18) pa_nil)))) pa_nil)) pe_int (nomark _))
     (pss_cons (ps_set (i := 16) sc_law.nd rfl (Or.inl rfl) (pe_lst (pa_cons (pe_call G_shifted_up (hr.mono (by omega)) (by rfl) T.g_shifted_up T.F_shifted_up.kp T.b_shifted_up .nil pass0 (pa_cons (pv 10) (pa_cons (pv 14) pa_nil))) (pa_cons (pe_call G_shifted_up (hr.mono (by omega)) (by rfl) T.g_shifted_up T.F_shifted_up.kp T.b_shifted_up .nil pass0 (pa_cons (pv 11) (pa_cons (pv 14) pa_nil))) pa_nil))))
      (pss_cons (ps_if (PW.pt (pw_or (pt_not (pt_truth (pe_call G_law_same (hr.mono (by omega)) (by rfl) T.g_law_same T.F_law_same.kp T.b_law_same .nil pass0 (pa_cons (pv 16) (pa_cons (pv 7) pa_nil))) (by intro _; rfl))) (pw_or1 (pt_not (pt_truth (pe_call G_law_same (hr.mono (by omega)) (by rfl) T.g_law_same T.F_law_same.kp T.b_law_same .nil pass0 (pa_cons (pe_call G_is_within (hr.mono (by omega)) (by rfl) T.g_is_within T.F_is_within.kp T.b_is_within .nil pass0 (pa_cons (pe_ix ix_seq (pv 16) pe_int (fun _ _ => rfl)) (pa_cons (pe_ix ix_seq (pv 16) pe_int (fun _ _ => rfl)) pa_nil))) (pa_cons (pe_cmpR op_isN (pv 9) pe_non (nomark _)) pa_nil))) (by intro _; rfl))))))
       (pss_one (ps_ret pe_bl))
       pss_nil)
      (pss_one (ps_if (pt_not (pt_truth (pe_call G_law_same (hr.mono (by omega)) (by rfl) T.g_law_same T.F_law_same.kp T.b_law_same .nil pass0 (pa_cons (pe_lst (pa_cons (pe_call G_shifted_down (hr.mono (by omega)) (by rfl) T.g_shifted_down T.F_shifted_down.kp T.b_shifted_down .nil pass0 (pa_cons (pe_ix ix_seq (pv 16) pe_int (fun _ _ => rfl)) (pa_cons (pv 14) pa_nil))) (pa_cons (pe_call G_shifted_down (hr.mono (by omega)) (by rfl) T.g_shifted_down T.F_shifted_down.kp T.b_shifted_down .nil pass0 (pa_cons (pe_ix ix_seq (pv 16) pe_int (fun _ _ => rfl)) (pa_cons (pv 14) pa_nil))) pa_nil))) (pa_cons (pv 15) pa_nil))) (by intro _; rfl)))
       (pss_one (ps_ret pe_bl))
       pss_nil))))
     pss_nil)))))))))))))))
  (pss_one (ps_ret pe_bl)))), rd_law h⟩)
end
end K9

namespace K9
open PySem L2
theorem df_mk {x : Str} {st : Stmt} {K : PySem.W.Frag} {h : Heap} {mg : Str → Option Value} {f : Addr} {oc : Value} {od an : Option Addr} {osl : Array (Option Value)} {kV doc pm cdv ct : Value} (X : K.In h) (G : h.Ns mainGlobals mg) (a : PySem.W.nsIn K mainGlobals x = some (some (.ref f)))
    (l : K.lookup f = some ⟨oc, od, .func (PySem.W.fnOf x x (defArgs st) (defBody st) (defScope st) .none kV doc pm an cdv ct), osl⟩) (c : PySem.W.codeIn K cdv x = true) (k : PySem.W.keepIn K (.ref f) = true) : ∃ fd, Fun K x x st f fd ∧ mg x = some (.ref f) := ⟨_, fun_mk l c k, PySem.W.mg_of X G a⟩
theorem txt_mk {K : PySem.W.Frag} {mg : Str → Option Value} {f_is_row f_is_number f_is_truths f_round_size f_least_of f_set_in f_need_set f_need_sets f_told_set f_in_set f_common_round f_set_by f_first_of f_has_number f_numbers_below f_is_within f_first_number f_first_apart f_need_by f_up_by f_down_by f_shifted_up f_shifted_down f_law_mleast_set f_law_min f_law_start f_law_below f_law_chance f_law_mixed f_law_same f_law_loose f_law_vfar_sets f_law : Addr}
    (D_is_row : ∃ fd, Fun K "is_row" "is_row" s_is_row f_is_row fd ∧ mg "is_row" = some (.ref f_is_row))
    (D_is_number : ∃ fd, Fun K "is_number" "is_number" s_is_number f_is_number fd ∧ mg "is_number" = some (.ref f_is_number))
    (D_is_truths : ∃ fd, Fun K "is_truths" "is_truths" s_is_truths f_is_truths fd ∧ mg "is_truths" = some (.ref f_is_truths))
    (D_round_size : ∃ fd, Fun K "round_size" "round_size" s_round_size f_round_size fd ∧ mg "round_size" = some (.ref f_round_size))
    (D_least_of : ∃ fd, Fun K "least_of" "least_of" s_least_of f_least_of fd ∧ mg "least_of" = some (.ref f_least_of))
    (D_set_in : ∃ fd, Fun K "set_in" "set_in" s_set_in f_set_in fd ∧ mg "set_in" = some (.ref f_set_in))
    (D_need_set : ∃ fd, Fun K "need_set" "need_set" s_need_set f_need_set fd ∧ mg "need_set" = some (.ref f_need_set))
    (D_need_sets : ∃ fd, Fun K "need_sets" "need_sets" s_need_sets f_need_sets fd ∧ mg "need_sets" = some (.ref f_need_sets))
    (D_told_set : ∃ fd, Fun K "told_set" "told_set" s_told_set f_told_set fd ∧ mg "told_set" = some (.ref f_told_set))
    (D_in_set : ∃ fd, Fun K "in_set" "in_set" s_in_set f_in_set fd ∧ mg "in_set" = some (.ref f_in_set))
    (D_common_round : ∃ fd, Fun K "common_round" "common_round" s_common_round f_common_round fd ∧ mg "common_round" = some (.ref f_common_round))
    (D_set_by : ∃ fd, Fun K "set_by" "set_by" s_set_by f_set_by fd ∧ mg "set_by" = some (.ref f_set_by))
    (D_first_of : ∃ fd, Fun K "first_of" "first_of" s_first_of f_first_of fd ∧ mg "first_of" = some (.ref f_first_of))
    (D_has_number : ∃ fd, Fun K "has_number" "has_number" s_has_number f_has_number fd ∧ mg "has_number" = some (.ref f_has_number))
    (D_numbers_below : ∃ fd, Fun K "numbers_below" "numbers_below" s_numbers_below f_numbers_below fd ∧ mg "numbers_below" = some (.ref f_numbers_below))
    (D_is_within : ∃ fd, Fun K "is_within" "is_within" s_is_within f_is_within fd ∧ mg "is_within" = some (.ref f_is_within))
    (D_first_number : ∃ fd, Fun K "first_number" "first_number" s_first_number f_first_number fd ∧ mg "first_number" = some (.ref f_first_number))
    (D_first_apart : ∃ fd, Fun K "first_apart" "first_apart" s_first_apart f_first_apart fd ∧ mg "first_apart" = some (.ref f_first_apart))
    (D_need_by : ∃ fd, Fun K "need_by" "need_by" s_need_by f_need_by fd ∧ mg "need_by" = some (.ref f_need_by))
    (D_up_by : ∃ fd, Fun K "up_by" "up_by" s_up_by f_up_by fd ∧ mg "up_by" = some (.ref f_up_by))
    (D_down_by : ∃ fd, Fun K "down_by" "down_by" s_down_by f_down_by fd ∧ mg "down_by" = some (.ref f_down_by))
    (D_shifted_up : ∃ fd, Fun K "shifted_up" "shifted_up" s_shifted_up f_shifted_up fd ∧ mg "shifted_up" = some (.ref f_shifted_up))
    (D_shifted_down : ∃ fd, Fun K "shifted_down" "shifted_down" s_shifted_down f_shifted_down fd ∧ mg "shifted_down" = some (.ref f_shifted_down))
    (D_law_mleast_set : ∃ fd, Fun K "_law_mleast_set" "_law_mleast_set" s_law_mleast_set f_law_mleast_set fd ∧ mg "_law_mleast_set" = some (.ref f_law_mleast_set))
    (D_law_min : ∃ fd, Fun K "_law_min" "_law_min" s_law_min f_law_min fd ∧ mg "_law_min" = some (.ref f_law_min))
    (D_law_start : ∃ fd, Fun K "_law_start" "_law_start" s_law_start f_law_start fd ∧ mg "_law_start" = some (.ref f_law_start))
    (D_law_below : ∃ fd, Fun K "_law_below" "_law_below" s_law_below f_law_below fd ∧ mg "_law_below" = some (.ref f_law_below))
    (D_law_chance : ∃ fd, Fun K "_law_chance" "_law_chance" s_law_chance f_law_chance fd ∧ mg "_law_chance" = some (.ref f_law_chance))
    (D_law_mixed : ∃ fd, Fun K "_law_mixed" "_law_mixed" s_law_mixed f_law_mixed fd ∧ mg "_law_mixed" = some (.ref f_law_mixed))
    (D_law_same : ∃ fd, Fun K "_law_same" "_law_same" s_law_same f_law_same fd ∧ mg "_law_same" = some (.ref f_law_same))
    (D_law_loose : ∃ fd, Fun K "_law_loose" "_law_loose" s_law_loose f_law_loose fd ∧ mg "_law_loose" = some (.ref f_law_loose))
    (D_law_vfar_sets : ∃ fd, Fun K "_law_vfar_sets" "_law_vfar_sets" s_law_vfar_sets f_law_vfar_sets fd ∧ mg "_law_vfar_sets" = some (.ref f_law_vfar_sets))
    (D_law : ∃ fd, Fun K "law" "law" s_law f_law fd ∧ mg "law" = some (.ref f_law))
    (m_MOST : ∃ t, mg "MOST" = some (.int 60 t))
    (z_all : mg "all" = none)
    (z_bool : mg "bool" = none)
    (z_dict : mg "dict" = none)
    (z_int : mg "int" = none)
    (z_isinstance : mg "isinstance" = none)
    (z_len : mg "len" = none)
    (z_list : mg "list" = none)
    (z_max : mg "max" = none)
    (z_range : mg "range" = none)
    (z_str : mg "str" = none)
    (z_tuple : mg "tuple" = none)
    (z_zip : mg "zip" = none)
    : ∃ T : Txt K mg, T.a_law = f_law := by
  obtain ⟨d_is_row, F_is_row, g_is_row⟩ := D_is_row
  obtain ⟨d_is_number, F_is_number, g_is_number⟩ := D_is_number
  obtain ⟨d_is_truths, F_is_truths, g_is_truths⟩ := D_is_truths
  obtain ⟨d_round_size, F_round_size, g_round_size⟩ := D_round_size
  obtain ⟨d_least_of, F_least_of, g_least_of⟩ := D_least_of
  obtain ⟨d_set_in, F_set_in, g_set_in⟩ := D_set_in
  obtain ⟨d_need_set, F_need_set, g_need_set⟩ := D_need_set
  obtain ⟨d_need_sets, F_need_sets, g_need_sets⟩ := D_need_sets
  obtain ⟨d_told_set, F_told_set, g_told_set⟩ := D_told_set
  obtain ⟨d_in_set, F_in_set, g_in_set⟩ := D_in_set
  obtain ⟨d_common_round, F_common_round, g_common_round⟩ := D_common_round
  obtain ⟨d_set_by, F_set_by, g_set_by⟩ := D_set_by
  obtain ⟨d_first_of, F_first_of, g_first_of⟩ := D_first_of
  obtain ⟨d_has_number, F_has_number, g_has_number⟩ := D_has_number
  obtain ⟨d_numbers_below, F_numbers_below, g_numbers_below⟩ := D_numbers_below
  obtain ⟨d_is_within, F_is_within, g_is_within⟩ := D_is_within
  obtain ⟨d_first_number, F_first_number, g_first_number⟩ := D_first_number
  obtain ⟨d_first_apart, F_first_apart, g_first_apart⟩ := D_first_apart
  obtain ⟨d_need_by, F_need_by, g_need_by⟩ := D_need_by
  obtain ⟨d_up_by, F_up_by, g_up_by⟩ := D_up_by
  obtain ⟨d_down_by, F_down_by, g_down_by⟩ := D_down_by
  obtain ⟨d_shifted_up, F_shifted_up, g_shifted_up⟩ := D_shifted_up
  obtain ⟨d_shifted_down, F_shifted_down, g_shifted_down⟩ := D_shifted_down
  obtain ⟨d_law_mleast_set, F_law_mleast_set, g_law_mleast_set⟩ := D_law_mleast_set
  obtain ⟨d_law_min, F_law_min, g_law_min⟩ := D_law_min
  obtain ⟨d_law_start, F_law_start, g_law_start⟩ := D_law_start
  obtain ⟨d_law_below, F_law_below, g_law_below⟩ := D_law_below
  obtain ⟨d_law_chance, F_law_chance, g_law_chance⟩ := D_law_chance
  obtain ⟨d_law_mixed, F_law_mixed, g_law_mixed⟩ := D_law_mixed
  obtain ⟨d_law_same, F_law_same, g_law_same⟩ := D_law_same
  obtain ⟨d_law_loose, F_law_loose, g_law_loose⟩ := D_law_loose
  obtain ⟨d_law_vfar_sets, F_law_vfar_sets, g_law_vfar_sets⟩ := D_law_vfar_sets
  obtain ⟨d_law, F_law, g_law⟩ := D_law
  obtain ⟨t_MOST, g_MOST⟩ := m_MOST
  exact ⟨{ a_is_row := f_is_row, d_is_row := d_is_row, F_is_row := F_is_row, g_is_row := g_is_row, b_is_row := F_is_row.binds (ps := ["thing"]) (fun _ _ _ _ _ _ us hl => match us, hl with | [_], _ => rfl), a_is_number := f_is_number, d_is_number := d_is_number, F_is_number := F_is_number, g_is_number := g_is_number, b_is_number := F_is_number.binds (ps := ["thing", "low", "high"]) (fun _ _ _ _ _ _ us hl => match us, hl with | [_, _, _], _ => rfl), a_is_truths := f_is_truths, d_is_truths := d_is_truths, F_is_truths := F_is_truths, g_is_truths := g_is_truths, b_is_truths := F_is_truths.binds (ps := ["thing"]) (fun _ _ _ _ _ _ us hl => match us, hl with | [_], _ => rfl), a_round_size := f_round_size, d_round_size := d_round_size, F_round_size := F_round_size, g_round_size := g_round_size, b_round_size := F_round_size.binds (ps := ["ring"]) (fun _ _ _ _ _ _ us hl => match us, hl with | [_], _ => rfl), a_least_of := f_least_of, d_least_of := d_least_of, F_least_of := F_least_of, g_least_of := g_least_of, b_least_of := F_least_of.binds (ps := ["few", "ring"]) (fun _ _ _ _ _ _ us hl => match us, hl with | [_, _], _ => rfl), a_set_in := f_set_in, d_set_in := d_set_in, F_set_in := F_set_in, g_set_in := g_set_in, b_set_in := F_set_in.binds (ps := ["thing"]) (fun _ _ _ _ _ _ us hl => match us, hl with | [_], _ => rfl), a_need_set := f_need_set, d_need_set := d_need_set, F_need_set := F_need_set, g_need_set := g_need_set, b_need_set := F_need_set.binds (ps := ["numbers"]) (fun _ _ _ _ _ _ us hl => match us, hl with | [_], _ => rfl), a_need_sets := f_need_sets, d_need_sets := d_need_sets, F_need_sets := F_need_sets, g_need_sets := g_need_sets, b_need_sets := F_need_sets.binds (ps := ["numbers", "other"]) (fun _ _ _ _ _ _ us hl => match us, hl with | [_, _], _ => rfl), a_told_set := f_told_set, d_told_set := d_told_set, F_told_set := F_told_set, g_told_set := g_told_set, b_told_set := F_told_set.binds (ps := ["plain"]) (fun _ _ _ _ _ _ us hl => match us, hl with | [_], _ => rfl), a_in_set := f_in_set, d_in_set := d_in_set, F_in_set := F_in_set, g_in_set := g_in_set, b_in_set := F_in_set.binds (ps := ["plain", "number"]) (fun _ _ _ _ _ _ us hl => match us, hl with | [_, _], _ => rfl), a_common_round := f_common_round, d_common_round := d_common_round, F_common_round := F_common_round, g_common_round := g_common_round, b_common_round := F_common_round.binds (ps := ["one", "two"]) (fun _ _ _ _ _ _ us hl => match us, hl with | [_, _], _ => rfl), a_set_by := f_set_by, d_set_by := d_set_by, F_set_by := F_set_by, g_set_by := g_set_by, b_set_by := F_set_by.binds (ps := ["one", "two", "truths"]) (fun _ _ _ _ _ _ us hl => match us, hl with | [_, _, _], _ => rfl), a_first_of := f_first_of, d_first_of := d_first_of, F_first_of := F_first_of, g_first_of := g_first_of, b_first_of := F_first_of.binds (ps := ["plain"]) (fun _ _ _ _ _ _ us hl => match us, hl with | [_], _ => rfl), a_has_number := f_has_number, d_has_number := d_has_number, F_has_number := F_has_number, g_has_number := g_has_number, b_has_number := F_has_number.binds (ps := ["numbers", "number"]) (fun _ _ _ _ _ _ us hl => match us, hl with | [_, _], _ => rfl), a_numbers_below := f_numbers_below, d_numbers_below := d_numbers_below, F_numbers_below := F_numbers_below, g_numbers_below := g_numbers_below, b_numbers_below := F_numbers_below.binds (ps := ["numbers", "many"]) (fun _ _ _ _ _ _ us hl => match us, hl with | [_, _], _ => rfl), a_is_within := f_is_within, d_is_within := d_is_within, F_is_within := F_is_within, g_is_within := g_is_within, b_is_within := F_is_within.binds (ps := ["numbers", "other"]) (fun _ _ _ _ _ _ us hl => match us, hl with | [_, _], _ => rfl), a_first_number := f_first_number, d_first_number := d_first_number, F_first_number := F_first_number, g_first_number := g_first_number, b_first_number := F_first_number.binds (ps := ["numbers"]) (fun _ _ _ _ _ _ us hl => match us, hl with | [_], _ => rfl), a_first_apart := f_first_apart, d_first_apart := d_first_apart, F_first_apart := F_first_apart, g_first_apart := g_first_apart, b_first_apart := F_first_apart.binds (ps := ["numbers", "other"]) (fun _ _ _ _ _ _ us hl => match us, hl with | [_, _], _ => rfl), a_need_by := f_need_by, d_need_by := d_need_by, F_need_by := F_need_by, g_need_by := g_need_by, b_need_by := F_need_by.binds (ps := ["by"]) (fun _ _ _ _ _ _ us hl => match us, hl with | [_], _ => rfl), a_up_by := f_up_by, d_up_by := d_up_by, F_up_by := F_up_by, g_up_by := g_up_by, b_up_by := F_up_by.binds (ps := ["plain", "by"]) (fun _ _ _ _ _ _ us hl => match us, hl with | [_, _], _ => rfl), a_down_by := f_down_by, d_down_by := d_down_by, F_down_by := F_down_by, g_down_by := g_down_by, b_down_by := F_down_by.binds (ps := ["plain", "by"]) (fun _ _ _ _ _ _ us hl => match us, hl with | [_, _], _ => rfl), a_shifted_up := f_shifted_up, d_shifted_up := d_shifted_up, F_shifted_up := F_shifted_up, g_shifted_up := g_shifted_up, b_shifted_up := F_shifted_up.binds (ps := ["numbers", "by"]) (fun _ _ _ _ _ _ us hl => match us, hl with | [_, _], _ => rfl), a_shifted_down := f_shifted_down, d_shifted_down := d_shifted_down, F_shifted_down := F_shifted_down, g_shifted_down := g_shifted_down, b_shifted_down := F_shifted_down.binds (ps := ["numbers", "by"]) (fun _ _ _ _ _ _ us hl => match us, hl with | [_, _], _ => rfl), a_law_mleast_set := f_law_mleast_set, d_law_mleast_set := d_law_mleast_set, F_law_mleast_set := F_law_mleast_set, g_law_mleast_set := g_law_mleast_set, b_law_mleast_set := F_law_mleast_set.binds (ps := ["few", "ring"]) (fun _ _ _ _ _ _ us hl => match us, hl with | [_, _], _ => rfl), a_law_min := f_law_min, d_law_min := d_law_min, F_law_min := F_law_min, g_law_min := g_law_min, b_law_min := F_law_min.binds (ps := ["numbers", "number"]) (fun _ _ _ _ _ _ us hl => match us, hl with | [_, _], _ => rfl), a_law_start := f_law_start, d_law_start := d_law_start, F_law_start := F_law_start, g_law_start := g_law_start, b_law_start := F_law_start.binds (ps := ["script"]) (fun _ _ _ _ _ _ us hl => match us, hl with | [_], _ => rfl), a_law_below := f_law_below, d_law_below := d_law_below, F_law_below := F_law_below, g_law_below := g_law_below, b_law_below := F_law_below.binds (ps := ["stream", "many"]) (fun _ _ _ _ _ _ us hl => match us, hl with | [_, _], _ => rfl), a_law_chance := f_law_chance, d_law_chance := d_law_chance, F_law_chance := F_law_chance, g_law_chance := g_law_chance, b_law_chance := F_law_chance.binds (ps := ["stream", "many"]) (fun _ _ _ _ _ _ us hl => match us, hl with | [_, _], _ => rfl), a_law_mixed := f_law_mixed, d_law_mixed := d_law_mixed, F_law_mixed := F_law_mixed, g_law_mixed := g_law_mixed, b_law_mixed := F_law_mixed.binds (ps := ["stream", "some"]) (fun _ _ _ _ _ _ us hl => match us, hl with | [_, _], _ => rfl), a_law_same := f_law_same, d_law_same := d_law_same, F_law_same := F_law_same, g_law_same := g_law_same, b_law_same := F_law_same.binds (ps := ["found", "due"]) (fun _ _ _ _ _ _ us hl => match us, hl with | [_, _], _ => rfl), a_law_loose := f_law_loose, d_law_loose := d_law_loose, F_law_loose := F_law_loose, g_law_loose := g_law_loose, b_law_loose := F_law_loose.binds (ps := ["stream", "thing"]) (fun _ _ _ _ _ _ us hl => match us, hl with | [_, _], _ => rfl), a_law_vfar_sets := f_law_vfar_sets, d_law_vfar_sets := d_law_vfar_sets, F_law_vfar_sets := F_law_vfar_sets, g_law_vfar_sets := g_law_vfar_sets, b_law_vfar_sets := F_law_vfar_sets.binds (ps := ["stream", "first"]) (fun _ _ _ _ _ _ us hl => match us, hl with | [_, _], _ => rfl), a_law := f_law, d_law := d_law, F_law := F_law, g_law := g_law, b_law := F_law.binds (ps := ["script"]) (fun _ _ _ _ _ _ us hl => match us, hl with | [_], _ => rfl), t_MOST := t_MOST, g_MOST := g_MOST, n_all := z_all, n_bool := z_bool, n_dict := z_dict, n_int := z_int, n_isinstance := z_isinstance, n_len := z_len, n_list := z_list, n_max := z_max, n_range := z_range, n_str := z_str, n_tuple := z_tuple, n_zip := z_zip }, rfl⟩
theorem law_binds {K : PySem.W.Frag} {f : Addr} {fd : FuncData} (F : Fun K "law" "law" s_law f fd) (s : Shared) (v : Value) : BindsTo s fd ⟨[v], []⟩ [("script", v)] := by
  obtain ⟨oc, od, kV, doc, pm, an, cdv, ct, osl, rfl, lk, hcd⟩ := F.ex
  exact .of_eq rfl
theorem law_all {l : PySem.W.OpenLaw} {w : World} {K : PySem.W.Frag} {mg : Str → Option Value} {fa fl : Addr} (h : ∃ T : Txt K mg, T.a_law = fl) (g : mg "law" = some (.ref fa)) :
    ∃ fd : FuncData, (∀ (s : Shared) (v : Value), BindsTo s fd ⟨[v], []⟩ [("script", v)]) ∧ ∀ base : Heap, K.In base → base.Ns mainGlobals mg → FnOk l.prog w K mg base CX0 12 fa fd ["script"] (Sf.sp_law K) := by
  obtain ⟨T, rfl⟩ := h
  have e := g.symm.trans T.g_law
  cases e
  exact ⟨T.d_law, law_binds T.F_law, fun base _ _ => ok_law T⟩
theorem mi_mk {x : Str} {i : Int} {v : Value} {K : PySem.W.Frag} {h : Heap} {mg : Str → Option Value} (X : K.In h) (G : h.Ns mainGlobals mg) (a : PySem.W.nsIn K mainGlobals x = some (some v)) (b : ∃ t, v = .int i t) : ∃ t, mg x = some (.int i t) := by
  obtain ⟨t, rfl⟩ := b
  exact ⟨t, PySem.W.mg_of X G a⟩
end K9
open PySem PySem.W PyProof.Rows
set_option maxHeartbeats 0 in
theorem PySem.Challenge.cw_swornfilters_k09_whole_sets_far_out_holds : PySem.Challenge.rw_swornfilters_k09_whole_sets_far_out.Holds := by
  w_on; o_law; k_head; (case hw => w_witness2)
  k_fill
  refine L2.walk_of (l := PySem.Challenge.rw_swornfilters_k09_whole_sets_far_out) (n := 63) (k := 12) (x := "script") (CX := fun _ => L2.CX0) (sp := fun w => Sf.sp_law _) rfl (by decide) rfl ⟨rfl, by decide, by decide⟩ (fun w h Y => PySem.W.kIn_of Y) ?F (fun _ _ a ns hl _ hS => ⟨a, ns, rfl, hS, fun _ => rfl⟩) (fun _ _ _ _ _ h => h)
  case F =>
    intro w mg fa h KX G hmg
    refine' K9.law_all (K9.txt_mk (K9.df_mk KX G ?a_is_row ?l_is_row ?c_is_row ?k_is_row) (K9.df_mk KX G ?a_is_number ?l_is_number ?c_is_number ?k_is_number) (K9.df_mk KX G ?a_is_truths ?l_is_truths ?c_is_truths ?k_is_truths) (K9.df_mk KX G ?a_round_size ?l_round_size ?c_round_size ?k_round_size) (K9.df_mk KX G ?a_least_of ?l_least_of ?c_least_of ?k_least_of) (K9.df_mk KX G ?a_set_in ?l_set_in ?c_set_in ?k_set_in) (K9.df_mk KX G ?a_need_set ?l_need_set ?c_need_set ?k_need_set) (K9.df_mk KX G ?a_need_sets ?l_need_sets ?c_need_sets ?k_need_sets) (K9.df_mk KX G ?a_told_set ?l_told_set ?c_told_set ?k_told_set) (K9.df_mk KX G ?a_in_set ?l_in_set ?c_in_set ?k_in_set) (K9.df_mk KX G ?a_common_round ?l_common_round ?c_common_round ?k_common_round) (K9.df_mk KX G ?a_set_by ?l_set_by ?c_set_by ?k_set_by) (K9.df_mk KX G ?a_first_of ?l_first_of ?c_first_of ?k_first_of) (K9.df_mk KX G ?a_has_number ?l_has_number ?c_has_number ?k_has_number) (K9.df_mk KX G ?a_numbers_below ?l_numbers_below ?c_numbers_below ?k_numbers_below) (K9.df_mk KX G ?a_is_within ?l_is_within ?c_is_within ?k_is_within) (K9.df_mk KX G ?a_first_number ?l_first_number ?c_first_number ?k_first_number) (K9.df_mk KX G ?a_first_apart ?l_first_apart ?c_first_apart ?k_first_apart) (K9.df_mk KX G ?a_need_by ?l_need_by ?c_need_by ?k_need_by) (K9.df_mk KX G ?a_up_by ?l_up_by ?c_up_by ?k_up_by) (K9.df_mk KX G ?a_down_by ?l_down_by ?c_down_by ?k_down_by) (K9.df_mk KX G ?a_shifted_up ?l_shifted_up ?c_shifted_up ?k_shifted_up) (K9.df_mk KX G ?a_shifted_down ?l_shifted_down ?c_shifted_down ?k_shifted_down) (K9.df_mk KX G ?a_law_mleast_set ?l_law_mleast_set ?c_law_mleast_set ?k_law_mleast_set) (K9.df_mk KX G ?a_law_min ?l_law_min ?c_law_min ?k_law_min) (K9.df_mk KX G ?a_law_start ?l_law_start ?c_law_start ?k_law_start) (K9.df_mk KX G ?a_law_below ?l_law_below ?c_law_below ?k_law_below) (K9.df_mk KX G ?a_law_chance ?l_law_chance ?c_law_chance ?k_law_chance) (K9.df_mk KX G ?a_law_mixed ?l_law_mixed ?c_law_mixed ?k_law_mixed) (K9.df_mk KX G ?a_law_same ?l_law_same ?c_law_same ?k_law_same) (K9.df_mk KX G ?a_law_loose ?l_law_loose ?c_law_loose ?k_law_loose) (K9.df_mk KX G ?a_law_vfar_sets ?l_law_vfar_sets ?c_law_vfar_sets ?k_law_vfar_sets) (K9.df_mk KX G ?a_law ?l_law ?c_law ?k_law) (K9.mi_mk KX G ?m_MOST ?n_MOST) (PySem.W.mg_none_of KX G ?z_all) (PySem.W.mg_none_of KX G ?z_bool) (PySem.W.mg_none_of KX G ?z_dict) (PySem.W.mg_none_of KX G ?z_int) (PySem.W.mg_none_of KX G ?z_isinstance) (PySem.W.mg_none_of KX G ?z_len) (PySem.W.mg_none_of KX G ?z_list) (PySem.W.mg_none_of KX G ?z_max) (PySem.W.mg_none_of KX G ?z_range) (PySem.W.mg_none_of KX G ?z_str) (PySem.W.mg_none_of KX G ?z_tuple) (PySem.W.mg_none_of KX G ?z_zip)) hmg
    (case a_is_row => k_is); (case l_is_row => k_is); (case c_is_row => k_is); (case k_is_row => k_is)
    (case a_is_number => k_is); (case l_is_number => k_is); (case c_is_number => k_is); (case k_is_number => k_is)
    (case a_is_truths => k_is); (case l_is_truths => k_is); (case c_is_truths => k_is); (case k_is_truths => k_is)
    (case a_round_size => k_is); (case l_round_size => k_is); (case c_round_size => k_is); (case k_round_size => k_is)
    (case a_least_of => k_is); (case l_least_of => k_is); (case c_least_of => k_is); (case k_least_of => k_is)
    (case a_set_in => k_is); (case l_set_in => k_is); (case c_set_in => k_is); (case k_set_in => k_is)
    (case a_need_set => k_is); (case l_need_set => k_is); (case c_need_set => k_is); (case k_need_set => k_is)
    (case a_need_sets => k_is); (case l_need_sets => k_is); (case c_need_sets => k_is); (case k_need_sets => k_is)
    (case a_told_set => k_is); (case l_told_set => k_is); (case c_told_set => k_is); (case k_told_set => k_is)
    (case a_in_set => k_is); (case l_in_set => k_is); (case c_in_set => k_is); (case k_in_set => k_is)
    (case a_common_round => k_is); (case l_common_round => k_is); (case c_common_round => k_is); (case k_common_round => k_is)
    (case a_set_by => k_is); (case l_set_by => k_is); (case c_set_by => k_is); (case k_set_by => k_is)
    (case a_first_of => k_is); (case l_first_of => k_is); (case c_first_of => k_is); (case k_first_of => k_is)
    (case a_has_number => k_is); (case l_has_number => k_is); (case c_has_number => k_is); (case k_has_number => k_is)
    (case a_numbers_below => k_is); (case l_numbers_below => k_is); (case c_numbers_below => k_is); (case k_numbers_below => k_is)
    (case a_is_within => k_is); (case l_is_within => k_is); (case c_is_within => k_is); (case k_is_within => k_is)
    (case a_first_number => k_is); (case l_first_number => k_is); (case c_first_number => k_is); (case k_first_number => k_is)
    (case a_first_apart => k_is); (case l_first_apart => k_is); (case c_first_apart => k_is); (case k_first_apart => k_is)
    (case a_need_by => k_is); (case l_need_by => k_is); (case c_need_by => k_is); (case k_need_by => k_is)
    (case a_up_by => k_is); (case l_up_by => k_is); (case c_up_by => k_is); (case k_up_by => k_is)
    (case a_down_by => k_is); (case l_down_by => k_is); (case c_down_by => k_is); (case k_down_by => k_is)
    (case a_shifted_up => k_is); (case l_shifted_up => k_is); (case c_shifted_up => k_is); (case k_shifted_up => k_is)
    (case a_shifted_down => k_is); (case l_shifted_down => k_is); (case c_shifted_down => k_is); (case k_shifted_down => k_is)
    (case a_law_mleast_set => k_is); (case l_law_mleast_set => k_is); (case c_law_mleast_set => k_is); (case k_law_mleast_set => k_is)
    (case a_law_min => k_is); (case l_law_min => k_is); (case c_law_min => k_is); (case k_law_min => k_is)
    (case a_law_start => k_is); (case l_law_start => k_is); (case c_law_start => k_is); (case k_law_start => k_is)
    (case a_law_below => k_is); (case l_law_below => k_is); (case c_law_below => k_is); (case k_law_below => k_is)
    (case a_law_chance => k_is); (case l_law_chance => k_is); (case c_law_chance => k_is); (case k_law_chance => k_is)
    (case a_law_mixed => k_is); (case l_law_mixed => k_is); (case c_law_mixed => k_is); (case k_law_mixed => k_is)
    (case a_law_same => k_is); (case l_law_same => k_is); (case c_law_same => k_is); (case k_law_same => k_is)
    (case a_law_loose => k_is); (case l_law_loose => k_is); (case c_law_loose => k_is); (case k_law_loose => k_is)
    (case a_law_vfar_sets => k_is); (case l_law_vfar_sets => k_is); (case c_law_vfar_sets => k_is); (case k_law_vfar_sets => k_is)
    (case a_law => k_is); (case l_law => k_is); (case c_law => k_is); (case k_law => k_is)
    (case m_MOST => k_is); (case n_MOST => exact ⟨_, rfl⟩)
    (case z_all => k_is)
    (case z_bool => k_is)
    (case z_dict => k_is)
    (case z_int => k_is)
    (case z_isinstance => k_is)
    (case z_len => k_is)
    (case z_list => k_is)
    (case z_max => k_is)
    (case z_range => k_is)
    (case z_str => k_is)
    (case z_tuple => k_is)
    (case z_zip => k_is)

