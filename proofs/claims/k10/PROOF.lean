import PyProof.Rows.All
import Wide.All
import OpenK.AllK
import Wide.FinOn
import HandS.ForMost
import HandS.Deep
import HandS.TupAny
import HandS.TupMul
import HandS.IsInst
import HandS.Evl
import HandS.Codes
import HandS.ForExc
import HandS.Steps
import PySem.Challenge.RW_wordyard_k10_reading_words
/-! text DL0 -/
set_option Elab.async false
set_option linter.all false
set_option maxRecDepth 100000
set_option maxHeartbeats 4000000
/-! sealed things: the kernel shall not look into them (a comparison of two unlike terms with % or great numbers within would not end) -/
namespace DL
open PySem
theorem shut_ex {α : Type} (n : Nat) (x : α) : ∃ y : Nat × α, y = (n, x) := ⟨(n, x), rfl⟩
noncomputable def shut {α : Type} (n : Nat) (x : α) : α := (Classical.choose (shut_ex n x)).2
theorem shut_eq {α : Type} (n : Nat) (x : α) : shut n x = x := by
  unfold shut
  rw [Classical.choose_spec (shut_ex n x)]
structure Ops where
  mul : Int → Int → Int
  mod : Int → Int → Int
  div : Int → Int → Int
  mulB : Int → Int → Bool
  posB : Int → Bool
  divB : Int → Bool
  szb : Nat → Bool
  szl : Nat → Bool
  s640 : Nat → Bool
  i62 : Int → Bool
structure OpsOk (o : Ops) : Prop where
  mul : ∀ i j, o.mul i j = i * j
  mod : ∀ i j, o.mod i j = i % j
  div : ∀ i j, o.div i j = i / j
  mulB : ∀ i j, o.mulB i j = true ↔ ((-(2 ^ 64) < i ∧ i < 2 ^ 64) ∨ (-(2 ^ 64) < j ∧ j < 2 ^ 64))
  posB : ∀ j, o.posB j = true ↔ 0 < j
  divB : ∀ j, o.divB j = true ↔ 0 < j ∧ j < 1073741824
  szb : ∀ n, o.szb n = true ↔ n ≤ sizeLine
  szl : ∀ n, o.szl n = true ↔ n < sizeLine
  s640 : ∀ n, o.s640 n = true ↔ n ≤ 640
  i62 : ∀ n, o.i62 n = true ↔ -(2 ^ 62) ≤ n ∧ n < 2 ^ 62
theorem ops_ex : ∃ o : Ops, OpsOk o := ⟨⟨fun i j => i * j, fun i j => i % j, fun i j => i / j, fun i j => decide ((-(2 ^ 64) < i ∧ i < 2 ^ 64) ∨ (-(2 ^ 64) < j ∧ j < 2 ^ 64)), fun j => decide (0 < j), fun j => decide (0 < j ∧ j < 1073741824), fun n => decide (n ≤ sizeLine), fun n => decide (n < sizeLine), fun n => decide (n ≤ 640),
  fun n => decide (-(2 ^ 62) ≤ n ∧ n < 2 ^ 62)⟩, ⟨fun _ _ => rfl, fun _ _ => rfl, fun _ _ => rfl, fun _ _ => decide_eq_true_iff, fun _ => decide_eq_true_iff, fun _ => decide_eq_true_iff, fun _ => decide_eq_true_iff, fun _ => decide_eq_true_iff, fun _ => decide_eq_true_iff, fun _ => decide_eq_true_iff⟩⟩
noncomputable def ops : Ops := Classical.choose ops_ex
theorem ops_ok : OpsOk ops := Classical.choose_spec ops_ex
noncomputable def iMul (i j : Int) : Int := ops.mul i j
noncomputable def iMod (i j : Int) : Int := ops.mod i j
noncomputable def iDiv (i j : Int) : Int := ops.div i j
noncomputable def mulB (i j : Int) : Bool := ops.mulB i j
noncomputable def posB (j : Int) : Bool := ops.posB j
noncomputable def divB (j : Int) : Bool := ops.divB j
noncomputable def szb (n : Nat) : Bool := ops.szb n
noncomputable def szl (n : Nat) : Bool := ops.szl n
noncomputable def s640 (n : Nat) : Bool := ops.s640 n
noncomputable def i62 (n : Int) : Bool := ops.i62 n
theorem iMul_eq (i j : Int) : iMul i j = i * j := ops_ok.mul i j
theorem iMod_eq (i j : Int) : iMod i j = i % j := ops_ok.mod i j
theorem iDiv_eq (i j : Int) : iDiv i j = i / j := ops_ok.div i j
theorem mulB_iff (i j : Int) : mulB i j = true ↔ ((-(2 ^ 64) < i ∧ i < 2 ^ 64) ∨ (-(2 ^ 64) < j ∧ j < 2 ^ 64)) := ops_ok.mulB i j
theorem posB_iff (j : Int) : posB j = true ↔ 0 < j := ops_ok.posB j
theorem divB_iff (j : Int) : divB j = true ↔ 0 < j ∧ j < 1073741824 := ops_ok.divB j
theorem szb_iff (n : Nat) : szb n = true ↔ n ≤ sizeLine := ops_ok.szb n
theorem szl_iff (n : Nat) : szl n = true ↔ n < sizeLine := ops_ok.szl n
theorem s640_iff (n : Nat) : s640 n = true ↔ n ≤ 640 := ops_ok.s640 n
theorem i62_iff (n : Int) : i62 n = true ↔ -(2 ^ 62) ≤ n ∧ n < 2 ^ 62 := ops_ok.i62 n
def gd {α : Type} (b : Bool) (x : Option α) : Option α := match b with
  | true => x
  | false => none
@[simp] theorem gd_true {α : Type} (x : Option α) : gd true x = x := id rfl
theorem gd_some {α : Type} {b : Bool} {x : Option α} {y : α} (h : gd b x = some y) : b = true ∧ x = some y := by
  cases b with
  | true => exact ⟨rfl, h⟩
  | false => cases h
end DL

/-! text DL1 -/
set_option Elab.async false
set_option linter.all false
set_option maxRecDepth 100000
set_option maxHeartbeats 4000000
/-! a data layer: values as PyData, a shallow semantics for the hand layer's readings -/
namespace DL
open PySem L2
abbrev Ex := Evl.Ex
abbrev D := PyData
def kD : Key → D
  | .inl i => .int i
  | .inr x => .str x
def kDs (ks : List Key) : D := .tuple (ks.map kD)

/-- a list that is only read, of ints (the script), told apart -/
def scrD (ns : List Int) : D := .dict [(.none, .list (ns.map .int))]

mutual
inductive Dq (K : PySem.W.Frag) (H : Hp) : V → D → Prop
  | non : Dq K H .non .none
  | bl (b : Bool) : Dq K H (.bl b) (.bool b)
  | int (i : Int) : Dq K H (.int i) (.int i)
  | str (x : Str) : Dq K H (.str x) (.str x)
  | lst {a : Addr} {xs : List V} {ds : List D} : Rd H a (.lst xs) → DqA K H xs ds → Dq K H (.ref a) (.list ds)
  | scr {a : Addr} {ns : List Int} : SqL K H a (ns.map V.int) → Dq K H (.ref a) (scrD ns)
  | tup {a : Addr} {xs : List V} {ds : List D} : SqT K H a xs → DqA K H xs ds → Dq K H (.ref a) (.tuple ds)
  | dT {a : Addr} {kvs : List (List Key × V)} {ds : List D} : H a = some (.dT kvs) → DqA K H (kvs.map (·.2)) ds → Dq K H (.ref a) (.dict ((kvs.map fun e => kDs e.1).zip ds))
  | dK {a : Addr} {kvs : List (Key × V)} {ds : List D} : H a = some (.dK kvs) → DqA K H (kvs.map (·.2)) ds → Dq K H (.ref a) (.dict ((kvs.map fun e => kD e.1).zip ds))
inductive DqA (K : PySem.W.Frag) (H : Hp) : List V → List D → Prop
  | nil : DqA K H [] []
  | cons {v : V} {vs : List V} {d : D} {ds : List D} : Dq K H v d → DqA K H vs ds → DqA K H (v :: vs) (d :: ds)
end

section
variable {K : PySem.W.Frag} {H H' : Hp}
mutual
theorem Dq.mono (e : Ex H H') : ∀ {v : V} {d : D}, Dq K H v d → Dq K H' v d
  | _, _, .non => .non
  | _, _, .bl b => .bl b
  | _, _, .int i => .int i
  | _, _, .str x => .str x
  | _, _, .lst h1 h2 => .lst (Evl.ex_rd e h1) (DqA.mono e h2)
  | _, _, .scr h => .scr (Evl.ex_l e h)
  | _, _, .tup h1 h2 => .tup (Evl.ex_t e h1) (DqA.mono e h2)
  | _, _, .dT h1 h2 => .dT (e _ _ h1) (DqA.mono e h2)
  | _, _, .dK h1 h2 => .dK (e _ _ h1) (DqA.mono e h2)
theorem DqA.mono (e : Ex H H') : ∀ {vs : List V} {ds : List D}, DqA K H vs ds → DqA K H' vs ds
  | _, _, .nil => .nil
  | _, _, .cons h1 h2 => .cons (Dq.mono e h1) (DqA.mono e h2)
end
theorem DqA.length : ∀ {vs : List V} {ds : List D}, DqA K H vs ds → vs.length = ds.length
  | _, _, .nil => rfl
  | _, _, .cons _ h => congrArg (· + 1) h.length
theorem DqA.get : ∀ {vs : List V} {ds : List D} {i : Nat} {d : D}, DqA K H vs ds → ds[i]? = some d → ∃ v, vs[i]? = some v ∧ Dq K H v d
  | _, _, _, _, .nil, e => by simp at e
  | _, _, 0, _, .cons h _, e => by simp at e; subst e; exact ⟨_, rfl, h⟩
  | _, _, i + 1, _, .cons _ h, e => by
    obtain ⟨v, h1, h2⟩ := DqA.get (i := i) h (by simpa using e)
    exact ⟨v, by simpa using h1, h2⟩
theorem DqA.getV : ∀ {vs : List V} {ds : List D} {i : Nat} {v : V}, DqA K H vs ds → vs[i]? = some v → ∃ d, ds[i]? = some d ∧ Dq K H v d
  | _, _, _, _, .nil, e => by simp at e
  | _, _, 0, _, .cons h _, e => by simp at e; subst e; exact ⟨_, rfl, h⟩
  | _, _, i + 1, _, .cons _ h, e => by
    obtain ⟨v, h1, h2⟩ := DqA.getV (i := i) h (by simpa using e)
    exact ⟨v, by simpa using h1, h2⟩
theorem DqA.append : ∀ {vs ws : List V} {ds es : List D}, DqA K H vs ds → DqA K H ws es → DqA K H (vs ++ ws) (ds ++ es)
  | _, _, _, _, .nil, s => s
  | _, _, _, _, .cons r t, s => .cons r (DqA.append t s)
theorem DqA.take : ∀ {vs : List V} {ds : List D} (n : Nat), DqA K H vs ds → DqA K H (vs.take n) (ds.take n)
  | _, _, 0, _ => .nil
  | _, _, _ + 1, .nil => .nil
  | _, _, n + 1, .cons r t => .cons r (DqA.take n t)
theorem DqA.drop : ∀ {vs : List V} {ds : List D} (n : Nat), DqA K H vs ds → DqA K H (vs.drop n) (ds.drop n)
  | _, _, 0, r => r
  | _, _, _ + 1, .nil => .nil
  | _, _, n + 1, .cons _ t => DqA.drop n t
theorem DqA.reverse {vs : List V} {ds : List D} (h : DqA K H vs ds) : DqA K H vs.reverse ds.reverse := by
  induction vs generalizing ds with
  | nil => cases h; exact .nil
  | cons v vs ih =>
    cases h with
    | cons h1 h2 =>
      rw [List.reverse_cons, List.reverse_cons]
      exact DqA.append (ih h2) (.cons h1 .nil)
theorem DqA.cut {vs : List V} {ds : List D} (h : DqA K H vs ds) (lo hi : Option Int) : DqA K H (cutV vs lo hi) ((ds.drop (HT.sIx ds.length 0 lo)).take (HT.sIx ds.length ds.length hi - HT.sIx ds.length 0 lo)) := by
  unfold cutV
  rw [h.length]
  exact DqA.take _ (DqA.drop _ h)
theorem DqA.rep {vs : List V} {ds : List D} (h : DqA K H vs ds) : ∀ k : Nat, DqA K H (List.replicate k vs).flatten (List.replicate k ds).flatten
  | 0 => .nil
  | k + 1 => by
    rw [List.replicate_succ, List.replicate_succ, List.flatten_cons, List.flatten_cons]
    exact DqA.append h (DqA.rep h k)
theorem DqA.dropLast {vs : List V} {ds : List D} (h : DqA K H vs ds) : DqA K H vs.dropLast ds.dropLast := by
  rw [List.dropLast_eq_take, List.dropLast_eq_take, h.length]
  exact DqA.take _ h

/-! no dict within: the kit's own relation -/
mutual
theorem Dq.dp : ∀ {v : V} {d : D}, Dq K H v d → d.canLay0 = true → Dp K H v d
  | _, _, .non, _ => .non
  | _, _, .bl b, _ => .bl b
  | _, _, .int i, _ => .int i
  | _, _, .str x, _ => .str x
  | _, _, .scr _, h => by simp [scrD, PyData.canLay0] at h
  | _, _, .lst h1 h2, h => .lst (.inl h1) (DqA.dp h2 (by simpa [PyData.canLay0] using h))
  | _, _, .tup h1 h2, h => .tup h1 (DqA.dp h2 (by simpa [PyData.canLay0] using h))
  | _, _, .dT _ _, h => by simp [PyData.canLay0] at h
  | _, _, .dK _ _, h => by simp [PyData.canLay0] at h
theorem DqA.dp : ∀ {vs : List V} {ds : List D}, DqA K H vs ds → PyData.canLayAll0 ds = true → DpAll K H vs ds
  | _, _, .nil, _ => .nil
  | _, _, .cons h1 h2, h => by
    simp only [PyData.canLayAll0, Bool.and_eq_true] at h
    exact .cons (Dq.dp h1 h.1) (DqA.dp h2 h.2)
end
/-! lists of one kind of scalars -/
theorem DqA.ints : ∀ {vs : List V} {ns : List Int}, DqA K H vs (ns.map PyData.int) → vs = ns.map V.int
  | _, [], h => by cases h; rfl
  | _, n :: ns, h => by
    cases h with
    | cons h1 h2 =>
      cases h1
      rw [DqA.ints h2]
      rfl
theorem DqA.bools : ∀ {vs : List V} {ns : List Bool}, DqA K H vs (ns.map PyData.bool) → vs = ns.map V.bl
  | _, [], h => by cases h; rfl
  | _, n :: ns, h => by
    cases h with
    | cons h1 h2 =>
      cases h1
      rw [DqA.bools h2]
      rfl
theorem DqA.strs : ∀ {vs : List V} {ns : List Str}, DqA K H vs (ns.map PyData.str) → vs = ns.map V.str
  | _, [], h => by cases h; rfl
  | _, n :: ns, h => by
    cases h with
    | cons h1 h2 =>
      cases h1
      rw [DqA.strs h2]
      rfl
theorem dqA_ints (K : PySem.W.Frag) (H : Hp) : ∀ ns : List Int, DqA K H (ns.map V.int) (ns.map PyData.int)
  | [] => .nil
  | n :: ns => .cons (.int n) (dqA_ints K H ns)
theorem dqA_strs (K : PySem.W.Frag) (H : Hp) : ∀ ns : List Str, DqA K H (ns.map V.str) (ns.map PyData.str)
  | [] => .nil
  | n :: ns => .cons (.str n) (dqA_strs K H ns)
end

/-! ### the heap without what is owned -/
open Classical in
noncomputable def msk (M : Addr → Prop) (H : Hp) : Hp := fun a => if M a then none else H a
theorem msk_not {M : Addr → Prop} {H : Hp} {a : Addr} (h : ¬ M a) : msk M H a = H a := if_neg h
theorem msk_some {M : Addr → Prop} {H : Hp} {a : Addr} {o : HO} (h : msk M H a = some o) : ¬ M a ∧ H a = some o := by
  unfold msk at h
  by_cases m : M a
  · rw [if_pos m] at h; cases h
  · rw [if_neg m] at h; exact ⟨m, h⟩
theorem ex_of {M M' : Addr → Prop} {H H' : Hp} (h : ∀ a o, ¬ M a → H a = some o → ¬ M' a ∧ H' a = some o) : Ex (msk M H) (msk M' H') := fun a o e => by
  obtain ⟨m, e⟩ := msk_some e
  obtain ⟨m', e'⟩ := h a o m e
  rw [msk_not m']
  exact e'
theorem ex_un {M : Addr → Prop} {H H' : Hp} (e : Ex H H') : Ex (msk M H) H' := fun a o h => e a o (msk_some h).2
theorem ex_msk {M : Addr → Prop} {H H' : Hp} (e : Ex H H') : Ex (msk M H) (msk M H') := ex_of fun a o m h => ⟨m, e a o h⟩
theorem ex_sub {M M' : Addr → Prop} {H H' : Hp} (e : Ex H H') (s : ∀ a, M' a → M a) : Ex (msk M H) (msk M' H') := ex_of fun a o m h => ⟨fun q => m (s a q), e a o h⟩
/-- one more is masked that was not there -/
theorem ex_add {M : Addr → Prop} {H H' : Hp} {p : Addr} (e : Ex H H') (hp : H p = none) : Ex (msk M H) (msk (fun b => M b ∨ b = p) H') :=
  ex_of fun a o m h => ⟨fun q => q.elim m (fun z => by rw [z, hp] at h; cases h), e a o h⟩

/-! ### the names' values -/
inductive Ent where
  | val (d : D)
  | own (d : D)
abbrev Rho := List (Option Ent)

/-- what stands at an owned address -/
def OwnOk (K : PySem.W.Frag) (B : Hp) (H : Hp) (a : Addr) : D → Prop
  | .list ds => ∃ xs, H a = some (.lst xs) ∧ DqA K B xs ds
  | .dict es => (∃ kvs ds, H a = some (.dT kvs) ∧ DqA K B (kvs.map (·.2)) ds ∧ es = (kvs.map fun e => kDs e.1).zip ds) ∨ (∃ kvs ds, H a = some (.dK kvs) ∧ DqA K B (kvs.map (·.2)) ds ∧ es = (kvs.map fun e => kD e.1).zip ds)
  | _ => False
def mM (M : Addr → Prop) (ρ : Rho) (σ : L2.St) : Addr → Prop := fun a => M a ∨ ∃ (i : Nat) (d : D), ρ[i]? = some (some (Ent.own d)) ∧ σ[i]? = some (some (V.ref a))
structure Rp (K : PySem.W.Frag) (M : Addr → Prop) (H0 : Hp) (σ : L2.St) (H : Hp) (ρ : Rho) : Prop where
  ex : Ex H0 H
  dm : ∀ a, M a → H a ≠ none
  len : σ.length = ρ.length
  val : ∀ (i : Nat) (d : D), ρ[i]? = some (some (Ent.val d)) → ∃ v : V, σ[i]? = some (some v) ∧ Dq K (msk (mM M ρ σ) H) v d
  own : ∀ (i : Nat) (d : D), ρ[i]? = some (some (Ent.own d)) → ∃ a : Addr, σ[i]? = some (some (V.ref a)) ∧ H0 a = none ∧ ¬ M a ∧ OwnOk K (msk (mM M ρ σ) H) H a d
  inj : ∀ (i j : Nat) (d e : D) (a : Addr), ρ[i]? = some (some (Ent.own d)) → ρ[j]? = some (some (Ent.own e)) → σ[i]? = some (some (V.ref a)) → σ[j]? = some (some (V.ref a)) → i = j
section
variable {K : PySem.W.Frag} {M M' : Addr → Prop} {H0 H H' B B' : Hp} {σ : L2.St} {ρ : Rho} {a : Addr}
theorem OwnOk.mono {d : D} (h : OwnOk K B H a d) (e : Ex B B') (f : ∀ o, H a = some o → H' a = some o) : OwnOk K B' H' a d := by
  cases d <;> try exact h.elim
  · obtain ⟨xs, h1, h2⟩ := h
    exact ⟨xs, f _ h1, h2.mono e⟩
  · rcases h with ⟨kvs, ds, h1, h2, h3⟩ | ⟨kvs, ds, h1, h2, h3⟩
    · exact .inl ⟨kvs, ds, f _ h1, h2.mono e, h3⟩
    · exact .inr ⟨kvs, ds, f _ h1, h2.mono e, h3⟩
theorem OwnOk.there {d : D} (h : OwnOk K B H a d) : H a ≠ none := by
  cases d <;> try exact h.elim
  · obtain ⟨xs, h1, _⟩ := h
    rw [h1]; simp
  · rcases h with ⟨_, _, h1, _⟩ | ⟨_, _, h1, _⟩ <;> (rw [h1]; simp)
/-- the owned thing, seen in a heap that shows it -/
theorem OwnOk.dq {d : D} (h : OwnOk K B H a d) (e : Ex B B') (f : ∀ o, H a = some o → B' a = some o) : Dq K B' (.ref a) d := by
  cases d <;> try exact h.elim
  · obtain ⟨xs, h1, h2⟩ := h
    exact .lst (.inl (f _ h1)) (h2.mono e)
  · rcases h with ⟨kvs, ds, h1, h2, h3⟩ | ⟨kvs, ds, h1, h2, h3⟩
    · rw [h3]; exact .dT (f _ h1) (h2.mono e)
    · rw [h3]; exact .dK (f _ h1) (h2.mono e)
theorem Rp.mono (R : Rp K M H0 σ H ρ) (e : Ex H H') : Rp K M H0 σ H' ρ where
  ex := R.ex.trans e
  dm := fun a m z => R.dm a m (Evl.fresh_back e z)
  len := R.len
  val := fun i d h => by
    obtain ⟨v, h1, h2⟩ := R.val i d h
    exact ⟨v, h1, h2.mono (ex_msk e)⟩
  own := fun i d h => by
    obtain ⟨a, h1, h2, h3, h4⟩ := R.own i d h
    exact ⟨a, h1, h2, h3, h4.mono (ex_msk e) fun o q => e _ _ q⟩
  inj := R.inj
theorem Rp.dom (R : Rp K M H0 σ H ρ) : ∀ a, mM M ρ σ a → H a ≠ none := fun a m => by
  rcases m with m | ⟨i, d, h1, h2⟩
  · exact R.dm a m
  · obtain ⟨b, q1, _, _, q4⟩ := R.own i d h1
    rw [h2] at q1
    cases q1
    exact q4.there
theorem mM_base {a : Addr} (h : M a) : mM M ρ σ a := .inl h
/-- masked one more: what was not there -/
theorem mM_more {p : Addr} {a : Addr} : mM (fun b => M b ∨ b = p) ρ σ a ↔ mM M ρ σ a ∨ a = p := by
  unfold mM
  constructor
  · rintro ((h | h) | h)
    · exact .inl (.inl h)
    · exact .inr h
    · exact .inl (.inr h)
  · rintro ((h | h) | h)
    · exact .inl (.inl h)
    · exact .inr h
    · exact .inl (.inr h)
theorem Rp.mask {p : Addr} (R : Rp K M H0 σ H ρ) (hp : H p = none) (e : Ex H H') (hp' : H' p ≠ none) : Rp K (fun b => M b ∨ b = p) H0 σ H' ρ := by
  have ee : Ex (msk (mM M ρ σ) H) (msk (mM (fun b => M b ∨ b = p) ρ σ) H') := ex_of fun a o m h => ⟨fun q => by
    rcases mM_more.mp q with q | q
    · exact m q
    · (rw [q, hp] at h; cases h), e a o h⟩
  refine ⟨R.ex.trans e, fun a m => ?_, R.len, fun i d h => ?_, fun i d h => ?_, R.inj⟩
  · rcases m with m | m
    · exact fun z => R.dm a m (Evl.fresh_back e z)
    · rw [m]; exact hp'
  · obtain ⟨v, h1, h2⟩ := R.val i d h
    exact ⟨v, h1, h2.mono ee⟩
  · obtain ⟨a, h1, h2, h3, h4⟩ := R.own i d h
    refine ⟨a, h1, h2, fun q => ?_, h4.mono ee fun o q => e _ _ q⟩
    rcases q with q | q
    · exact h3 q
    · have := h4.there
      rw [q] at this
      exact this hp

/-! ### results -/
inductive Rs where
  | st (d : D)
  | fr (d : D)
  | tr (d : D)
def Rs.d : Rs → D
  | .st d => d
  | .fr d => d
  | .tr d => d
/-- M the caller's mask, M' the frame's, H the heap ahead, H' behind -/
def RsOk (K : PySem.W.Frag) (M M' : Addr → Prop) (H H' : Hp) (v : V) : Rs → Prop
  | .st d => Dq K (msk M' H') v d
  | .fr d => ∃ a, v = .ref a ∧ H a = none ∧ OwnOk K (msk (fun b => M' b ∨ b = a) H') H' a d
  | .tr d => ∃ a, v = .ref a ∧ ¬ M a ∧ OwnOk K (msk M' H') H' a d
theorem RsOk.mono {M M' : Addr → Prop} {H H' H'' : Hp} {v : V} {r : Rs} (h : RsOk K M M' H H' v r) (e : Ex H' H'') : RsOk K M M' H H'' v r := by
  cases r with
  | st d => exact Dq.mono (ex_msk e) h
  | fr d =>
    obtain ⟨a, h1, h2, h3⟩ := h
    exact ⟨a, h1, h2, h3.mono (ex_msk e) fun o q => e _ _ q⟩
  | tr d =>
    obtain ⟨a, h1, h2, h3⟩ := h
    exact ⟨a, h1, h2, h3.mono (ex_msk e) fun o q => e _ _ q⟩
theorem RsOk.back {M M' : Addr → Prop} {G H H' : Hp} {v : V} {r : Rs} (h : RsOk K M M' H H' v r) (e : Ex G H) : RsOk K M M' G H' v r := by
  cases r with
  | st d => exact h
  | fr d =>
    obtain ⟨a, h1, h2, h3⟩ := h
    exact ⟨a, h1, Evl.fresh_back e h2, h3⟩
  | tr d => exact h
/-- seen in the whole heap -/
theorem RsOk.dq {M M' : Addr → Prop} {H H' : Hp} {v : V} {r : Rs} (h : RsOk K M M' H H' v r) : Dq K H' v r.d := by
  cases r with
  | st d => exact Dq.mono (ex_un (Evl.Ex.refl _)) h
  | fr d =>
    obtain ⟨a, rfl, h2, h3⟩ := h
    exact h3.dq (ex_un (Evl.Ex.refl _)) fun o q => q
  | tr d =>
    obtain ⟨a, rfl, h2, h3⟩ := h
    exact h3.dq (ex_un (Evl.Ex.refl _)) fun o q => q
/-- kept for good: not a thing that is owned -/
def Rs.stab : Rs → Option D
  | .st d => some d
  | .fr d => some d
  | .tr _ => none
theorem RsOk.stable {M M' : Addr → Prop} {H H' : Hp} {v : V} {r : Rs} {d : D} (h : RsOk K M M' H H' v r) (dm : ∀ b, M' b → H b ≠ none) (hs : r.stab = some d) : Dq K (msk M' H') v d := by
  cases r with
  | st d =>
    cases hs
    exact h
  | fr d =>
    cases hs
    obtain ⟨a, rfl, h2, h3⟩ := h
    have na : ¬ M' a := fun m => dm a m h2
    exact h3.dq (ex_sub (Evl.Ex.refl _) fun b m => .inl m) fun o q => by rw [msk_not na]; exact q
  | tr d => cases hs
/-- for the caller -/
theorem RsOk.ret {M M' : Addr → Prop} {H H' : Hp} {v : V} {r : Rs} (h : RsOk K M M' H H' v r) (sub : ∀ b, M b → M' b) (dm : ∀ b, M b → H b ≠ none) : Dq K (msk M H') v r.d := by
  cases r with
  | st d => exact Dq.mono (ex_sub (Evl.Ex.refl _) sub) h
  | fr d =>
    obtain ⟨a, rfl, h2, h3⟩ := h
    have na : ¬ M a := fun m => dm a m h2
    exact h3.dq (ex_sub (Evl.Ex.refl _) fun b m => .inl (sub b m)) fun o q => by rw [msk_not na]; exact q
  | tr d =>
    obtain ⟨a, rfl, h2, h3⟩ := h
    exact h3.dq (ex_sub (Evl.Ex.refl _) sub) fun o q => by rw [msk_not h2]; exact q
end

/-! ### expressions -/
abbrev SE := Rho → Option Rs
abbrev ST := Rho → Option Bool
abbrev SA := Rho → Option (List Rs)
def EvD (K : PySem.W.Frag) (t : TE) (f : SE) : Prop := ∀ M H0 σ H ρ r (Q : VK), Rp K M H0 σ H ρ → f ρ = some r → (∀ v H', Ex H H' → RsOk K M (mM M ρ σ) H H' v r → Q v H') → t σ H Q
def EvT (K : PySem.W.Frag) (t : TT) (f : ST) : Prop := ∀ M H0 σ H ρ b (Q : Bool → Hp → Prop), Rp K M H0 σ H ρ → f ρ = some b → (∀ H', Ex H H' → Q b H') → t σ H Q
inductive RsAll (K : PySem.W.Frag) (M M' : Addr → Prop) (H H' : Hp) : List V → List Rs → Prop
  | nil : RsAll K M M' H H' [] []
  | cons {v : V} {vs : List V} {r : Rs} {rs : List Rs} : RsOk K M M' H H' v r → RsAll K M M' H H' vs rs → RsAll K M M' H H' (v :: vs) (r :: rs)
def EvA (K : PySem.W.Frag) (t : TA) (f : SA) : Prop := ∀ M H0 σ H ρ rs (Q : List V → Hp → Prop), Rp K M H0 σ H ρ → f ρ = some rs → (∀ vs H', Ex H H' → RsAll K M (mM M ρ σ) H H' vs rs → Q vs H') → t σ H Q
structure DE (X : Cx) (e : Expr) (t : TE) (f : SE) : Prop where
  pe : PE X e t
  ev : EvD X.K t f
structure DT (X : Cx) (e : Expr) (t : TT) (f : ST) : Prop where
  pt : PT X e t
  ev : EvT X.K t f
structure DW (X : Cx) (e : Expr) (t : TT) (f : ST) : Prop where
  pw : PW X e t
  ev : EvT X.K t f
structure DA (X : Cx) (es : List Expr) (t : TA) (f : SA) : Prop where
  pa : PA X es t
  ev : EvA X.K t f
def eVar (i : Nat) : SE := fun ρ => match ρ[i]? with
  | some (some (.val d)) => some (.st d)
  | some (some (.own d)) => some (.tr d)
  | _ => none
def eC (d : D) : SE := fun _ => some (.st d)
def eOp (g : Rs → Rs → Option Rs) (a b : SE) : SE := fun ρ => (a ρ).bind fun x => (b ρ).bind fun y => g x y
def eUn (g : Rs → Option Rs) (a : SE) : SE := fun ρ => (a ρ).bind g
def aNil : SA := fun _ => some []
def aCons (a : SE) (b : SA) : SA := fun ρ => (a ρ).bind fun x => (b ρ).bind fun xs => some (x :: xs)
section
variable {K : PySem.W.Frag} {X : Cx}
theorem ev_var {i : Nat} : EvD K (tVar i) (eVar i) := fun M H0 σ H ρ r Q R hf q => by
  unfold eVar at hf
  split at hf
  · rename_i d h
    cases hf
    obtain ⟨v, h1, h2⟩ := R.val i d h
    exact ⟨v, h1, q v H (Evl.Ex.refl H) h2⟩
  · rename_i d h
    cases hf
    obtain ⟨a, h1, h2, h3, h4⟩ := R.own i d h
    exact ⟨_, h1, q _ H (Evl.Ex.refl H) ⟨a, rfl, h3, h4⟩⟩
  · cases hf
theorem ev_c {v : V} {d : D} (h : ∀ H, Dq K H v d) : EvD K (tC v) (eC d) := fun M H0 σ H ρ r Q R hf q => by
  cases hf
  exact q v H (Evl.Ex.refl H) (h _)
theorem RsAll.mono {M M' : Addr → Prop} {H H' H'' : Hp} (e : Ex H' H'') : ∀ {vs : List V} {rs : List Rs}, RsAll K M M' H H' vs rs → RsAll K M M' H H'' vs rs
  | _, _, .nil => .nil
  | _, _, .cons h1 h2 => .cons (h1.mono e) (h2.mono e)
theorem RsAll.back {M M' : Addr → Prop} {G H H' : Hp} (e : Ex G H) : ∀ {vs : List V} {rs : List Rs}, RsAll K M M' H H' vs rs → RsAll K M M' G H' vs rs
  | _, _, .nil => .nil
  | _, _, .cons h1 h2 => .cons (h1.back e) (h2.back e)
/-- a two-place operation on values -/
def Op2 (K : PySem.W.Frag) (r : R2) (g : Rs → Rs → Option Rs) : Prop := ∀ (M M' : Addr → Prop) (Hs H : Hp) (x y : V) (rx ry rz : Rs) (Q : VK), (∀ b, M' b → Hs b ≠ none) → (∀ b, M b → M' b) → Ex Hs H →
  RsOk K M M' Hs H x rx → RsOk K M M' Hs H y ry → g rx ry = some rz → (∀ v H', Ex H H' → RsOk K M M' Hs H' v rz → Q v H') → r x y H Q
def Op1 (K : PySem.W.Frag) (r : V → Hp → VK → Prop) (g : Rs → Option Rs) : Prop := ∀ (M M' : Addr → Prop) (Hs H : Hp) (x : V) (rx rz : Rs) (Q : VK), (∀ b, M' b → Hs b ≠ none) → (∀ b, M b → M' b) → Ex Hs H →
  RsOk K M M' Hs H x rx → g rx = some rz → (∀ v H', Ex H H' → RsOk K M M' Hs H' v rz → Q v H') → r x H Q
def CbD (K : PySem.W.Frag) (r : List V → Hp → VK → Prop) (g : List Rs → Option Rs) : Prop := ∀ (M M' : Addr → Prop) (Hs H : Hp) (xs : List V) (rs : List Rs) (rz : Rs) (Q : VK), (∀ b, M' b → Hs b ≠ none) → (∀ b, M b → M' b) → Ex Hs H →
  RsAll K M M' Hs H xs rs → g rs = some rz → (∀ v H', Ex H H' → RsOk K M M' Hs H' v rz → Q v H') → r xs H Q
theorem ev_op {r : R2} {g : Rs → Rs → Option Rs} {ta tb : TE} {fa fb : SE} (ha : EvD K ta fa) (hb : EvD K tb fb) (hr : Op2 K r g) : EvD K (tOp r ta tb) (eOp g fa fb) := fun M H0 σ H ρ rz Q R hf q => by
  unfold eOp at hf
  obtain ⟨rx, h1, hf⟩ := Option.bind_eq_some_iff.mp hf
  obtain ⟨ry, h2, hf⟩ := Option.bind_eq_some_iff.mp hf
  refine ha M H0 σ H ρ rx _ R h1 fun x H1 e1 o1 => ?_
  refine hb M H0 σ H1 ρ ry _ (R.mono e1) h2 fun y H2 e2 o2 => ?_
  exact hr M _ H H2 x y rx ry rz Q R.dom (fun b m => .inl m) (e1.trans e2) (o1.mono e2) (o2.back e1) hf fun v H3 e3 o3 => q v H3 ((e1.trans e2).trans e3) o3
theorem ev_un {r : V → Hp → VK → Prop} {g : Rs → Option Rs} {ta : TE} {fa : SE} (ha : EvD K ta fa) (hr : Op1 K r g) : EvD K (tUn r ta) (eUn g fa) := fun M H0 σ H ρ rz Q R hf q => by
  unfold eUn at hf
  obtain ⟨rx, h1, hf⟩ := Option.bind_eq_some_iff.mp hf
  refine ha M H0 σ H ρ rx _ R h1 fun x H1 e1 o1 => ?_
  exact hr M _ H H1 x rx rz Q R.dom (fun b m => .inl m) e1 o1 hf fun v H3 e3 o3 => q v H3 (e1.trans e3) o3
theorem ea_nil : EvA K tNil aNil := fun M H0 σ H ρ r Q R hf q => by
  cases hf
  exact q [] H (Evl.Ex.refl H) .nil
theorem ea_cons {ta : TE} {tb : TA} {fa : SE} {fb : SA} (ha : EvD K ta fa) (hb : EvA K tb fb) : EvA K (tCons ta tb) (aCons fa fb) := fun M H0 σ H ρ rz Q R hf q => by
  unfold aCons at hf
  obtain ⟨rx, h1, hf⟩ := Option.bind_eq_some_iff.mp hf
  obtain ⟨ry, h2, hf⟩ := Option.bind_eq_some_iff.mp hf
  cases hf
  refine ha M H0 σ H ρ rx _ R h1 fun x H1 e1 o1 => ?_
  refine hb M H0 σ H1 ρ ry _ (R.mono e1) h2 fun y H2 e2 o2 => ?_
  exact q _ H2 (e1.trans e2) (.cons (o1.mono e2) (o2.back e1))
def eCb (g : List Rs → Option Rs) (a : SA) : SE := fun ρ => (a ρ).bind g
theorem ev_cb {r : List V → Hp → VK → Prop} {g : List Rs → Option Rs} {ta : TA} {fa : SA} (ha : EvA K ta fa) (hr : CbD K r g) : EvD K (tCB r ta) (eCb g fa) := fun M H0 σ H ρ rz Q R hf q => by
  unfold eCb at hf
  obtain ⟨rx, h1, hf⟩ := Option.bind_eq_some_iff.mp hf
  refine ha M H0 σ H ρ rx _ R h1 fun x H1 e1 o1 => ?_
  exact hr M _ H H1 x rx rz Q R.dom (fun b m => .inl m) e1 o1 hf fun v H3 e3 o3 => q v H3 (e1.trans e3) o3
end
end DL

/-! text DL2 -/
set_option Elab.async false
set_option linter.all false
set_option maxRecDepth 100000
set_option maxHeartbeats 4000000
namespace DL
open PySem L2
section
variable {K : PySem.W.Frag} {M M' : Addr → Prop} {Hs H H' : Hp} {v x y : V} {r : Rs}
/-! what a result is -/
theorem RsOk.is_int {i : Int} (h : RsOk K M M' Hs H v r) (e : r.d = .int i) : v = .int i := by
  have q := h.dq
  rw [e] at q
  cases q
  rfl
theorem RsOk.is_str {i : Str} (h : RsOk K M M' Hs H v r) (e : r.d = .str i) : v = .str i := by
  have q := h.dq
  rw [e] at q
  cases q
  rfl
theorem RsOk.is_bool {i : Bool} (h : RsOk K M M' Hs H v r) (e : r.d = .bool i) : v = .bl i := by
  have q := h.dq
  rw [e] at q
  cases q
  rfl
theorem RsOk.is_non (h : RsOk K M M' Hs H v r) (e : r.d = .none) : v = .non := by
  have q := h.dq
  rw [e] at q
  cases q
  rfl
theorem RsOk.is_tup {ds : List D} (h : RsOk K M M' Hs H v r) (e : r.d = .tuple ds) : ∃ a xs, v = .ref a ∧ SqT K (msk M' H) a xs ∧ DqA K (msk M' H) xs ds := by
  cases r with
  | st d =>
    cases e
    cases h with
    | tup h1 h2 => exact ⟨_, _, rfl, h1, h2⟩
  | fr d =>
    cases e
    obtain ⟨_, _, _, h⟩ := h
    exact h.elim
  | tr d =>
    cases e
    obtain ⟨_, _, _, h⟩ := h
    exact h.elim
theorem RsOk.is_lst {ds : List D} (h : RsOk K M M' Hs H v r) (e : r.d = .list ds) : ∃ a xs, v = .ref a ∧ Rd H a (.lst xs) ∧ DqA K (msk M' H) xs ds := by
  cases r with
  | st d =>
    cases e
    cases h with
    | lst h1 h2 => exact ⟨_, _, rfl, Evl.ex_rd (ex_un (Evl.Ex.refl _)) h1, h2⟩
  | fr d =>
    cases e
    obtain ⟨a, rfl, _, xs, h1, h2⟩ := h
    exact ⟨a, xs, rfl, .inl h1, h2.mono (ex_sub (Evl.Ex.refl _) fun b m => .inl m)⟩
  | tr d =>
    cases e
    obtain ⟨a, rfl, _, xs, h1, h2⟩ := h
    exact ⟨a, xs, rfl, .inl h1, h2⟩
theorem rd_l {a : Addr} {xs : List V} (h : Rd H a (.lst xs)) : SqL K H a xs := .inl h
theorem un_t {a : Addr} {xs : List V} (h : SqT K (msk M' H) a xs) : SqT K H a xs := Evl.ex_t (ex_un (Evl.Ex.refl _)) h
/-! new things -/
theorem dom_up (dm : ∀ b, M' b → Hs b ≠ none) (e : Ex Hs H) : ∀ b, M' b → H b ≠ none := fun b m z => dm b m (Evl.fresh_back e z)
theorem not_m (dm : ∀ b, M' b → H b ≠ none) {p : Addr} (hp : H p = none) : ¬ M' p := fun m => dm p m hp
theorem new_tup {p : Addr} {xs : List V} {ds : List D} (dm : ∀ b, M' b → H b ≠ none) (hp : H p = none) (h : DqA K (msk M' H) xs ds) : Dq K (msk M' (upd H p (.tup xs))) (.ref p) (.tuple ds) :=
  .tup (.inl (.inl (by rw [msk_not (not_m dm hp)]; exact upd_same))) (h.mono (ex_msk (Evl.Ex.new hp)))
theorem new_lst {p : Addr} {xs : List V} {ds : List D} (e : Ex Hs H) (hp : H p = none) (h : DqA K (msk M' H) xs ds) : RsOk K M M' Hs (upd H p (.lst xs)) (.ref p) (.fr (.list ds)) :=
  ⟨p, rfl, Evl.fresh_back e hp, xs, upd_same, h.mono (ex_add (Evl.Ex.new hp) hp)⟩
end

/-! ### two-place operations -/
def g2I (f : Int → Int → Option D) : Rs → Rs → Option Rs := fun x y => match x.d, y.d with
  | .int i, .int j => (f i j).map .st
  | _, _ => none
def gSub := g2I fun i j => some (.int (i - j))
noncomputable def gMulI := g2I fun i j => gd (mulB i j) (some (.int (iMul i j)))
noncomputable def gMod := g2I fun i j => gd (posB j) (some (.int (iMod i j)))
noncomputable def gDiv := g2I fun i j => gd (divB j) (some (.int (iDiv i j)))
def gLt := g2I fun i j => some (.bool (decide (i < j)))
def gLe := g2I fun i j => some (.bool (decide (i ≤ j)))
def gGt := g2I fun i j => some (.bool (decide (j < i)))
def gGe := g2I fun i j => some (.bool (decide (j ≤ i)))
noncomputable def gAdd : Rs → Rs → Option Rs := fun x y => match x.d, y.d with
  | .int i, .int j => some (.st (.int (i + j)))
  | .str a, .str b => if szb (a.length + b.length) = true then some (.st (.str (a ++ b))) else none
  | .tuple xs, .tuple ys => if szb (xs.length + ys.length) = true then some (.st (.tuple (xs ++ ys))) else none
  | .list xs, .list ys => if szb (xs.length + ys.length) = true then some (.fr (.list (xs ++ ys))) else none
  | _, _ => none
section
variable {K : PySem.W.Frag} {X : Cx}
theorem op2_I {f : Int → Int → Option D} {r : R2} (h : ∀ i j d H (Q : VK), f i j = some d → (∀ v, (∀ H', Dq K H' v d) → Q v H) → r (.int i) (.int j) H Q) : Op2 K r (g2I f) := fun M M' Hs H x y rx ry rz Q dm sub e ox oy hg q => by
  unfold g2I at hg
  split at hg
  · rename_i i j e1 e2
    rw [ox.is_int e1, oy.is_int e2]
    obtain ⟨d, hd, rfl⟩ := Option.map_eq_some_iff.mp hg
    exact h i j d H Q hd fun v hv => q v H (Evl.Ex.refl H) (hv _)
  · cases hg
theorem op2_sub : Op2 K (rI0 fun i j => .int (i - j)) gSub := op2_I fun i j d H Q hd q => by cases hd; exact ⟨i, j, rfl, rfl, q _ fun _ => .int _⟩
theorem op2_mulI : Op2 K (rI CMul fun i j => .int (i * j)) gMulI := op2_I fun i j d H Q hd q => by
  obtain ⟨c, hd⟩ := gd_some hd
  replace c := (mulB_iff _ _).mp c
  rw [iMul_eq] at hd
  cases hd
  exact ⟨i, j, rfl, rfl, c, q _ fun _ => .int _⟩
theorem op2_mod : Op2 K (rI (fun _ j => 0 < j) fun i j => .int (i % j)) gMod := op2_I fun i j d H Q hd q => by
  obtain ⟨c, hd⟩ := gd_some hd
  replace c := (posB_iff _).mp c
  rw [iMod_eq] at hd
  cases hd
  exact ⟨i, j, rfl, rfl, c, q _ fun _ => .int _⟩
theorem op2_div : Op2 K (rI CDiv fun i j => .int (i / j)) gDiv := op2_I fun i j d H Q hd q => by
  obtain ⟨c, hd⟩ := gd_some hd
  replace c := (divB_iff _).mp c
  rw [iDiv_eq] at hd
  cases hd
  exact ⟨i, j, rfl, rfl, c, q _ fun _ => .int _⟩
theorem op2_lt : Op2 K (rI0 fun i j => .bl (decide (i < j))) gLt := op2_I fun i j d H Q hd q => by cases hd; exact ⟨i, j, rfl, rfl, q _ fun _ => .bl _⟩
theorem op2_le : Op2 K (rI0 fun i j => .bl (decide (i ≤ j))) gLe := op2_I fun i j d H Q hd q => by cases hd; exact ⟨i, j, rfl, rfl, q _ fun _ => .bl _⟩
theorem op2_gt : Op2 K (rI0 fun i j => .bl (decide (j < i))) gGt := op2_I fun i j d H Q hd q => by cases hd; exact ⟨i, j, rfl, rfl, q _ fun _ => .bl _⟩
theorem op2_ge : Op2 K (rI0 fun i j => .bl (decide (j ≤ i))) gGe := op2_I fun i j d H Q hd q => by cases hd; exact ⟨i, j, rfl, rfl, q _ fun _ => .bl _⟩
/-! + of all kinds -/
def rAddL (K : PySem.W.Frag) : R2 := fun x y H Q => ∃ l b xs zs, x = .ref l ∧ y = .ref b ∧ Rd H l (.lst xs) ∧ Rd H b (.lst zs) ∧ xs.length + zs.length ≤ sizeLine ∧ ∀ p, H p = none → Q (.ref p) (upd H p (.lst (xs ++ zs)))
theorem rd_lst {P : Program} {w : World} {H : Hp} {h : Heap} {a : Addr} {xs : List V} (r : Rd H a (.lst xs)) (x : HOk P w H h) : xs.length ≤ sizeLine ∧ ∃ (its : List Value) (n : Nat), Vals xs its ∧ xs.length = its.length ∧ h.get? a = some { cls := .type "list", data := .seq its.toArray n } := by
  obtain ⟨z, its, n, r, e⟩ := r.ok x
  exact ⟨z, its, n, r, r.length, e⟩
theorem op_addL : OpR X (binaryOp .Add) (rAddL X.K) := by
  intro pins s σ H x y v u Q I rx ry h
  obtain ⟨l, b, xs, zs, rfl, rfl, hH, hB, hz, q⟩ := h
  cases rx
  cases ry
  obtain ⟨z, its, n, r, hl, e⟩ := rd_lst hH I.hok
  obtain ⟨z2, its2, n2, r2, hl2, e2⟩ := rd_lst hB I.hok
  refine PySem.P.add_list e e2 ?_ (by rw [List.size_toArray, List.size_toArray]; omega)
  have ea : its.toArray ++ its2.toArray = (its ++ its2).toArray := by simp
  rw [ea]
  exact ⟨.ref _, _, I.lnew (t' := s.toks) (r.append r2) (by rw [List.length_append]; omega), rfl, q _ I.fresh⟩
def rAddI : R2 := rI0 fun i j => .int (i + j)
def rAddS : R2 := fun x y H Q => ∃ i j, x = .str i ∧ y = .str j ∧ i.length + j.length ≤ sizeLine ∧ Q (.str (i ++ j)) H
def rAddAll (K : PySem.W.Frag) : R2 := fun x y H Q => rAddI x y H Q ∨ rAddS x y H Q ∨ rCatA K x y H Q ∨ rAddL K x y H Q
theorem op_addAll : OpR X (binaryOp .Add) (rAddAll X.K) := OpR.or op_add (OpR.or op_add_str (OpR.or op_catA op_addL))
theorem op2_add : Op2 K (rAddAll K) gAdd := fun M M' Hs H x y rx ry rz Q dm sub e ox oy hg q => by
  have dmH := dom_up dm e
  unfold gAdd at hg
  split at hg
  · rename_i i j e1 e2
    rw [ox.is_int e1, oy.is_int e2]
    cases hg
    exact .inl ⟨i, j, rfl, rfl, q _ H (Evl.Ex.refl H) (.int _)⟩
  · rename_i a b e1 e2
    rw [ox.is_str e1, oy.is_str e2]
    split at hg
    · rename_i c
      replace c := (szb_iff _).mp c
      cases hg
      exact .inr (.inl ⟨a, b, rfl, rfl, c, q _ H (Evl.Ex.refl H) (.str _)⟩)
    · cases hg
  · rename_i ds es e1 e2
    obtain ⟨a, xs, rfl, h1, h2⟩ := ox.is_tup e1
    obtain ⟨b, ys, rfl, h3, h4⟩ := oy.is_tup e2
    split at hg
    · rename_i c
      replace c := (szb_iff _).mp c
      cases hg
      refine .inr (.inr (.inl ⟨a, b, xs, ys, rfl, rfl, un_t h1, un_t h3, by rw [h2.length, h4.length]; exact c, fun hx => ?_, fun hx hy => ?_, fun hx hy p hp => ?_⟩))
      · subst hx
        cases h2
        exact q _ H (Evl.Ex.refl H) (.tup h3 h4)
      · subst hy
        cases h4
        rw [List.append_nil] at q
        exact q _ H (Evl.Ex.refl H) (.tup h1 h2)
      · exact q _ _ (Evl.Ex.new hp) (new_tup dmH hp (h2.append h4))
    · cases hg
  · rename_i ds es e1 e2
    obtain ⟨a, xs, rfl, h1, h2⟩ := ox.is_lst e1
    obtain ⟨b, ys, rfl, h3, h4⟩ := oy.is_lst e2
    split at hg
    · rename_i c
      replace c := (szb_iff _).mp c
      cases hg
      exact .inr (.inr (.inr ⟨a, b, xs, ys, rfl, rfl, h1, h3, by rw [h2.length, h4.length]; exact c, fun p hp => q _ _ (Evl.Ex.new hp) (new_lst e hp (h2.append h4))⟩))
    · cases hg
  · cases hg
/-! == and != -/
open SeqAt in
def gEqB : D → D → Option Bool := fun d e => match d, e with
  | .int i, .int j => some (decide (i = j))
  | .str a, .str b => some (decide (a = b))
  | .bool a, .bool b => some (decide (a = b))
  | d, e => if shaped d = true ∧ shaped e = true then some (PyData.eqv d e) else none
def gEq : Rs → Rs → Option Rs := fun x y => (gEqB x.d y.d).map fun b => .st (.bool b)
def gNe : Rs → Rs → Option Rs := fun x y => (gEqB x.d y.d).map fun b => .st (.bool (!b))
def rEqA (K : PySem.W.Frag) : R2 := fun x y H Q => rEq x y H Q ∨ rEqD K x y H Q
def rNeA (K : PySem.W.Frag) : R2 := fun x y H Q => rNe x y H Q ∨ rNeD K x y H Q
theorem op_eqA (hu : X.A.units + 64 < cLine) : OpR X (compareOp .Eq) (rEqA X.K) := OpR.or op_eq (op_eqD hu)
theorem op_neA (hu : X.A.units + 64 < cLine) : OpR X (compareOp .NotEq) (rNeA X.K) := OpR.or op_ne (op_neD hu)
theorem eqB_cases {M M' : Addr → Prop} {Hs H : Hp} {x y : V} {rx ry : Rs} {b : Bool} (ox : RsOk K M M' Hs H x rx) (oy : RsOk K M M' Hs H y ry) (h : gEqB rx.d ry.d = some b) :
    (scal x y = true ∧ decide (x = y) = b) ∨ ∃ d e, Dp K H x d ∧ Dp K H y e ∧ SeqAt.shaped d = true ∧ SeqAt.shaped e = true ∧ PyData.eqv d e = b := by
  have qx := ox.dq
  have qy := oy.dq
  revert h qx qy
  generalize rx.d = d
  generalize ry.d = e
  intro h qx qy
  unfold gEqB at h
  split at h
  · cases qx; cases qy; cases h
    refine .inl ⟨rfl, ?_⟩
    rw [Bool.eq_iff_iff]; simp
  · cases qx; cases qy; cases h
    refine .inl ⟨rfl, ?_⟩
    rw [Bool.eq_iff_iff]; simp
  · cases qx; cases qy; cases h
    refine .inl ⟨rfl, ?_⟩
    rw [Bool.eq_iff_iff]; simp
  · split at h
    · rename_i c
      cases h
      exact .inr ⟨_, _, qx.dp (SeqAt.canLay_of_shaped c.1), qy.dp (SeqAt.canLay_of_shaped c.2), c.1, c.2, rfl⟩
    · cases h
theorem op2_eq : Op2 K (rEqA K) gEq := fun M M' Hs H x y rx ry rz Q dm sub e ox oy hg q => by
  obtain ⟨b, h1, rfl⟩ := Option.map_eq_some_iff.mp hg
  have g := q (.bl b) H (Evl.Ex.refl H) (.bl _)
  rcases eqB_cases ox oy h1 with ⟨h2, h3⟩ | ⟨d, e, h2, h3, h4, h5, h6⟩
  · exact .inl ⟨h2, by rw [h3]; exact g⟩
  · exact .inr ⟨d, e, h2, h3, h4, h5, by rw [h6]; exact g⟩
theorem op2_ne : Op2 K (rNeA K) gNe := fun M M' Hs H x y rx ry rz Q dm sub e ox oy hg q => by
  obtain ⟨b, h1, rfl⟩ := Option.map_eq_some_iff.mp hg
  have g := q (.bl (!b)) H (Evl.Ex.refl H) (.bl _)
  rcases eqB_cases ox oy h1 with ⟨h2, h3⟩ | ⟨d, e, h2, h3, h4, h5, h6⟩
  · exact .inl ⟨h2, by rw [h3]; exact g⟩
  · exact .inr ⟨d, e, h2, h3, h4, h5, by rw [h6]; exact g⟩
/-! in, not in -/
def flatD : D → Bool
  | .none | .bool _ | .int _ | .str _ => true
  | _ => false
theorem flat_v {H : Hp} {v : V} {d : D} (h : Dq K H v d) (f : flatD d = true) : flatV v = true := by
  cases h <;> first | rfl | (simp [flatD, scrD] at f)
theorem flat_all {H : Hp} : ∀ {vs : List V} {ds : List D}, DqA K H vs ds → ds.all flatD = true → vs.all flatV = true
  | _, _, .nil, _ => rfl
  | _, _, .cons h1 h2, f => by
    rw [List.all_cons, Bool.and_eq_true] at f ⊢
    exact ⟨flat_v h1 f.1, flat_all h2 f.2⟩
theorem eqV_of {H H' : Hp} {v w : V} {d e : D} (h : Dq K H v d) (k : Dq K H' w e) (f : flatD d = true) (g : flatD e = true) : eqV v w = PyData.eqv d e := by
  cases h <;> first | (simp [flatD, scrD] at f; done) | (cases k <;> first | (simp [flatD, scrD] at g; done) | (simp [eqV, PyData.eqv]; done) | rfl)
theorem inV_of {H H' : Hp} {x : V} {d : D} (k : Dq K H' x d) (g : flatD d = true) : ∀ {vs : List V} {ds : List D}, DqA K H vs ds → ds.all flatD = true → inV x vs = ds.any fun z => PyData.eqv z d
  | _, _, .nil, _ => rfl
  | _, _, .cons h1 h2, f => by
    rw [List.all_cons, Bool.and_eq_true] at f
    show (eqV _ _ || inV x _) = _
    rw [List.any_cons, eqV_of h1 k f.1 g, inV_of k g h2 f.2]
def inB : D → D → Option Bool := fun d e => match e with
  | .tuple ds => if flatD d = true ∧ ds.all flatD = true then some (ds.any fun z => PyData.eqv z d) else none
  | .list ds => if (flatD d = true ∧ ds.all flatD = true) ∨ (SeqAt.shaped d = true ∧ SeqAt.shaped (.list ds) = true) then some (ds.any fun z => PyData.eqv z d) else none
  | .str z => match d with
    | .str w => match w.cps.toList with
      | [c] => some (decide (c ∈ z.cps.toList))
      | _ => none
    | _ => none
  | _ => none
def gIn : Rs → Rs → Option Rs := fun x y => (inB x.d y.d).map fun b => .st (.bool b)
def gNotIn : Rs → Rs → Option Rs := fun x y => (inB x.d y.d).map fun b => .st (.bool (!b))
def rInA (K : PySem.W.Frag) : R2 := fun x y H Q => rIn K false x y H Q ∨ rInD K x y H Q ∨ rInS x y H Q
def rNotInA (K : PySem.W.Frag) : R2 := fun x y H Q => rIn K true x y H Q ∨ rNotInD K x y H Q ∨ rNotInS x y H Q
theorem op_inA (hu : X.A.units + 65 < cLine) : OpR X (compareOp .In) (rInA X.K) := OpR.or op_in_seq (OpR.or (op_inD hu) op_inS)
theorem op_notInA (hu : X.A.units + 65 < cLine) : OpR X (compareOp .NotIn) (rNotInA X.K) := OpR.or op_notIn_seq (OpR.or (op_notInD hu) op_notInS)
theorem str_one {w : Str} {c : Nat} (h : w.cps.toList = [c]) : w = ⟨#[c]⟩ := by
  obtain ⟨cs⟩ := w
  have e : cs = #[c] := by
    cases cs
    simp at h
    rw [h]
  rw [e]
theorem inB_cases {M M' : Addr → Prop} {Hs H : Hp} {x y : V} {rx ry : Rs} {b : Bool} (ox : RsOk K M M' Hs H x rx) (oy : RsOk K M M' Hs H y ry) (h : inB rx.d ry.d = some b) :
    (∃ p xs, y = .ref p ∧ (SqL K H p xs ∨ SqT K H p xs) ∧ flatV x = true ∧ xs.all flatV = true ∧ inV x xs = b) ∨ (∃ d ds, Dp K H x d ∧ Dp K H y (.list ds) ∧ SeqAt.shaped d = true ∧ SeqAt.shaped (.list ds) = true ∧ (ds.any fun z => PyData.eqv z d) = b) ∨
      (∃ (c : Nat) (z : Str), x = .str ⟨#[c]⟩ ∧ y = .str z ∧ decide (c ∈ z.cps.toList) = b) := by
  have qx := ox.dq
  have qy := oy.dq
  revert h qx qy
  generalize rx.d = d
  generalize ry.d = e
  intro h qx qy
  unfold inB at h
  split at h
  · split at h
    · rename_i ds c
      cases h
      cases qy with
      | tup h1 h2 => exact .inl ⟨_, _, rfl, .inr h1, flat_v qx c.1, flat_all h2 c.2, inV_of qx c.1 h2 c.2⟩
    · cases h
  · split at h
    · rename_i ds c
      cases h
      rcases c with c | c
      · cases qy with
        | lst h1 h2 => exact .inl ⟨_, _, rfl, .inl (rd_l h1), flat_v qx c.1, flat_all h2 c.2, inV_of qx c.1 h2 c.2⟩
      · exact .inr (.inl ⟨_, _, qx.dp (SeqAt.canLay_of_shaped c.1), qy.dp (SeqAt.canLay_of_shaped c.2), c.1, c.2, rfl⟩)
    · cases h
  · split at h
    · split at h
      · rename_i hw
        cases h
        cases qx
        cases qy
        exact .inr (.inr ⟨_, _, by rw [str_one hw], rfl, rfl⟩)
      · cases h
    · cases h
  · cases h
theorem op2_in : Op2 K (rInA K) gIn := fun M M' Hs H x y rx ry rz Q dm sub e ox oy hg q => by
  obtain ⟨b, h1, rfl⟩ := Option.map_eq_some_iff.mp hg
  have g := q (.bl b) H (Evl.Ex.refl H) (.bl _)
  rcases inB_cases ox oy h1 with ⟨p, xs, h2, h3, h4, h5, h6⟩ | ⟨d, ds, h2, h3, h4, h5, h6⟩ | ⟨c, z, h2, h3, h4⟩
  · exact .inl ⟨p, xs, h2, h3, h4, h5, by rw [h6]; exact g⟩
  · exact .inr (.inl ⟨d, ds, h2, h3, h4, h5, by rw [h6]; exact g⟩)
  · exact .inr (.inr ⟨c, z, h2, h3, by rw [h4]; exact g⟩)
theorem op2_notIn : Op2 K (rNotInA K) gNotIn := fun M M' Hs H x y rx ry rz Q dm sub e ox oy hg q => by
  obtain ⟨b, h1, rfl⟩ := Option.map_eq_some_iff.mp hg
  have g := q (.bl (!b)) H (Evl.Ex.refl H) (.bl _)
  rcases inB_cases ox oy h1 with ⟨p, xs, h2, h3, h4, h5, h6⟩ | ⟨d, ds, h2, h3, h4, h5, h6⟩ | ⟨c, z, h2, h3, h4⟩
  · exact .inl ⟨p, xs, h2, h3, h4, h5, by rw [h6]; exact g⟩
  · exact .inr (.inl ⟨d, ds, h2, h3, h4, h5, by rw [h6]; exact g⟩)
  · exact .inr (.inr ⟨c, z, h2, h3, by rw [h4]; exact g⟩)
/-! is None -/
def gIsN : Rs → Rs → Option Rs := fun x y => match y.d with
  | .none => some (.st (.bool (match x.d with | .none => true | _ => false)))
  | _ => none
def gNotN : Rs → Rs → Option Rs := fun x y => match y.d with
  | .none => some (.st (.bool (match x.d with | .none => false | _ => true)))
  | _ => none
theorem op2_isN : Op2 K rIsN gIsN := fun M M' Hs H x y rx ry rz Q dm sub e ox oy hg q => by
  unfold gIsN at hg
  split at hg
  · rename_i e1
    cases hg
    refine And.intro (oy.is_non e1) ?_
    have g := q (.bl (match rx.d with | .none => true | _ => false)) H (Evl.Ex.refl H) (.bl _)
    have qx := ox.dq
    revert g qx
    generalize rx.d = d
    intro g qx
    cases qx <;> exact g
  · cases hg
theorem op2_notN : Op2 K rNotN gNotN := fun M M' Hs H x y rx ry rz Q dm sub e ox oy hg q => by
  unfold gNotN at hg
  split at hg
  · rename_i e1
    cases hg
    refine And.intro (oy.is_non e1) ?_
    have g := q (.bl (match rx.d with | .none => false | _ => true)) H (Evl.Ex.refl H) (.bl _)
    have qx := ox.dq
    revert g qx
    generalize rx.d = d
    intro g qx
    cases qx <;> exact g
  · cases hg
/-! subscripts -/
noncomputable def gIx : Rs → Rs → Option Rs := fun x y => match y.d with
  | .int i => match x.d with
    | .tuple ds => (atI ds i).map .st
    | .list ds => (atI ds i).map .st
    | .dict [(.none, .list ds)] => (atI ds i).map .st
    | .str z => if szb z.length = true then (atI z.cps.toList i).map fun c => .st (.str ⟨#[c]⟩) else none
    | _ => none
  | _ => none
theorem atI_dq {H : Hp} {xs : List V} {ds : List D} {i : Int} {d : D} (h : DqA K H xs ds) (e : atI ds i = some d) : ∃ v, atI xs i = some v ∧ Dq K H v d := by
  unfold atI at e ⊢
  rw [h.length]
  obtain ⟨j, h1, h2⟩ := Option.bind_eq_some_iff.mp e
  obtain ⟨v, h3, h4⟩ := h.get h2
  exact ⟨v, by rw [h1]; exact h3, h4⟩
theorem op2_ix : Op2 K (rIx K) gIx := fun M M' Hs H x y rx ry rz Q dm sub e ox oy hg q => by
  unfold gIx at hg
  split at hg
  · rename_i i e2
    have ey := oy.is_int e2
    subst ey
    split at hg
    · rename_i ds e1
      obtain ⟨a, xs, rfl, h1, h2⟩ := ox.is_tup e1
      obtain ⟨d, h3, rfl⟩ := Option.map_eq_some_iff.mp hg
      obtain ⟨v, h4, h5⟩ := atI_dq h2 h3
      exact .inr (.inl ⟨a, xs, i, v, rfl, rfl, un_t h1, h4, q v H (Evl.Ex.refl H) h5⟩)
    · rename_i ds e1
      obtain ⟨a, xs, rfl, h1, h2⟩ := ox.is_lst e1
      obtain ⟨d, h3, rfl⟩ := Option.map_eq_some_iff.mp hg
      obtain ⟨v, h4, h5⟩ := atI_dq h2 h3
      exact .inl ⟨a, xs, i, v, rfl, rfl, rd_l h1, h4, q v H (Evl.Ex.refl H) h5⟩
    · rename_i ds e1
      obtain ⟨d, h3, rfl⟩ := Option.map_eq_some_iff.mp hg
      have qx := ox.dq
      rw [e1] at qx
      generalize hz : PyData.dict [(.none, .list ds)] = z at qx
      cases qx with
      | scr h =>
        rename_i a ns
        unfold scrD at hz
        have ed : ds = ns.map PyData.int := by
          injection hz with hz
          injection hz with hz _
          injection hz with _ hz
          injection hz
        subst ed
        obtain ⟨v, h4, h5⟩ := atI_dq (dqA_ints K (msk M' H) ns) h3
        exact .inl ⟨a, _, i, v, rfl, rfl, h, h4, q v H (Evl.Ex.refl H) h5⟩
      | dT h1 h2 =>
        exfalso
        rename_i a kvs es
        cases kvs with
        | nil => simp at hz
        | cons k r =>
          cases h2
          simp [kDs] at hz
      | dK h1 h2 =>
        exfalso
        rename_i a kvs es
        cases kvs with
        | nil => simp at hz
        | cons k r =>
          cases h2
          obtain ⟨k1, k2⟩ := k
          cases k1 <;> simp [kD] at hz
      | _ => cases hz
    · rename_i z e1
      have ex := ox.is_str e1
      subst ex
      split at hg
      · rename_i c
        replace c := (szb_iff _).mp c
        obtain ⟨d, h3, rfl⟩ := Option.map_eq_some_iff.mp hg
        exact .inr (.inr ⟨z, i, d, rfl, rfl, c, h3, q _ H (Evl.Ex.refl H) (.str _)⟩)
      · cases hg
    · cases hg
  · cases hg
end
end DL

/-! text DL3 -/
set_option Elab.async false
set_option linter.all false
set_option maxRecDepth 100000
set_option maxHeartbeats 4000000
namespace DL
open PySem L2 SX C8
/-! ### rules for expressions -/
section
variable {X : Cx} {e a b : Expr} {pos : Pos} {ta tb tc : TE} {fa fb fc : SE} {tt tu : TT} {ft fu : ST}
theorem de_var (i : Nat) {x : Str} (hN : X.N[i]? = some x := by rfl) (hv : Vis X.env.scope x := by first | exact Or.inl rfl | exact Or.inr (Or.inl rfl) | exact Or.inr (Or.inr rfl)) (hd : (x == ("__debug__" : Str)) = false := by decide)
    (hcd : (x == ("__classdict__" : Str)) = false := by decide) : DE X (.Name x pos) (tVar i) (eVar i) := ⟨pe_var hN hv hd hcd, ev_var⟩
theorem de_int {i : Int} {j : Nat} : DE X (.Constant (.int i) j pos) (tC (.int i)) (eC (.int i)) := ⟨pe_int, ev_c fun _ => .int _⟩
theorem de_bl {i : Bool} {j : Nat} : DE X (.Constant (.bool i) j pos) (tC (.bl i)) (eC (.bool i)) := ⟨pe_bl, ev_c fun _ => .bl _⟩
theorem de_non {j : Nat} : DE X (.Constant .none j pos) (tC .non) (eC .none) := ⟨pe_non, ev_c fun _ => .non⟩
theorem de_str {i : Str} {j : Nat} : DE X (.Constant (.str i) j pos) (tC (.str i)) (eC (.str i)) := ⟨pe_str, ev_c fun _ => .str _⟩
/-- a constant of the module -/
def GlobD (K : PySem.W.Frag) (mg : Str → Option Value) (x : Str) (d : D) : Prop := ∃ u v, mg x = some u ∧ RelV v u ∧ ∀ H, Dq K H v d
theorem GlobD.pe {x : Str} {d : D} (g : GlobD X.K X.mg x d) (hg : Gl X x) (hd : (x == ("__debug__" : Str)) = false := by decide) : ∃ v, PE X (.Name x pos) (tC v) ∧ ∀ H, Dq X.K H v d := by
  obtain ⟨u, v, h1, h2, h3⟩ := g
  exact ⟨v, pe_glob hg h1 h2 hd, h3⟩
noncomputable def globV {K : PySem.W.Frag} {mg : Str → Option Value} {x : Str} {d : D} (g : GlobD K mg x d) : V := Classical.choose (Classical.choose_spec g)
theorem de_glob {x : Str} {d : D} (g : GlobD X.K X.mg x d) (hg : Gl X x := by rfl) (hd : (x == ("__debug__" : Str)) = false := by decide) : DE X (.Name x pos) (tC (globV g)) (eC d) := by
  have h := Classical.choose_spec (Classical.choose_spec g)
  exact ⟨pe_glob hg h.1 h.2.1 hd, ev_c h.2.2⟩
theorem de_bin {op : Operator} {r : R2} {g : Rs → Rs → Option Rs} (ho : OpR X (binaryOp op) r) (hr : Op2 X.K r g) (ha : DE X a ta fa) (hb : DE X b tb fb) : DE X (.BinOp a op b pos) (tOp r ta tb) (eOp g fa fb) :=
  ⟨pe_op ho ha.pe hb.pe, ev_op ha.ev hb.ev hr⟩
theorem de_cmp {op : CmpOp} {r : R2} {g : Rs → Rs → Option Rs} (ho : OpR X (compareOp op) r) (hr : Op2 X.K r g) (ha : DE X a ta fa) (hb : DE X b tb fb) (hm : behindInMarks op b = false) : DE X (.Compare a [op] [b] pos) (tOp r ta tb) (eOp g fa fb) :=
  ⟨pe_cmpR ho ha.pe hb.pe hm, ev_op ha.ev hb.ev hr⟩
def gNeg : Rs → Option Rs := fun x => match x.d with
  | .int i => some (.st (.int (-i)))
  | _ => none
theorem op1_neg {K : PySem.W.Frag} : Op1 K (rU fun i => .int (-i)) gNeg := fun M M' Hs H x rx rz Q dm sub e ox hg q => by
  unfold gNeg at hg
  split at hg
  · rename_i i e1
    rw [ox.is_int e1]
    cases hg
    exact ⟨i, rfl, q _ H (Evl.Ex.refl H) (.int _)⟩
  · cases hg
theorem de_neg (ha : DE X a ta fa) : DE X (.UnaryOp .USub a pos) (tUn (rU fun i => .int (-i)) ta) (eUn gNeg fa) := ⟨pe_un un_neg ha.pe, ev_un ha.ev op1_neg⟩
theorem de_add (ha : DE X a ta fa) (hb : DE X b tb fb) {K : PySem.W.Frag} (hK : X.K = K := by rfl) : DE X (.BinOp a .Add b pos) (tOp (rAddAll K) ta tb) (eOp gAdd fa fb) := by
  subst hK
  exact de_bin op_addAll op2_add ha hb
theorem de_sub (ha : DE X a ta fa) (hb : DE X b tb fb) : DE X (.BinOp a .Sub b pos) (tOp (rI0 fun i j => .int (i - j)) ta tb) (eOp gSub fa fb) := de_bin op_sub op2_sub ha hb
theorem de_mul (ha : DE X a ta fa) (hb : DE X b tb fb) : DE X (.BinOp a .Mult b pos) (tOp (rI CMul fun i j => .int (i * j)) ta tb) (eOp gMulI fa fb) := de_bin op_mul op2_mulI ha hb
theorem de_mod (ha : DE X a ta fa) (hb : DE X b tb fb) : DE X (.BinOp a .Mod b pos) (tOp (rI (fun _ j => 0 < j) fun i j => .int (i % j)) ta tb) (eOp gMod fa fb) := de_bin op_mod op2_mod ha hb
theorem de_div (ha : DE X a ta fa) (hb : DE X b tb fb) : DE X (.BinOp a .FloorDiv b pos) (tOp (rI CDiv fun i j => .int (i / j)) ta tb) (eOp gDiv fa fb) := de_bin op_fdiv op2_div ha hb
theorem de_lt (ha : DE X a ta fa) (hb : DE X b tb fb) : DE X (.Compare a [.Lt] [b] pos) (tOp (rI0 fun i j => .bl (decide (i < j))) ta tb) (eOp gLt fa fb) := de_cmp op_lt op2_lt ha hb (nomark _)
theorem de_le (ha : DE X a ta fa) (hb : DE X b tb fb) : DE X (.Compare a [.LtE] [b] pos) (tOp (rI0 fun i j => .bl (decide (i ≤ j))) ta tb) (eOp gLe fa fb) := de_cmp op_le op2_le ha hb (nomark _)
theorem de_gt (ha : DE X a ta fa) (hb : DE X b tb fb) : DE X (.Compare a [.Gt] [b] pos) (tOp (rI0 fun i j => .bl (decide (j < i))) ta tb) (eOp gGt fa fb) := de_cmp op_gt op2_gt ha hb (nomark _)
theorem de_ge (ha : DE X a ta fa) (hb : DE X b tb fb) : DE X (.Compare a [.GtE] [b] pos) (tOp (rI0 fun i j => .bl (decide (j ≤ i))) ta tb) (eOp gGe fa fb) := de_cmp op_ge op2_ge ha hb (nomark _)
theorem de_eq {j : Nat} (hr : Room j X.A) (ha : DE X a ta fa) (hb : DE X b tb fb) {K : PySem.W.Frag} (hK : X.K = K := by rfl) : DE X (.Compare a [.Eq] [b] pos) (tOp (rEqA K) ta tb) (eOp gEq fa fb) := by
  subst hK
  exact de_cmp (op_eqA hr.units) op2_eq ha hb (nomark _)
theorem de_ne {j : Nat} (hr : Room j X.A) (ha : DE X a ta fa) (hb : DE X b tb fb) {K : PySem.W.Frag} (hK : X.K = K := by rfl) : DE X (.Compare a [.NotEq] [b] pos) (tOp (rNeA K) ta tb) (eOp gNe fa fb) := by
  subst hK
  exact de_cmp (op_neA hr.units) op2_ne ha hb (nomark _)
theorem units65 {j : Nat} {A : Around} (hr : Room j A) : A.units + 65 < cLine := by have := hr.un; omega
theorem de_in {j : Nat} (hr : Room j X.A) (ha : DE X a ta fa) (hb : DE X b tb fb) (hm : behindInMarks .In b = false := by rfl) {K : PySem.W.Frag} (hK : X.K = K := by rfl) : DE X (.Compare a [.In] [b] pos) (tOp (rInA K) ta tb) (eOp gIn fa fb) := by
  subst hK
  exact de_cmp (op_inA (units65 hr)) op2_in ha hb hm
theorem de_notIn {j : Nat} (hr : Room j X.A) (ha : DE X a ta fa) (hb : DE X b tb fb) (hm : behindInMarks .NotIn b = false := by rfl) {K : PySem.W.Frag} (hK : X.K = K := by rfl) : DE X (.Compare a [.NotIn] [b] pos) (tOp (rNotInA K) ta tb) (eOp gNotIn fa fb) := by
  subst hK
  exact de_cmp (op_notInA (units65 hr)) op2_notIn ha hb hm
theorem de_isN (ha : DE X a ta fa) (hb : DE X b tb fb) : DE X (.Compare a [.Is] [b] pos) (tOp rIsN ta tb) (eOp gIsN fa fb) := de_cmp op_isN1 op2_isN ha hb (nomark _)
theorem de_notN (ha : DE X a ta fa) (hb : DE X b tb fb) : DE X (.Compare a [.IsNot] [b] pos) (tOp rNotN ta tb) (eOp gNotN fa fb) := de_cmp op_notN1 op2_notN ha hb (nomark _)
theorem de_ix (ha : DE X a ta fa) (hb : DE X b tb fb) (hs : PlainIx b := by exact fun _ _ => rfl) {K : PySem.W.Frag} (hK : X.K = K := by rfl) : DE X (.Subscript a b pos) (tOp (rIx K) ta tb) (eOp gIx fa fb) := by
  subst hK
  exact ⟨pe_ix ix_seq ha.pe hb.pe hs, ev_op ha.ev hb.ev op2_ix⟩
/-! a chain of two comparisons of ints -/
def eChain (p p' : Int → Int → Bool) (fa fb fc : SE) : SE := fun ρ => (fa ρ).bind fun x => (fb ρ).bind fun y => match x.d, y.d with
  | .int i, .int j => if p i j = true then (fc ρ).bind fun z => (match z.d with | .int k => some (.st (.bool (p' j k))) | _ => none) else some (.st (.bool false))
  | _, _ => none
theorem ev_chain {K : PySem.W.Frag} {p p' : Int → Int → Bool} (ha : EvD K ta fa) (hb : EvD K tb fb) (hc : EvD K tc fc) : EvD K (tChain (rI0 fun i j => .bl (p i j)) (rI0 fun i j => .bl (p' i j)) ta tb tc) (eChain p p' fa fb fc) := fun M H0 σ H ρ rz Q R hf q => by
  unfold eChain at hf
  obtain ⟨rx, h1, hf⟩ := Option.bind_eq_some_iff.mp hf
  obtain ⟨ry, h2, hf⟩ := Option.bind_eq_some_iff.mp hf
  refine ha M H0 σ H ρ rx _ R h1 fun x H1 e1 o1 => ?_
  refine hb M H0 σ H1 ρ ry _ (R.mono e1) h2 fun y H2 e2 o2 => ?_
  split at hf
  · rename_i i j ex ey
    rw [o1.is_int ex, o2.is_int ey]
    refine ⟨i, j, rfl, rfl, p i j, rfl, ?_⟩
    split at hf
    · rename_i hp
      rw [if_pos hp]
      obtain ⟨rz', h3, hf⟩ := Option.bind_eq_some_iff.mp hf
      refine hc M H0 σ H2 ρ rz' _ ((R.mono e1).mono e2) h3 fun z H3 e3 o3 => ?_
      split at hf
      · rename_i k ez
        rw [o3.is_int ez]
        cases hf
        exact ⟨j, k, rfl, rfl, q _ H3 ((e1.trans e2).trans e3) (.bl _)⟩
      · cases hf
    · rename_i hp
      rw [if_neg hp]
      cases hf
      exact q _ H2 (e1.trans e2) (.bl _)
  · cases hf
theorem de_lele {c : Expr} (ha : DE X a ta fa) (hb : DE X b tb fb) (hc : DE X c tc fc) (hm : lastMarks [.LtE, .LtE] [b, c] = false := by with_unfolding_all rfl) :
    DE X (.Compare a [.LtE, .LtE] [b, c] pos) (tChain (rI0 fun i j => .bl (decide (i ≤ j))) (rI0 fun i j => .bl (decide (i ≤ j))) ta tb tc) (eChain (fun i j => decide (i ≤ j)) (fun i j => decide (i ≤ j)) fa fb fc) :=
  ⟨pe_chain op_le op_le ha.pe hb.pe hc.pe hm, ev_chain ha.ev hb.ev hc.ev⟩
/-! and, or, not as values -/
def eAnd (fa fb : SE) : SE := fun ρ => (fa ρ).bind fun x => match x.d with
  | .bool true => fb ρ
  | .bool false => some (.st (.bool false))
  | _ => none
def eOr (fa fb : SE) : SE := fun ρ => (fa ρ).bind fun x => match x.d with
  | .bool true => some (.st (.bool true))
  | .bool false => fb ρ
  | _ => none
def gNot : Rs → Option Rs := fun x => match x.d with
  | .bool k => some (.st (.bool (!k)))
  | _ => none
def eNot (fa : SE) : SE := fun ρ => (fa ρ).bind gNot
theorem de_one {op : BoolOp} (ha : DE X a ta fa) : DE X (.BoolOp op [a] pos) ta fa := ⟨pe_one ha.pe, ha.ev⟩
theorem de_and {rest : List Expr} (ha : DE X a ta fa) (hb : DE X (.BoolOp .And (b :: rest) pos) tb fb) : DE X (.BoolOp .And (a :: b :: rest) pos) (tAndV ta tb) (eAnd fa fb) := ⟨pe_and ha.pe hb.pe, fun M H0 σ H ρ rz Q R hf q => by
  unfold eAnd at hf
  obtain ⟨rx, h1, hf⟩ := Option.bind_eq_some_iff.mp hf
  refine ha.ev M H0 σ H ρ rx _ R h1 fun x H1 e1 o1 => ?_
  split at hf
  · rename_i ex
    refine ⟨true, o1.is_bool ex, ?_⟩
    rw [if_pos rfl]
    exact hb.ev M H0 σ H1 ρ rz _ (R.mono e1) hf fun y H2 e2 o2 => q y H2 (e1.trans e2) (o2.back e1)
  · rename_i ex
    refine ⟨false, o1.is_bool ex, ?_⟩
    rw [if_neg Bool.false_ne_true]
    cases hf
    exact q _ H1 e1 (.bl _)
  · cases hf⟩
theorem de_or {rest : List Expr} (ha : DE X a ta fa) (hb : DE X (.BoolOp .Or (b :: rest) pos) tb fb) : DE X (.BoolOp .Or (a :: b :: rest) pos) (tOrV ta tb) (eOr fa fb) := ⟨pe_or ha.pe hb.pe, fun M H0 σ H ρ rz Q R hf q => by
  unfold eOr at hf
  obtain ⟨rx, h1, hf⟩ := Option.bind_eq_some_iff.mp hf
  refine ha.ev M H0 σ H ρ rx _ R h1 fun x H1 e1 o1 => ?_
  split at hf
  · rename_i ex
    refine ⟨true, o1.is_bool ex, ?_⟩
    rw [if_pos rfl]
    cases hf
    exact q _ H1 e1 (.bl _)
  · rename_i ex
    refine ⟨false, o1.is_bool ex, ?_⟩
    rw [if_neg Bool.false_ne_true]
    exact hb.ev M H0 σ H1 ρ rz _ (R.mono e1) hf fun y H2 e2 o2 => q y H2 (e1.trans e2) (o2.back e1)
  · cases hf⟩
theorem de_not (ha : DE X a ta fa) : DE X (.UnaryOp .Not a pos) (tNotV ta) (eNot fa) := ⟨pe_not ha.pe, fun M H0 σ H ρ rz Q R hf q => by
  unfold eNot at hf
  obtain ⟨rx, h1, hf⟩ := Option.bind_eq_some_iff.mp hf
  refine ha.ev M H0 σ H ρ rx _ R h1 fun x H1 e1 o1 => ?_
  unfold gNot at hf
  split at hf
  · rename_i k ex
    cases hf
    exact ⟨k, o1.is_bool ex, q _ H1 e1 (.bl _)⟩
  · cases hf⟩
/-! tests -/
def Rs.truth : Rs → Option Bool := fun r => match r.d with
  | .bool k => some k
  | _ => none
def bVal (fa : SE) : ST := fun ρ => (fa ρ).bind Rs.truth
def bAnd (f g : ST) : ST := fun ρ => (f ρ).bind fun k => if k = true then g ρ else some false
def bOr (f g : ST) : ST := fun ρ => (f ρ).bind fun k => if k = true then some true else g ρ
def bNot (f : ST) : ST := fun ρ => (f ρ).map (!·)
theorem evt_val {K : PySem.W.Frag} {t : TE} (ha : EvD K t fa) : EvT K (tB t) (bVal fa) := fun M H0 σ H ρ k Q R hf q => by
  unfold bVal at hf
  obtain ⟨rx, h1, hf⟩ := Option.bind_eq_some_iff.mp hf
  refine ha M H0 σ H ρ rx _ R h1 fun x H1 e1 o1 => ?_
  unfold Rs.truth at hf
  split at hf
  · rename_i k ex
    cases hf
    exact ⟨_, o1.is_bool ex, q H1 e1⟩
  · cases hf
theorem dt_val (ha : DE X e ta fa) (he : ∀ whole, isTrue e X.env whole = (do let v ← whole; standAt e.pos; holding [v] (truthy v)) := by intro _; rfl) : DT X e (tB ta) (bVal fa) := ⟨pt_val ha.pe he, evt_val ha.ev⟩
theorem dt_cmp {op : CmpOp} {r : R2} {g : Rs → Rs → Option Rs} (ho : OpR X (compareOp op) r) (hr : Op2 X.K r g) (ha : DE X a ta fa) (hb : DE X b tb fb) (hm : behindInMarks op b = false) : DT X (.Compare a [op] [b] pos) (tTest (tOp r ta tb)) (bVal (eOp g fa fb)) :=
  ⟨pt_cmpR ho ha.pe hb.pe hm, evt_val (ev_op ha.ev hb.ev hr)⟩
theorem dt_lele {c : Expr} (ha : DE X a ta fa) (hb : DE X b tb fb) (hc : DE X c tc fc) (hm : lastMarks [.LtE, .LtE] [b, c] = false := by with_unfolding_all rfl) :
    DT X (.Compare a [.LtE, .LtE] [b, c] pos) (tTest (tChain (rI0 fun i j => .bl (decide (i ≤ j))) (rI0 fun i j => .bl (decide (i ≤ j))) ta tb tc)) (bVal (eChain (fun i j => decide (i ≤ j)) (fun i j => decide (i ≤ j)) fa fb fc)) :=
  ⟨pt_chain op_le op_le ha.pe hb.pe hc.pe hm, evt_val (ev_chain ha.ev hb.ev hc.ev)⟩
theorem dt_lt (ha : DE X a ta fa) (hb : DE X b tb fb) : DT X (.Compare a [.Lt] [b] pos) (tTest (tOp (rI0 fun i j => .bl (decide (i < j))) ta tb)) (bVal (eOp gLt fa fb)) := dt_cmp op_lt op2_lt ha hb (nomark _)
theorem dt_le (ha : DE X a ta fa) (hb : DE X b tb fb) : DT X (.Compare a [.LtE] [b] pos) (tTest (tOp (rI0 fun i j => .bl (decide (i ≤ j))) ta tb)) (bVal (eOp gLe fa fb)) := dt_cmp op_le op2_le ha hb (nomark _)
theorem dt_gt (ha : DE X a ta fa) (hb : DE X b tb fb) : DT X (.Compare a [.Gt] [b] pos) (tTest (tOp (rI0 fun i j => .bl (decide (j < i))) ta tb)) (bVal (eOp gGt fa fb)) := dt_cmp op_gt op2_gt ha hb (nomark _)
theorem dt_ge (ha : DE X a ta fa) (hb : DE X b tb fb) : DT X (.Compare a [.GtE] [b] pos) (tTest (tOp (rI0 fun i j => .bl (decide (j ≤ i))) ta tb)) (bVal (eOp gGe fa fb)) := dt_cmp op_ge op2_ge ha hb (nomark _)
theorem dt_eq {j : Nat} (hr : Room j X.A) (ha : DE X a ta fa) (hb : DE X b tb fb) {K : PySem.W.Frag} (hK : X.K = K := by rfl) : DT X (.Compare a [.Eq] [b] pos) (tTest (tOp (rEqA K) ta tb)) (bVal (eOp gEq fa fb)) := by
  subst hK
  exact dt_cmp (op_eqA hr.units) op2_eq ha hb (nomark _)
theorem dt_ne {j : Nat} (hr : Room j X.A) (ha : DE X a ta fa) (hb : DE X b tb fb) {K : PySem.W.Frag} (hK : X.K = K := by rfl) : DT X (.Compare a [.NotEq] [b] pos) (tTest (tOp (rNeA K) ta tb)) (bVal (eOp gNe fa fb)) := by
  subst hK
  exact dt_cmp (op_neA hr.units) op2_ne ha hb (nomark _)
theorem dt_in {j : Nat} (hr : Room j X.A) (ha : DE X a ta fa) (hb : DE X b tb fb) (hm : behindInMarks .In b = false := by rfl) {K : PySem.W.Frag} (hK : X.K = K := by rfl) : DT X (.Compare a [.In] [b] pos) (tTest (tOp (rInA K) ta tb)) (bVal (eOp gIn fa fb)) := by
  subst hK
  exact dt_cmp (op_inA (units65 hr)) op2_in ha hb hm
theorem dt_notIn {j : Nat} (hr : Room j X.A) (ha : DE X a ta fa) (hb : DE X b tb fb) (hm : behindInMarks .NotIn b = false := by rfl) {K : PySem.W.Frag} (hK : X.K = K := by rfl) : DT X (.Compare a [.NotIn] [b] pos) (tTest (tOp (rNotInA K) ta tb)) (bVal (eOp gNotIn fa fb)) := by
  subst hK
  exact dt_cmp (op_notInA (units65 hr)) op2_notIn ha hb hm
theorem dt_isN (ha : DE X a ta fa) (hb : DE X b tb fb) : DT X (.Compare a [.Is] [b] pos) (tTest (tOp rIsN ta tb)) (bVal (eOp gIsN fa fb)) := dt_cmp op_isN1 op2_isN ha hb (nomark _)
theorem dt_notN (ha : DE X a ta fa) (hb : DE X b tb fb) : DT X (.Compare a [.IsNot] [b] pos) (tTest (tOp rNotN ta tb)) (bVal (eOp gNotN fa fb)) := dt_cmp op_notN1 op2_notN ha hb (nomark _)
theorem dw_and1 (ha : DT X a tt ft) : DW X (.BoolOp .And [a] pos) tt ft := ⟨pw_and1 ha.pt, ha.ev⟩
theorem dw_or1 (ha : DT X a tt ft) : DW X (.BoolOp .Or [a] pos) tt ft := ⟨pw_or1 ha.pt, ha.ev⟩
theorem dw_and {rest : List Expr} (ha : DT X a tt ft) (hb : DW X (.BoolOp .And (b :: rest) pos) tu fu) : DW X (.BoolOp .And (a :: b :: rest) pos) (tAnd tt tu) (bAnd ft fu) := ⟨pw_and ha.pt hb.pw, fun M H0 σ H ρ k Q R hf q => by
  unfold bAnd at hf
  obtain ⟨c, h1, hf⟩ := Option.bind_eq_some_iff.mp hf
  refine ha.ev M H0 σ H ρ c _ R h1 fun H1 e1 => ?_
  cases c with
  | true =>
    rw [if_pos rfl] at hf ⊢
    exact hb.ev M H0 σ H1 ρ k _ (R.mono e1) hf fun H2 e2 => q H2 (e1.trans e2)
  | false =>
    rw [if_neg Bool.false_ne_true] at hf ⊢
    cases hf
    exact q H1 e1⟩
theorem dw_or {rest : List Expr} (ha : DT X a tt ft) (hb : DW X (.BoolOp .Or (b :: rest) pos) tu fu) : DW X (.BoolOp .Or (a :: b :: rest) pos) (tOr tt tu) (bOr ft fu) := ⟨pw_or ha.pt hb.pw, fun M H0 σ H ρ k Q R hf q => by
  unfold bOr at hf
  obtain ⟨c, h1, hf⟩ := Option.bind_eq_some_iff.mp hf
  refine ha.ev M H0 σ H ρ c _ R h1 fun H1 e1 => ?_
  cases c with
  | true =>
    rw [if_pos rfl] at hf ⊢
    cases hf
    exact q H1 e1
  | false =>
    rw [if_neg Bool.false_ne_true] at hf ⊢
    exact hb.ev M H0 σ H1 ρ k _ (R.mono e1) hf fun H2 e2 => q H2 (e1.trans e2)⟩
theorem DW.dt (h : DW X e tt ft) : DT X e tt ft := ⟨h.pw.pt, h.ev⟩
theorem dt_not (ha : DT X a tt ft) : DT X (.UnaryOp .Not a pos) (tNot tt) (bNot ft) := ⟨pt_not ha.pt, fun M H0 σ H ρ k Q R hf q => by
  unfold bNot at hf
  obtain ⟨c, h1, rfl⟩ := Option.map_eq_some_iff.mp hf
  exact ha.ev M H0 σ H ρ c _ R h1 fun H1 e1 => q H1 e1⟩
def eIf (ft : ST) (fa fb : SE) : SE := fun ρ => (ft ρ).bind fun k => if k = true then fa ρ else fb ρ
theorem de_if {c : Expr} (hc : DT X c tt ft) (ha : DE X a ta fa) (hb : DE X b tb fb) : DE X (.IfExp c a b pos) (tIf tt ta tb) (eIf ft fa fb) := ⟨pe_ifExp hc.pt ha.pe hb.pe, fun M H0 σ H ρ rz Q R hf q => by
  unfold eIf at hf
  obtain ⟨c, h1, hf⟩ := Option.bind_eq_some_iff.mp hf
  refine hc.ev M H0 σ H ρ c _ R h1 fun H1 e1 => ?_
  cases c with
  | true =>
    rw [if_pos rfl] at hf ⊢
    exact ha.ev M H0 σ H1 ρ rz _ (R.mono e1) hf fun y H2 e2 o2 => q y H2 (e1.trans e2) (o2.back e1)
  | false =>
    rw [if_neg Bool.false_ne_true] at hf ⊢
    exact hb.ev M H0 σ H1 ρ rz _ (R.mono e1) hf fun y H2 e2 o2 => q y H2 (e1.trans e2) (o2.back e1)⟩
/-! displays -/
def stabs : List Rs → Option (List D)
  | [] => some []
  | r :: rs => r.stab.bind fun d => (stabs rs).bind fun ds => some (d :: ds)
theorem RsAll.stable {K : PySem.W.Frag} {M M' : Addr → Prop} {H H' : Hp} (dm : ∀ b, M' b → H b ≠ none) : ∀ {vs : List V} {rs : List Rs} {ds : List D}, RsAll K M M' H H' vs rs → stabs rs = some ds → DqA K (msk M' H') vs ds
  | _, _, _, .nil, h => by cases h; exact .nil
  | _, _, _, .cons h1 h2, h => by
    unfold stabs at h
    obtain ⟨d, q1, h⟩ := Option.bind_eq_some_iff.mp h
    obtain ⟨ds, q2, h⟩ := Option.bind_eq_some_iff.mp h
    cases h
    exact .cons (h1.stable dm q1) (h2.stable dm q2)
variable {es : List Expr} {t : TA} {fs : SA}
theorem da_nil : DA X [] tNil aNil := ⟨pa_nil, ea_nil⟩
theorem da_cons (ha : DE X e ta fa) (hb : DA X es t fs) (hs : starEach (e :: es) X.env = (false, eval e X.env) :: starEach es X.env := by rfl) : DA X (e :: es) (tCons ta t) (aCons fa fs) := ⟨pa_cons ha.pe hb.pa hs, ea_cons ha.ev hb.ev⟩
noncomputable def eTup (fs : SA) : SE := fun ρ => (fs ρ).bind fun rs => (stabs rs).bind fun ds => if szb ds.length = true then some (.st (.tuple ds)) else none
noncomputable def eLst (fs : SA) : SE := fun ρ => (fs ρ).bind fun rs => (stabs rs).bind fun ds => if szb ds.length = true then some (.fr (.list ds)) else none
theorem de_tup {k : Nat} (h : DA X es t fs) : DE X (.Tuple es k pos) (tTup t) (eTup fs) := ⟨pe_tup h.pa, fun M H0 σ H ρ rz Q R hf q => by
  unfold eTup at hf
  obtain ⟨rs, h1, hf⟩ := Option.bind_eq_some_iff.mp hf
  obtain ⟨ds, h2, hf⟩ := Option.bind_eq_some_iff.mp hf
  refine h.ev M H0 σ H ρ rs _ R h1 fun xs H1 e1 o1 => ?_
  have st := o1.stable R.dom h2
  split at hf
  · rename_i c
    replace c := (szb_iff _).mp c
    cases hf
    refine ⟨by rw [st.length]; exact c, fun p hp => ?_⟩
    exact q _ _ (e1.trans (Evl.Ex.new hp)) (new_tup (dom_up R.dom e1) hp st)
  · cases hf⟩
theorem de_lst (h : DA X es t fs) : DE X (.List es pos) (tLst t) (eLst fs) := ⟨pe_lst h.pa, fun M H0 σ H ρ rz Q R hf q => by
  unfold eLst at hf
  obtain ⟨rs, h1, hf⟩ := Option.bind_eq_some_iff.mp hf
  obtain ⟨ds, h2, hf⟩ := Option.bind_eq_some_iff.mp hf
  refine h.ev M H0 σ H ρ rs _ R h1 fun xs H1 e1 o1 => ?_
  have st := o1.stable R.dom h2
  split at hf
  · rename_i c
    replace c := (szb_iff _).mp c
    cases hf
    refine ⟨by rw [st.length]; exact c, fun p hp => ?_⟩
    exact q _ _ (e1.trans (Evl.Ex.new hp)) (new_lst e1 hp st)
  · cases hf⟩
/-! slices of lists, tuples, texts -/
abbrev SO := Rho → Option (Option Int)
def EvO (K : PySem.W.Frag) (t : TO) (f : SO) : Prop := ∀ M H0 σ H ρ o (Q : Option Int → Hp → Prop), Rp K M H0 σ H ρ → f ρ = some o → (∀ H', Ex H H' → Q o H') → t σ H Q
structure DO (X : Cx) (e : Option Expr) (t : TO) (f : SO) : Prop where
  po : PO X e t
  ev : EvO X.K t f
def oNone : SO := fun _ => some none
def oSome (f : SE) : SO := fun ρ => (f ρ).bind fun r => match r.d with
  | .int i => some (some i)
  | _ => none
theorem do_none : DO X none tNoPart oNone := ⟨po_none, fun M H0 σ H ρ o Q R hf q => by cases hf; exact q H (Evl.Ex.refl H)⟩
theorem do_some (h : DE X e ta fa) : DO X (some e) (tPart ta) (oSome fa) := ⟨po_some h.pe, fun M H0 σ H ρ o Q R hf q => by
  unfold oSome at hf
  obtain ⟨r, h1, hf⟩ := Option.bind_eq_some_iff.mp hf
  refine h.ev M H0 σ H ρ r _ R h1 fun v H1 e1 o1 => ?_
  split at hf
  · rename_i i ex
    cases hf
    exact ⟨i, o1.is_int ex, q H1 e1⟩
  · cases hf⟩
def cutD (ds : List D) (lo hi : Option Int) : List D := (ds.drop (HT.sIx ds.length 0 lo)).take (HT.sIx ds.length ds.length hi - HT.sIx ds.length 0 lo)
noncomputable def gSl (x : Rs) (lo hi : Option Int) : Option Rs := match x.d with
  | .list ds => some (.fr (.list (cutD ds lo hi)))
  | .tuple ds => some (.st (.tuple (cutD ds lo hi)))
  | .str z => if szb z.length = true then some (.st (.str (cutS z lo hi))) else none
  | _ => none
noncomputable def eSl (f : SE) (lo hi : SO) : SE := fun ρ => (f ρ).bind fun x => (lo ρ).bind fun l => (hi ρ).bind fun h => gSl x l h
def rSlAll (K : PySem.W.Frag) : V → Option Int → Option Int → Hp → VK → Prop := fun x lo hi H Q => rSlL K x lo hi H Q ∨ rSlA K x lo hi H Q ∨ rSlS x lo hi H Q
theorem sl_all : SlR X (rSlAll X.K) := SlR.or sl_list (SlR.or sl_tupA sl_str)
theorem de_sl {lo hi : Option Expr} {tl th : TO} {fl fh : SO} {p2 : Pos} (h : DE X e ta fa) (hl : DO X lo tl fl) (hh : DO X hi th fh) {K : PySem.W.Frag} (hK : X.K = K := by rfl) : DE X (.Subscript e (.Slice lo hi none p2) pos) (tSl (rSlAll K) ta tl th) (eSl fa fl fh) := by
  subst hK
  exact ⟨pe_slice sl_all h.pe hl.po hh.po, fun M H0 σ H ρ rz Q R hf q => by
  unfold eSl at hf
  obtain ⟨x, h1, hf⟩ := Option.bind_eq_some_iff.mp hf
  obtain ⟨l, h2, hf⟩ := Option.bind_eq_some_iff.mp hf
  obtain ⟨u, h3, hf⟩ := Option.bind_eq_some_iff.mp hf
  refine h.ev M H0 σ H ρ x _ R h1 fun v H1 e1 o1 => ?_
  refine hl.ev M H0 σ H1 ρ l _ (R.mono e1) h2 fun H2 e2 => ?_
  refine hh.ev M H0 σ H2 ρ u _ ((R.mono e1).mono e2) h3 fun H3 e3 => ?_
  have ee := (e1.trans e2).trans e3
  have dm := dom_up R.dom ee
  replace o1 := (o1.mono e2).mono e3
  unfold gSl at hf
  split at hf
  · rename_i ds ex
    obtain ⟨a, xs, rfl, q1, q2⟩ := o1.is_lst ex
    cases hf
    exact .inl ⟨a, xs, rfl, rd_l q1, fun p hp => q _ _ (ee.trans (Evl.Ex.new hp)) (new_lst ee hp (q2.cut l u))⟩
  · rename_i ds ex
    obtain ⟨a, xs, rfl, q1, q2⟩ := o1.is_tup ex
    cases hf
    refine .inr (.inl ⟨a, xs, rfl, un_t q1, fun hw => ?_, fun hw p hp => ?_⟩)
    · have e4 : cutD ds l u = ds := by
        unfold cutD
        rw [q2.length] at hw
        rw [hw.1, hw.2]
        simp
      rw [e4] at q
      exact q _ _ ee (.tup q1 q2)
    · exact q _ _ (ee.trans (Evl.Ex.new hp)) (new_tup dm hp (q2.cut l u))
  · rename_i z ex
    have ev := o1.is_str ex
    subst ev
    split at hf
    · rename_i c
      replace c := (szb_iff _).mp c
      cases hf
      exact .inr (.inr ⟨z, rfl, c, q _ _ ee (.str _)⟩)
    · cases hf
  · cases hf⟩
/-! calls of the program's own defs -/
/-- the promise: what g says of the data -/
def spD (K : PySem.W.Frag) (g : List D → Option D) : Sp := fun vs H Q _ => ∃ (M : Addr → Prop) (ds : List D) (d : D), (∀ a, M a → H a ≠ none) ∧ DqA K (msk M H) vs ds ∧ g ds = some d ∧ ∀ v H', Ex H H' → Dq K (msk M H') v d → Q v H'
def eCall (g : List D → Option D) (fs : SA) : SE := fun ρ => (fs ρ).bind fun rs => (stabs rs).bind fun ds => (g ds).map .st
theorem de_call {x : Str} {k j : Nat} {g : List D → Option D} {p : Pos} (c : Cal X.prog X.w X.K X.mg X.base k x (spD X.K g) []) (hr : Room j X.A) (hk : k ≤ j) (h : DA X (e :: es) t fs) (hg : Gl X x := by rfl)
    (hdb : (x == ("__debug__" : Str)) = false := by decide) (he : starEach (e :: es) X.env = (false, eval e X.env) :: starEach es X.env := by rfl) (hpl : (backTo pos (starEach es X.env)).any (·.1) = false := by rfl) {K : PySem.W.Frag} (hK : X.K = K := by rfl) : DE X (.Call (.Name x p) (e :: es) [] pos) (tCall (spD K g) [] C8.E0 t) (eCall g fs) := by
  subst hK
  exact ⟨pe_c c hr hk hg h.pa hdb he hpl, fun M H0 σ H ρ rz Q R hf q => by
  unfold eCall at hf
  obtain ⟨rs, h1, hf⟩ := Option.bind_eq_some_iff.mp hf
  obtain ⟨ds, h2, hf⟩ := Option.bind_eq_some_iff.mp hf
  obtain ⟨d, h3, rfl⟩ := Option.map_eq_some_iff.mp hf
  refine h.ev M H0 σ H ρ rs _ R h1 fun xs H1 e1 o1 => ?_
  have st := o1.stable R.dom h2
  refine ⟨_, ds, d, dom_up R.dom e1, ?_, h3, fun v H' e2 o2 => q v H' (e1.trans e2) o2⟩
  rw [List.append_nil]
  exact st⟩
/-! calls of built-ins -/
theorem de_cbB {x : Str} {id : String} {r : List V → Hp → VK → Prop} {g : List Rs → Option Rs} {p : Pos} (hc : CallR X (.builtin id) r) (hr : CbD X.K r g) (hm : X.mg x = none) (hv : bootBuiltins x = some (.builtin id)) (h : DA X (e :: es) t fs) (hg : Gl X x := by rfl) (hn : x ≠ "__name__" := by decide) (hdb : (x == ("__debug__" : Str)) = false := by decide)
    (he : starEach (e :: es) X.env = (false, eval e X.env) :: starEach es X.env := by rfl) (hpl : (backTo pos (starEach es X.env)).any (·.1) = false := by rfl) : DE X (.Call (.Name x p) (e :: es) [] pos) (tCB r t) (eCb g fs) :=
  ⟨pe_callB hc hg hm hv h.pa hn hdb he hpl, ev_cb h.ev hr⟩
theorem de_cbT {x : Str} {T : String} {r : List V → Hp → VK → Prop} {g : List Rs → Option Rs} {p : Pos} (hc : CallR X (.type T) r) (hr : CbD X.K r g) (hm : X.mg x = none) (hv : bootBuiltins x = some (.type T)) (h : DA X (e :: es) t fs) (hg : Gl X x := by rfl) (hn : x ≠ "__name__" := by decide) (hdb : (x == ("__debug__" : Str)) = false := by decide)
    (he : starEach (e :: es) X.env = (false, eval e X.env) :: starEach es X.env := by rfl) (hpl : (backTo pos (starEach es X.env)).any (·.1) = false := by rfl) : DE X (.Call (.Name x p) (e :: es) [] pos) (tCB r t) (eCb g fs) :=
  ⟨pe_callTy hc hg hm hv h.pa hn hdb he hpl, ev_cb h.ev hr⟩
end
end DL

/-! text DL4 -/
set_option Elab.async false
set_option linter.all false
set_option maxRecDepth 100000
set_option maxHeartbeats 4000000
namespace DL
open PySem L2 SX C8
/-! ### the frame's names change -/
section
variable {K : PySem.W.Frag} {M : Addr → Prop} {H0 H H' : Hp} {σ σ' : L2.St} {ρ ρ' : Rho}
theorem mM_sub (ho : ∀ (j : Nat) (e : D), ρ'[j]? = some (some (Ent.own e)) → ρ[j]? = some (some (Ent.own e)) ∧ σ'[j]? = σ[j]?) : ∀ a, mM M ρ' σ' a → mM M ρ σ a := fun a m => by
  rcases m with m | ⟨j, e, h1, h2⟩
  · exact .inl m
  · obtain ⟨q1, q2⟩ := ho j e h1
    exact .inr ⟨j, e, q1, by rw [← q2]; exact h2⟩
theorem Rp.shrink (R : Rp K M H0 σ H ρ) (hl : σ'.length = ρ'.length) (ho : ∀ (j : Nat) (e : D), ρ'[j]? = some (some (Ent.own e)) → ρ[j]? = some (some (Ent.own e)) ∧ σ'[j]? = σ[j]?)
    (hv : ∀ (j : Nat) (d : D), ρ'[j]? = some (some (Ent.val d)) → ∃ v : V, σ'[j]? = some (some v) ∧ Dq K (msk (mM M ρ' σ') H) v d) : Rp K M H0 σ' H ρ' where
  ex := R.ex
  dm := R.dm
  len := hl
  val := hv
  own := fun i d h => by
    obtain ⟨h1, h2⟩ := ho i d h
    obtain ⟨a, q1, q2, q3, q4⟩ := R.own i d h1
    exact ⟨a, by rw [h2]; exact q1, q2, q3, q4.mono (ex_sub (Evl.Ex.refl _) (mM_sub ho)) fun o q => q⟩
  inj := fun i j d e a h1 h2 h3 h4 => by
    obtain ⟨p1, p2⟩ := ho i d h1
    obtain ⟨p3, p4⟩ := ho j e h2
    exact R.inj i j d e a p1 p3 (by rw [← p2]; exact h3) (by rw [← p4]; exact h4)
/-- an owned slot -/
def isOwn (ρ : Rho) (i : Nat) : Bool := match ρ[i]? with
  | some (some (.own _)) => true
  | _ => false
theorem set_ne {α : Type} {l : List α} {i j : Nat} {x : α} (h : j ≠ i) : (l.set i x)[j]? = l[j]? := by
  rw [List.getElem?_set_ne (Ne.symm h)]
theorem get_set {α : Type} {l : List α} {i j : Nat} {x y : α} (h : (l.set i x)[j]? = some y) : (j = i ∧ y = x ∧ i < l.length) ∨ (j ≠ i ∧ l[j]? = some y) := by
  by_cases e : j = i
  · subst e
    by_cases hl : j < l.length
    · rw [List.getElem?_set_self hl] at h
      cases h
      exact .inl ⟨rfl, rfl, hl⟩
    · rw [List.getElem?_eq_none (by simpa using hl)] at h
      cases h
  · rw [set_ne e] at h
    exact .inr ⟨e, h⟩
theorem set_own (i : Nat) (v : V) (d : D) : ∀ (j : Nat) (e : D), (ρ.set i (some (.val d)))[j]? = some (some (Ent.own e)) → ρ[j]? = some (some (Ent.own e)) ∧ (σ.set i (some v))[j]? = σ[j]? := fun j e h => by
  rcases get_set h with ⟨_, q, _⟩ | ⟨h1, h2⟩
  · cases q
  · exact ⟨h2, set_ne h1⟩
/-- a value stored -/
theorem Rp.set (R : Rp K M H0 σ H ρ) {v : V} {d : D} (i : Nat) (h : Dq K (msk (mM M ρ σ) H) v d) : Rp K M H0 (σ.set i (some v)) H (ρ.set i (some (.val d))) := by
  have ee : Ex (msk (mM M ρ σ) H) (msk (mM M (ρ.set i (some (.val d))) (σ.set i (some v))) H) := ex_sub (Evl.Ex.refl _) (mM_sub (set_own i v d))
  refine R.shrink (by simp [R.len]) (set_own i v d) fun j e hj => ?_
  rcases get_set hj with ⟨h1, h2, h3⟩ | ⟨h1, h2⟩
  · cases h2
    subst h1
    exact ⟨v, List.getElem?_set_self (by rw [R.len]; exact h3), h.mono ee⟩
  · obtain ⟨w, q1, q2⟩ := R.val j e h2
    exact ⟨w, by rw [set_ne h1]; exact q1, q2.mono ee⟩
theorem set_mM (R : Rp K M H0 σ H ρ) {v : V} {d : D} (i : Nat) (hi : isOwn ρ i = false) (a : Addr) : mM M (ρ.set i (some (.val d))) (σ.set i (some v)) a ↔ mM M ρ σ a := by
  refine ⟨mM_sub (set_own i v d) a, fun m => ?_⟩
  rcases m with m | ⟨j, e, h1, h2⟩
  · exact .inl m
  · refine .inr ⟨j, e, ?_, ?_⟩
    · by_cases hj : j = i
      · subst hj
        unfold isOwn at hi
        rw [h1] at hi
        cases hi
      · rw [set_ne hj]; exact h1
    · by_cases hj : j = i
      · subst hj
        unfold isOwn at hi
        rw [h1] at hi
        cases hi
      · rw [set_ne hj]; exact h2
/-- a new thing stored as owned -/
theorem Rp.setOwn (R : Rp K M H0 σ H ρ) (e : Ex H H') {a : Addr} {d : D} (i : Nat) (hi : i < ρ.length) (ha : H a = none) (h : OwnOk K (msk (fun b => mM M ρ σ b ∨ b = a) H') H' a d) :
    Rp K M H0 (σ.set i (some (.ref a))) H' (ρ.set i (some (.own d))) ∧ Ex (msk (mM M ρ σ) H) (msk (mM M (ρ.set i (some (.own d))) (σ.set i (some (.ref a)))) H') := by
  have hm : ∀ b, mM M (ρ.set i (some (.own d))) (σ.set i (some (.ref a))) b → mM M ρ σ b ∨ b = a := fun b m => by
    rcases m with m | ⟨j, f, h1, h2⟩
    · exact .inl (.inl m)
    · rcases get_set h1 with ⟨q1, q2, q3⟩ | ⟨q1, q2⟩
      · subst q1
        rw [List.getElem?_set_self (by rw [R.len]; exact q3)] at h2
        cases h2
        exact .inr rfl
      · exact .inl (.inr ⟨j, f, q2, by rw [← set_ne q1 (l := σ)]; exact h2⟩)
  have e1 : Ex (msk (mM M ρ σ) H) (msk (mM M (ρ.set i (some (.own d))) (σ.set i (some (.ref a)))) H') := ex_of fun b o m q => ⟨fun z => by
    rcases hm b z with z | z
    · exact m z
    · (rw [z, ha] at q; cases q), e b o q⟩
  have e2 : Ex (msk (fun b => mM M ρ σ b ∨ b = a) H') (msk (mM M (ρ.set i (some (.own d))) (σ.set i (some (.ref a)))) H') := ex_sub (Evl.Ex.refl _) hm
  have noa : ∀ (j : Nat) (f : D), ρ[j]? = some (some (Ent.own f)) → σ[j]? = some (some (V.ref a)) → False := fun j f h1 h2 => R.dom a (.inr ⟨j, f, h1, h2⟩) ha
  refine ⟨⟨R.ex.trans e, fun b m z => R.dm b m (Evl.fresh_back e z), by simp [R.len], fun j f hj => ?_, fun j f hj => ?_, fun j k f g b h1 h2 h3 h4 => ?_⟩, e1⟩
  · rcases get_set hj with ⟨h1, h2, h3⟩ | ⟨h1, h2⟩
    · cases h2
    · obtain ⟨w, q1, q2⟩ := R.val j f h2
      exact ⟨w, by rw [set_ne h1]; exact q1, q2.mono e1⟩
  · rcases get_set hj with ⟨h1, h2, h3⟩ | ⟨h1, h2⟩
    · cases h2
      subst h1
      exact ⟨a, List.getElem?_set_self (by rw [R.len]; exact hi), Evl.fresh_back R.ex ha, fun m => R.dm a m ha, h.mono e2 fun o q => q⟩
    · obtain ⟨b, q1, q2, q3, q4⟩ := R.own j f h2
      exact ⟨b, by rw [set_ne h1]; exact q1, q2, q3, q4.mono e1 fun o q => e _ _ q⟩
  · rcases get_set h1 with ⟨p1, _, p3⟩ | ⟨p1, p2⟩
    · rcases get_set h2 with ⟨r1, _, _⟩ | ⟨r1, r2⟩
      · rw [p1, r1]
      · exfalso
        subst p1
        rw [List.getElem?_set_self (by rw [R.len]; exact p3)] at h3
        cases h3
        rw [set_ne r1] at h4
        exact noa k g r2 h4
    · rcases get_set h2 with ⟨r1, _, r3⟩ | ⟨r1, r2⟩
      · exfalso
        subst r1
        rw [List.getElem?_set_self (by rw [R.len]; exact r3)] at h4
        cases h4
        rw [set_ne p1] at h3
        exact noa j f p2 h3
      · rw [set_ne p1] at h3
        rw [set_ne r1] at h4
        exact R.inj j k f g b p2 r2 h3 h4
/-- forgetting -/
def drop (ts : List Nat) (ρ : Rho) : Rho := ts.foldl (fun r i => r.set i none) ρ
theorem drop_get : ∀ (ts : List Nat) (ρ : Rho) (j : Nat) (e : Ent), (drop ts ρ)[j]? = some (some e) → ρ[j]? = some (some e)
  | [], _, _, _, h => h
  | t :: ts, ρ, j, e, h => by
    have q := drop_get ts (ρ.set t none) j e h
    rcases get_set q with ⟨_, z, _⟩ | ⟨_, z⟩
    · cases z
    · exact z
theorem drop_len : ∀ (ts : List Nat) (ρ : Rho), (drop ts ρ).length = ρ.length
  | [], _ => rfl
  | t :: ts, ρ => by
    show (drop ts (ρ.set t none)).length = _
    rw [drop_len ts, List.length_set]
theorem Rp.drop (R : Rp K M H0 σ H ρ) (ts : List Nat) : Rp K M H0 σ H (drop ts ρ) ∧ Ex (msk (mM M ρ σ) H) (msk (mM M (DL.drop ts ρ) σ) H) := by
  have ho : ∀ (j : Nat) (e : D), (DL.drop ts ρ)[j]? = some (some (Ent.own e)) → ρ[j]? = some (some (Ent.own e)) ∧ σ[j]? = σ[j]? := fun j e h => ⟨drop_get ts ρ j _ h, rfl⟩
  have ee : Ex (msk (mM M ρ σ) H) (msk (mM M (DL.drop ts ρ) σ) H) := ex_sub (Evl.Ex.refl _) (mM_sub ho)
  refine ⟨R.shrink (by rw [drop_len]; exact R.len) ho fun j d h => ?_, ee⟩
  obtain ⟨v, h1, h2⟩ := R.val j d (drop_get ts ρ j _ h)
  exact ⟨v, h1, h2.mono ee⟩
/-- an owned thing is owned no more -/
def frz (i : Nat) (ρ : Rho) : Rho := match ρ[i]? with
  | some (some (.own d)) => ρ.set i (some (.val d))
  | _ => ρ
theorem Rp.frz (R : Rp K M H0 σ H ρ) (i : Nat) : Rp K M H0 σ H (frz i ρ) ∧ Ex (msk (mM M ρ σ) H) (msk (mM M (DL.frz i ρ) σ) H) := by
  unfold DL.frz
  split
  · rename_i d hd
    have ho : ∀ (j : Nat) (e : D), (ρ.set i (some (.val d)))[j]? = some (some (Ent.own e)) → ρ[j]? = some (some (Ent.own e)) ∧ σ[j]? = σ[j]? := fun j e h => by
      rcases get_set h with ⟨_, q, _⟩ | ⟨h1, h2⟩
      · cases q
      · exact ⟨h2, rfl⟩
    have ee : Ex (msk (mM M ρ σ) H) (msk (mM M (ρ.set i (some (.val d))) σ) H) := ex_sub (Evl.Ex.refl _) (mM_sub ho)
    refine ⟨R.shrink (by rw [List.length_set]; exact R.len) ho fun j e h => ?_, ee⟩
    rcases get_set h with ⟨h1, h2, h3⟩ | ⟨h1, h2⟩
    · cases h2
      subst h1
      obtain ⟨a, q1, q2, q3, q4⟩ := R.own j _ hd
      refine ⟨_, q1, q4.dq ee fun o q => ?_⟩
      rw [msk_not]
      · exact q
      · intro m
        rcases m with m | ⟨k, f, p1, p2⟩
        · exact q3 m
        · rcases get_set p1 with ⟨_, z, _⟩ | ⟨z1, z2⟩
          · cases z
          · exact z1 (R.inj k j f _ a z2 hd p2 q1)
    · obtain ⟨v, q1, q2⟩ := R.val j e h2
      exact ⟨v, q1, q2.mono ee⟩
  · exact ⟨R, Evl.Ex.refl _⟩
end

/-! ### targets -/
abbrev SB := D → Rho → Option Rho
/-- the slots js change -/
def SetIn (js : List Nat) (σ σ' : L2.St) : Prop := σ'.length = σ.length ∧ ∀ i, i ∉ js → σ'[i]? = σ[i]?
def EvB (K : PySem.W.Frag) (g : TG) (b : SB) (js : List Nat) : Prop := ∀ M H0 σ H ρ v d ρ' (Q : L2.St → Hp → Prop), Rp K M H0 σ H ρ → Dq K (msk (mM M ρ σ) H) v d → b d ρ = some ρ' →
  (∀ σ', Rp K M H0 σ' H ρ' → (∀ a, mM M ρ' σ' a ↔ mM M ρ σ a) → SetIn js σ σ' → Q σ' H) → g v σ H Q
structure DG (X : Cx) (tg : Expr) (g : TG) (b : SB) (js : List Nat) : Prop where
  pg : PG X tg g
  ev : EvB X.K g b js
def bName (i : Nat) : SB := fun d ρ => if isOwn ρ i = true then none else some (ρ.set i (some (.val d)))
theorem evb_name {K : PySem.W.Frag} {i : Nat} : EvB K (gName i) (bName i) [i] := fun M H0 σ H ρ v d ρ' Q R hd hb q => by
  unfold bName at hb
  split at hb
  · cases hb
  · rename_i hi
    cases hb
    have hi' : isOwn ρ i = false := by simpa using hi
    exact q _ (R.set i hd) (fun a => set_mM R i hi' a) ⟨by simp, fun j hj => set_ne (by simpa using hj)⟩
def bNames : List Nat → List D → Rho → Option Rho
  | [], [], ρ => some ρ
  | i :: is, d :: ds, ρ => (bName i d ρ).bind fun ρ1 => bNames is ds ρ1
  | _, _, _ => none
def bTup (is : List Nat) : SB := fun d ρ => match d with
  | .tuple ds => if ds.length = is.length then bNames is ds ρ else none
  | _ => none
def EvBs (K : PySem.W.Frag) (g : TGs) (is : List Nat) : Prop := ∀ M H0 σ H ρ vs ds ρ' (Q : L2.St → Hp → Prop), Rp K M H0 σ H ρ → DqA K (msk (mM M ρ σ) H) vs ds → bNames is ds ρ = some ρ' →
  (∀ σ', Rp K M H0 σ' H ρ' → (∀ a, mM M ρ' σ' a ↔ mM M ρ σ a) → SetIn is σ σ' → Q σ' H) → g vs σ H Q
structure DGs (X : Cx) (tgs : List Expr) (g : TGs) (is : List Nat) : Prop where
  pg : PGs X tgs g
  ev : EvBs X.K g is
theorem ex_iff {m m' : Addr → Prop} {H : Hp} (h : ∀ a, m' a ↔ m a) : Ex (msk m H) (msk m' H) := ex_sub (Evl.Ex.refl _) fun a => (h a).mp
theorem ex_iff' {m m' : Addr → Prop} {H : Hp} (h : ∀ a, m' a ↔ m a) : Ex (msk m' H) (msk m H) := ex_sub (Evl.Ex.refl _) fun a => (h a).mpr
section
variable {X : Cx} {pos : Pos}
theorem dg_name (i : Nat) {x : Str} (hN : X.N.Nodup) (hi : X.N[i]? = some x := by rfl) (hx : Loc X.env.scope x := by first | exact Or.inl rfl | exact Or.inr rfl) (hf : X.fn x = true ∨ X.env.scope.names.lookup x = some .local := by first | exact .inl rfl | exact .inr rfl | assumption) :
    DG X (.Name x pos) (gName i) (bName i) [i] := ⟨pg_name hN hi hx hf, evb_name⟩
theorem dgs_nil : DGs X [] gNil [] := ⟨pgs_nil, fun M H0 σ H ρ vs ds ρ' Q R hd hb q => by
  cases ds with
  | nil =>
    cases hd
    cases hb
    exact ⟨rfl, q σ R (fun _ => Iff.rfl) ⟨rfl, fun _ _ => rfl⟩⟩
  | cons d ds => cases hb⟩
theorem dgs_cons {x : Str} {es : List Expr} {u : TGs} {is : List Nat} (i : Nat) (h : DG X (.Name x pos) (gName i) (bName i) [i]) (hs : DGs X es u is) : DGs X (.Name x pos :: es) (gCons (gName i) u) (i :: is) := ⟨pgs_cons h.pg hs.pg, fun M H0 σ H ρ vs ds ρ' Q R hd hb q => by
  cases hd with
  | nil => cases hb
  | @cons v vs d ds h1 h2 =>
    obtain ⟨ρ1, q1, q2⟩ := Option.bind_eq_some_iff.mp hb
    refine ⟨v, vs, rfl, h.ev M H0 σ H ρ v d ρ1 _ R h1 q1 fun σ1 R1 m1 s1 => ?_⟩
    refine hs.ev M H0 σ1 H ρ1 vs ds ρ' _ R1 (h2.mono (ex_iff m1)) q2 fun σ2 R2 m2 s2 => ?_
    refine q σ2 R2 (fun a => (m2 a).trans (m1 a)) ⟨s2.1.trans s1.1, fun j hj => ?_⟩
    rw [List.mem_cons, not_or] at hj
    rw [s2.2 j hj.2, s1.2 j (by simpa using hj.1)]⟩
theorem dg_tup {es : List Expr} {k n : Nat} {t : TGs} {is : List Nat} (h : DGs X es t is) (hc : X.calm = true := by rfl) (hn : (assignEach es X.env).length = n := by rfl) (hst : (assignEach es X.env).findIdx? (·.1) = none := by rfl) (hl : is.length = n := by rfl) {K : PySem.W.Frag} (hK : X.K = K := by rfl) : DG X (.Tuple es k pos) (gTup K n t) (bTup is) is := by
  subst hK
  exact ⟨pg_tup hc h.pg hn hst, fun M H0 σ H ρ v d ρ' Q R hd hb q => by
  unfold bTup at hb
  split at hb
  · rename_i ds
    split at hb
    · rename_i c
      cases hd with
      | tup h1 h2 =>
        exact ⟨_, _, rfl, un_t h1, by rw [h2.length, c, hl], h.ev M H0 σ H ρ _ ds ρ' Q R h2 hb q⟩
    · cases hb
  · cases hb⟩
end

/-! ### what is walked -/
structure SrcOk (K : PySem.W.Frag) (B : Hp) (J : It) (ds : List D) : Prop where
  go : ∀ i H, Ex B H → i < ds.length → J.go i H
  stop : ∀ H, Ex B H → J.stop ds.length H
  yld : ∀ (i : Nat) H x H', Ex B H → i < ds.length → J.yld i H x H' → Ex H H' ∧ ∀ (m : Addr → Prop), Ex B (msk m H) → (∀ a, m a → H a ≠ none) → ∃ d, ds[i]? = some d ∧ Dq K (msk m H') x d
abbrev SI := Rho → Option (List D)
def EvI (K : PySem.W.Frag) (wi : TI) (f : SI) : Prop := ∀ M H0 σ H ρ ds (R : It → Hp → Prop), Rp K M H0 σ H ρ → f ρ = some ds → (∀ J H', Ex H H' → SrcOk K (msk (mM M ρ σ) H') J ds → R J H') → wi σ H R
structure DI (X : Cx) (tg iter : Expr) (wi : TI) (f : SI) : Prop where
  pi : PI X tg iter wi
  ev : EvI X.K wi f
def iSeqT (K : PySem.W.Frag) (tl : TE) : TI := fun σ H R => tl σ H fun x H1 => ∃ a, x = .ref a ∧ (((∃ xs, SqL K H1 a xs) ∧ R (Itl K a) H1) ∨ ((∃ xs, SqT K H1 a xs) ∧ R (Itt K a) H1))
theorem pi_seq {X : Cx} {tg l : Expr} {tl : TE} (hl : PE X l tl) : PI X tg l (iSeqT X.K tl) := by
  refine ⟨fun pins s σ H R I h => ?_⟩
  refine thn (hl.run pins s σ H _ I h) fun v s1 ⟨x, H1, I1, r1, q1⟩ => ?_
  obtain ⟨a, e, q1⟩ := q1
  subst e
  cases r1
  rcases q1 with ⟨⟨xs, hq⟩, q⟩ | ⟨⟨xs, hq⟩, q⟩
  · obtain ⟨its, rv, p, hz⟩ := I1.list hq
    refine wpAny_pyIter_list p.isList ?_
    refine ⟨s1.heap.objs.size, [s1.heap.objs.size], _, _, H1, rfl, I1.kept (t' := s1.toks) fun b o e => Heap.get?_push_of_some _ e, turn_list a _, ⟨_, Heap.get?_push_size _ rfl, rfl, rfl⟩, fun b hb => ?_, q⟩
    have e : b = s1.heap.objs.size := by simpa using hb
    subst e
    exact I1.fpOk (Nat.le_refl _) (I1.hok.fresh (Nat.le_refl _))
  · obtain ⟨its, rv, p, hz⟩ := I1.tuple hq
    refine wpAny_pyIter_tuple (show s1.heap.IsTuple a its.toArray from p) ?_
    refine ⟨s1.heap.objs.size, [s1.heap.objs.size], _, _, H1, rfl, I1.kept (t' := s1.toks) fun b o e => Heap.get?_push_of_some _ e, turn_tuple a _, ⟨_, Heap.get?_push_size _ rfl, rfl, rfl⟩, fun b hb => ?_, q⟩
    have e : b = s1.heap.objs.size := by simpa using hb
    subst e
    exact I1.fpOk (Nat.le_refl _) (I1.hok.fresh (Nat.le_refl _))
theorem src_list {K : PySem.W.Frag} {B : Hp} {a : Addr} {xs : List V} {ds : List D} (h : SqL K B a xs) (hd : DqA K B xs ds) : SrcOk K B (Itl K a) ds where
  go := fun i H e hi => by
    have q := Evl.ex_l e h
    have hl := hd.length
    exact ⟨xs, xs[i]'(by omega), q, by simp⟩
  stop := fun H e => ⟨xs, Evl.ex_l e h, by rw [hd.length]; exact Nat.le_refl _⟩
  yld := fun i H x H' e hi y => by
    obtain ⟨rfl, y⟩ := y
    refine ⟨Evl.Ex.refl _, fun m em _ => ?_⟩
    obtain ⟨d, h1, h2⟩ := hd.getV (y xs (Evl.ex_l e h))
    exact ⟨d, h1, h2.mono em⟩
theorem src_tup {K : PySem.W.Frag} {B : Hp} {a : Addr} {xs : List V} {ds : List D} (h : SqT K B a xs) (hd : DqA K B xs ds) : SrcOk K B (Itt K a) ds where
  go := fun i H e hi => by
    have q := Evl.ex_t e h
    have hl := hd.length
    exact ⟨xs, xs[i]'(by omega), q, by simp⟩
  stop := fun H e => ⟨xs, Evl.ex_t e h, by rw [hd.length]; exact Nat.le_refl _⟩
  yld := fun i H x H' e hi y => by
    obtain ⟨rfl, y⟩ := y
    refine ⟨Evl.Ex.refl _, fun m em _ => ?_⟩
    obtain ⟨d, h1, h2⟩ := hd.getV (y xs (Evl.ex_t e h))
    exact ⟨d, h1, h2.mono em⟩
def iSeq (fa : SE) : SI := fun ρ => (fa ρ).bind fun r => r.stab.bind fun d => match d with
  | .list ds => some ds
  | .tuple ds => some ds
  | _ => none
section
variable {X : Cx} {pos : Pos} {tg e a b : Expr} {te ta tb : TE} {fe fa fb : SE}
theorem di_seq (h : DE X e te fe) {K : PySem.W.Frag} (hK : X.K = K := by rfl) : DI X tg e (iSeqT K te) (iSeq fe) := by
  subst hK
  exact ⟨pi_seq h.pe, fun M H0 σ H ρ ds Rr R hf q => by
  unfold iSeq at hf
  obtain ⟨r, h1, hf⟩ := Option.bind_eq_some_iff.mp hf
  obtain ⟨d, h2, hf⟩ := Option.bind_eq_some_iff.mp hf
  refine h.ev M H0 σ H ρ r _ R h1 fun v H1 e1 o1 => ?_
  have st := o1.stable R.dom h2
  split at hf
  · cases hf
    cases st with
    | lst q1 q2 => exact ⟨_, rfl, .inl ⟨⟨_, rd_l (Evl.ex_rd (ex_un (Evl.Ex.refl _)) q1)⟩, q _ _ e1 (src_list (rd_l q1) q2)⟩⟩
  · cases hf
    cases st with
    | tup q1 q2 => exact ⟨_, rfl, .inr ⟨⟨_, un_t q1⟩, q _ _ e1 (src_tup q1 q2)⟩⟩
  · cases hf⟩
def rgD (lo : Int) (n : Nat) : List D := (List.range n).map fun (i : Nat) => PyData.int (lo + (i : Int))
theorem src_range {K : PySem.W.Frag} {B : Hp} {lo : Int} {n : Nat} : SrcOk K B (Itr lo n) (rgD lo n) where
  go := fun i H e hi => by
    have q : i < n := by simpa [rgD] using hi
    exact q
  stop := fun H e => by simp [rgD, Itr]
  yld := fun i H x H' e hi y => by
    obtain ⟨rfl, rfl⟩ := y
    have hi' : i < n := by simpa [rgD] using hi
    exact ⟨Evl.Ex.refl _, fun m em _ => ⟨.int (lo + i), by simp [rgD, hi'], .int _⟩⟩
noncomputable def iRg1 (fa : SE) : SI := fun ρ => (fa ρ).bind fun r => match r.d with
  | .int n => if i62 n = true then some (rgD 0 n.toNat) else none
  | _ => none
noncomputable def iRg2 (fa fb : SE) : SI := fun ρ => (fa ρ).bind fun r => (fb ρ).bind fun u => match r.d, u.d with
  | .int i, .int j => if (i62 i && i62 j) = true then some (rgD i (j - i).toNat) else none
  | _, _ => none
theorem di_rg1 {p : Pos} (hm : X.mg "range" = none) (h : DE X a ta fa) (hg : Gl X "range" := by rfl) (hs : starEach [a] X.env = [(false, eval a X.env)] := by rfl) : DI X tg (.Call (.Name "range" p) [a] [] pos) (iRng1 (tCons ta tNil)) (iRg1 fa) :=
  ⟨pi_range1 hg hm (pa_cons h.pe pa_nil hs) hs, fun M H0 σ H ρ ds Rr R hf q => by
    unfold iRg1 at hf
    obtain ⟨r, h1, hf⟩ := Option.bind_eq_some_iff.mp hf
    refine h.ev M H0 σ H ρ r _ R h1 fun v H1 e1 o1 => ?_
    split at hf
    · rename_i n en
      rw [o1.is_int en]
      split at hf
      · rename_i c
        replace c := (i62_iff _).mp c
        cases hf
        exact ⟨n, rfl, c.1, c.2, q _ _ e1 src_range⟩
      · cases hf
    · cases hf⟩
theorem di_rg2 {p : Pos} (hm : X.mg "range" = none) (h : DE X a ta fa) (k : DE X b tb fb) (hg : Gl X "range" := by rfl) (hs : starEach [a, b] X.env = [(false, eval a X.env), (false, eval b X.env)] := by rfl) (hs2 : starEach [b] X.env = [(false, eval b X.env)] := by rfl) :
    DI X tg (.Call (.Name "range" p) [a, b] [] pos) (iRng2 (tCons ta (tCons tb tNil))) (iRg2 fa fb) :=
  ⟨pi_range2 hg hm (pa_cons h.pe (pa_cons k.pe pa_nil hs2) (by rw [hs, hs2])) hs hs2, fun M H0 σ H ρ ds Rr R hf q => by
    unfold iRg2 at hf
    obtain ⟨r, h1, hf⟩ := Option.bind_eq_some_iff.mp hf
    obtain ⟨u, h2, hf⟩ := Option.bind_eq_some_iff.mp hf
    refine h.ev M H0 σ H ρ r _ R h1 fun v H1 e1 o1 => ?_
    refine k.ev M H0 σ H1 ρ u _ (R.mono e1) h2 fun v2 H2 e2 o2 => ?_
    split at hf
    · rename_i i j en en2
      rw [o1.is_int en, o2.is_int en2]
      split at hf
      · rename_i c
        rw [Bool.and_eq_true, i62_iff, i62_iff, and_assoc] at c
        cases hf
        exact ⟨i, j, rfl, c, q _ _ (e1.trans e2) src_range⟩
      · cases hf
    · cases hf⟩
end
end DL

/-! text DL5 -/
set_option Elab.async false
set_option linter.all false
set_option maxRecDepth 100000
set_option maxHeartbeats 4000000
set_option autoImplicit false
namespace DL
open PySem L2 SX C8
open PyProof.Rows (envOfC)
/-! ### comprehensions -/
def wipeL (ρ : Rho) : List Nat → Rho
  | [] => ρ
  | v :: vs => (wipeL ρ vs).set v none
def wipeR (ρ : Rho) (vs : List Nat) : Option Rho := if vs.all (fun i => !isOwn ρ i) = true then some (wipeL ρ vs) else none
theorem wipeL_len (ρ : Rho) : ∀ vs : List Nat, (wipeL ρ vs).length = ρ.length
  | [] => rfl
  | v :: vs => by unfold wipeL; rw [List.length_set, wipeL_len ρ vs]
theorem wipeL_get {ρ : Rho} {j : Nat} {e : Ent} : ∀ {vs : List Nat}, (wipeL ρ vs)[j]? = some (some e) → ρ[j]? = some (some e) ∧ j ∉ vs
  | [], h => ⟨h, by simp⟩
  | v :: vs, h => by
    unfold wipeL at h
    rcases get_set h with ⟨_, z, _⟩ | ⟨z1, z2⟩
    · cases z
    · obtain ⟨h1, h2⟩ := wipeL_get z2
      exact ⟨h1, by simp [z1, h2]⟩
theorem wipeL_own {ρ : Rho} {j : Nat} {d : D} : ∀ {vs : List Nat}, ρ[j]? = some (some (Ent.own d)) → (vs.all fun i => !isOwn ρ i) = true → (wipeL ρ vs)[j]? = some (some (Ent.own d)) ∧ j ∉ vs
  | [], h, _ => ⟨h, by simp⟩
  | v :: vs, h, ha => by
    rw [List.all_cons, Bool.and_eq_true] at ha
    obtain ⟨h1, h2⟩ := wipeL_own (vs := vs) h ha.2
    have ne : j ≠ v := fun e => by
      subst e
      have := ha.1
      unfold isOwn at this
      rw [h] at this
      cases this
    unfold wipeL
    exact ⟨by rw [set_ne ne]; exact h1, by simp [ne, h2]⟩
theorem wipe_ne {σ : L2.St} {j : Nat} : ∀ {vs : List Nat}, j ∉ vs → (wipe σ vs)[j]? = σ[j]?
  | [], _ => rfl
  | v :: vs, h => by
    rw [List.mem_cons, not_or] at h
    unfold wipe
    rw [set_ne h.1, wipe_ne h.2]
theorem wipe_in {σ : L2.St} {j : Nat} : ∀ {vs : List Nat}, j ∈ vs → j < σ.length → (wipe σ vs)[j]? = some none
  | v :: vs, h, hl => by
    unfold wipe
    by_cases e : j = v
    · subst e
      rw [List.getElem?_set_self (by rw [wipe_length]; exact hl)]
    · rw [set_ne e]
      exact wipe_in (by simpa [e] using h) hl
theorem wipe_setIn {σ σ' : L2.St} {js vs : List Nat} (h : SetIn js (wipe σ vs) σ') (hj : ∀ j ∈ js, j ∈ vs) : wipe σ' vs = wipe σ vs := by
  have hl : σ'.length = σ.length := by rw [h.1, wipe_length]
  apply List.ext_getElem?
  intro i
  by_cases hi : i < σ.length
  · by_cases hv : i ∈ vs
    · rw [wipe_in hv (by rw [hl]; exact hi), wipe_in hv hi]
    · rw [wipe_ne hv, h.2 i fun q => hv (hj i q), wipe_ne hv]
  · rw [List.getElem?_eq_none (by rw [wipe_length]; omega), List.getElem?_eq_none (by rw [wipe_length]; omega)]
section
variable {K : PySem.W.Frag} {M : Addr → Prop} {H0 H H' : Hp} {σ σ' : L2.St} {ρ ρ' : Rho}
theorem Rp.wipe (R : Rp K M H0 σ H ρ) {vs : List Nat} (h : wipeR ρ vs = some ρ') : Rp K M H0 (wipe σ vs) H ρ' ∧ ∀ a, mM M ρ' (wipe σ vs) a ↔ mM M ρ σ a := by
  unfold wipeR at h
  split at h
  · rename_i hw
    cases h
    have ho : ∀ (j : Nat) (e : D), (wipeL ρ vs)[j]? = some (some (Ent.own e)) → ρ[j]? = some (some (Ent.own e)) ∧ (L2.wipe σ vs)[j]? = σ[j]? := fun j e h => ⟨(wipeL_get h).1, wipe_ne (wipeL_get h).2⟩
    have hm : ∀ a, mM M (wipeL ρ vs) (L2.wipe σ vs) a ↔ mM M ρ σ a := fun a => by
      refine ⟨mM_sub ho a, fun m => ?_⟩
      rcases m with m | ⟨j, e, h1, h2⟩
      · exact .inl m
      · obtain ⟨q1, q2⟩ := wipeL_own h1 hw
        exact .inr ⟨j, e, q1, by rw [wipe_ne q2]; exact h2⟩
    refine ⟨R.shrink (by rw [wipe_length, wipeL_len]; exact R.len) ho fun j d h => ?_, hm⟩
    obtain ⟨h1, h2⟩ := wipeL_get h
    obtain ⟨v, q1, q2⟩ := R.val j d h1
    exact ⟨v, by rw [wipe_ne h2]; exact q1, q2.mono (ex_iff hm)⟩
  · cases h
def lcGo (b : SB) (fc : ST) (fe : SE) (ρ : Rho) : List D → Option (List D)
  | [] => some []
  | d :: ds => (b d ρ).bind fun ρ1 => (fc ρ1).bind fun k => if k = true then (fe ρ1).bind fun r => r.stab.bind fun y => (lcGo b fc fe ρ ds).bind fun ys => some (y :: ys) else lcGo b fc fe ρ ds
noncomputable def eLc (fi : SI) (vs : List Nat) (b : SB) (fc : ST) (fe : SE) : SE := fun ρ => (fi ρ).bind fun ds => if szb ds.length = true then (wipeR ρ vs).bind fun ρ1 => (lcGo b fc fe ρ1 ds).bind fun out => some (.fr (.list out)) else none
def bYes : ST := fun _ => some true
theorem evt_yes : EvT K tYes bYes := fun M H0 σ H ρ b Q R hf q => by
  cases hf
  exact q H (Evl.Ex.refl H)
theorem ev_lc {wi : TI} {g : TG} {tt : TT} {te : TE} {fi : SI} {vs js : List Nat} {b : SB} {fc : ST} {fe : SE} (hi : EvI K wi fi) (hg : EvB K g b js) (ht : EvT K tt fc) (he : EvD K te fe) (hj : ∀ j ∈ js, j ∈ vs) :
    EvD K (tLc wi g tt te vs) (eLc fi vs b fc fe) := fun M H0 σ H ρ rz Q R hf q => by
  unfold eLc at hf
  obtain ⟨ds, h1, hf⟩ := Option.bind_eq_some_iff.mp hf
  split at hf
  · rename_i hsz
    replace hsz := (szb_iff _).mp hsz
    obtain ⟨ρ1, h2, hf⟩ := Option.bind_eq_some_iff.mp hf
    obtain ⟨out, h3, hf⟩ := Option.bind_eq_some_iff.mp hf
    cases hf
    refine hi M H0 σ H ρ ds _ R h1 fun J H1 e1 so Dl hD => ?_
    have R1 := R.mono e1
    obtain ⟨R2, m2⟩ := R1.wipe h2
    have e0 : Ex H1 (upd H1 Dl (.lst [])) := Evl.Ex.new hD
    refine ⟨fun i m H' => m = ds.length - i ∧ i ≤ ds.length ∧ Ex H1 H' ∧ ∃ acc done rest, H' Dl = some (.lst acc) ∧ DqA K (msk (fun c => mM M ρ σ c ∨ c = Dl) H') acc done ∧ acc.length ≤ i ∧ lcGo b fc fe ρ1 (ds.drop i) = some rest ∧ done ++ rest = out,
      ⟨ds.length, by simp, by omega, e0, [], [], out, upd_same, .nil, Nat.le_refl _, h3, rfl⟩, fun i m H' hW => ?_⟩
    obtain ⟨rfl, hi', eH, acc, done, rest, hl, hacc, hlen, hgo, hout⟩ := hW
    have eB : Ex (msk (mM M ρ σ) H1) H' := ex_un eH
    by_cases hlt : i < ds.length
    · refine .inr ⟨so.go i H' eB hlt, fun H'' => ∃ m', m' < ds.length - i ∧ m' = ds.length - (i + 1) ∧ i + 1 ≤ ds.length ∧ Ex H1 H'' ∧ ∃ acc done rest, H'' Dl = some (.lst acc) ∧ DqA K (msk (fun c => mM M ρ σ c ∨ c = Dl) H'') acc done ∧ acc.length ≤ i + 1 ∧ lcGo b fc fe ρ1 (ds.drop (i + 1)) = some rest ∧ done ++ rest = out, fun H'' h => by
        obtain ⟨m', hm, r⟩ := h
        exact ⟨m', hm, r⟩, fun x H2 hy => ?_⟩
      obtain ⟨e2, hy⟩ := so.yld i H' x H2 eB hlt hy
      have hD2 : H2 Dl ≠ none := by rw [e2 _ _ hl]; simp
      have RM := R2.mask hD (eH.trans e2) hD2
      have mm : ∀ c, mM (fun c => M c ∨ c = Dl) ρ1 (L2.wipe σ vs) c ↔ mM M ρ σ c ∨ c = Dl := fun c => by
        rw [mM_more, m2]
      obtain ⟨d, hd1, hd2⟩ := hy (fun c => mM M ρ σ c ∨ c = Dl) (ex_of fun a o m h => ⟨fun z => by
        rcases z with z | z
        · exact m z
        · (rw [z, hD] at h; cases h), eH a o h⟩) (fun a z => by
        rcases z with z | z
        · exact fun q => R1.dom a z (Evl.fresh_back eH q)
        · rw [z, hl]; simp)
      have hdr : ds.drop i = d :: ds.drop (i + 1) := by
        obtain ⟨hh, he⟩ := List.getElem?_eq_some_iff.mp hd1
        rw [← he]
        exact List.drop_eq_getElem_cons hh
      rw [hdr] at hgo
      unfold lcGo at hgo
      obtain ⟨ρ2, g1, hgo⟩ := Option.bind_eq_some_iff.mp hgo
      obtain ⟨k, g2, hgo⟩ := Option.bind_eq_some_iff.mp hgo
      refine hg _ H0 _ H2 ρ1 x d ρ2 _ RM (hd2.mono (ex_iff mm)) g1 fun σ2 R3 m3 s3 => ⟨wipe_setIn s3 hj, ?_⟩
      have mm3 : ∀ c, mM (fun c => M c ∨ c = Dl) ρ2 σ2 c ↔ mM M ρ σ c ∨ c = Dl := fun c => (m3 c).trans (mm c)
      refine ht _ H0 σ2 H2 ρ2 k _ R3 g2 fun H3 e3 => ?_
      cases k with
      | true =>
        rw [if_pos rfl] at hgo ⊢
        obtain ⟨r, g3, hgo⟩ := Option.bind_eq_some_iff.mp hgo
        obtain ⟨y, g4, hgo⟩ := Option.bind_eq_some_iff.mp hgo
        obtain ⟨ys, g5, hgo⟩ := Option.bind_eq_some_iff.mp hgo
        cases hgo
        refine he _ H0 σ2 H3 ρ2 r _ (R3.mono e3) g3 fun v H4 e4 o4 => ?_
        have st := (o4.stable (R3.mono e3).dom g4).mono (ex_iff fun c => (mm3 c).symm)
        have e14 : Ex H1 H4 := ((eH.trans e2).trans e3).trans e4
        have hl4 : H4 Dl = some (.lst acc) := e4 _ _ (e3 _ _ (e2 _ _ hl))
        have e45 : Ex (msk (fun c => mM M ρ σ c ∨ c = Dl) H4) (msk (fun c => mM M ρ σ c ∨ c = Dl) (upd H4 Dl (.lst (acc ++ [v])))) := ex_of fun a o m h => ⟨m, by
          rw [upd_ne fun z => m (.inr z)]
          exact h⟩
        have ea : Ex (msk (fun c => mM M ρ σ c ∨ c = Dl) H') (msk (fun c => mM M ρ σ c ∨ c = Dl) H4) := ex_msk ((e2.trans e3).trans e4)
        refine ⟨acc, hl4, by omega, _, ?_, rfl, hlt, Evl.Ex.mut e14 hD, acc ++ [v], done ++ [y], ys, upd_same, DqA.append (hacc.mono (ea.trans e45)) (.cons (st.mono e45) .nil), by simp; omega, g5, by rw [List.append_assoc]; exact hout⟩
        omega
      | false =>
        rw [if_neg Bool.false_ne_true] at hgo ⊢
        refine ⟨_, ?_, rfl, hlt, ((eH.trans e2).trans e3), acc, done, rest, e3 _ _ (e2 _ _ hl), hacc.mono (ex_msk (e2.trans e3)), by omega, hgo, hout⟩
        omega
    · have ei : i = ds.length := by omega
      subst ei
      rw [List.drop_length] at hgo
      cases hgo
      rw [List.append_nil] at hout
      subst hout
      exact .inl ⟨so.stop H' eB, q _ H' (e1.trans eH) ⟨Dl, rfl, Evl.fresh_back e1 hD, acc, hl, hacc⟩⟩
  · cases hf
end
structure DTs (X : Cx) (ifs : List Expr) (t : TT) (f : ST) : Prop where
  pts : PTs X ifs t
  ev : EvT X.K t f
section
variable {X : Cx} {pos : Pos} {tg elt iter c : Expr} {tt : TT} {fc : ST}
theorem dts_nil : DTs X [] tYes bYes := ⟨pts_nil, evt_yes⟩
theorem dts_one (h : DT X c tt fc) : DTs X [c] tt fc := ⟨pts_one h.pt, h.ev⟩
theorem de_lc {ifs : List Expr} {scope : Scope} (own : List (Str × Nat)) {wi : TI} {g : TG} {te : TE} {fi : SI} {js : List Nat} {b : SB} {fe : SE} (hN : X.N.Nodup) (hi : DI X tg iter wi fi)
    (hg : ∀ (s : Shared) (H : Hp) (C : Addr) (cl : List (Str × Addr)) (fp : List Addr), DG (X.blk s H scope (compEnvC scope cl C X.env) fp) tg g b js) (ht : ∀ (s : Shared) (H : Hp) (C : Addr) (cl : List (Str × Addr)) (fp : List Addr), DTs (X.blk s H scope (compEnvC scope cl C X.env) fp) ifs tt fc)
    (he : ∀ (s : Shared) (H : Hp) (C : Addr) (cl : List (Str × Addr)) (fp : List Addr), DE (X.blk s H scope (compEnvC scope cl C X.env) fp) elt te fe) (ok : blkC X.N X.env.scope scope own = true := by kernel_rfl) (hj : ∀ j ∈ js, j ∈ own.map (·.2) := by decide) (hc : X.calm = true := by rfl)
    (hs : ∀ x, foldedSetIterable iter X.env x = pure x := by intro _; rfl) {vs : List Nat} (hvs : own.map (·.2) = vs := by rfl) : DE X (.ListComp elt [⟨tg, iter, ifs, 0⟩] scope pos) (tLc wi g tt te (own.map (·.2))) (eLc fi vs b fc fe) := by
  subst hvs
  exact ⟨pe_lc hc hN hi.pi (blkOk_by ok) (fun s H C cl fp => (hg s H C cl fp).pg) (fun s H C cl fp => (ht s H C cl fp).pts) (fun s H C cl fp => (he s H C cl fp).pe) hs,
    ev_lc hi.ev (hg X.s_0 X.H_0 0 [] []).ev (ht X.s_0 X.H_0 0 [] []).ev (he X.s_0 X.H_0 0 [] []).ev hj⟩
end

/-! ### statements -/
inductive Out where
  | nx (ρ : Rho)
  | rt (d : D)
  | bk (ρ : Rho)
  | ct (ρ : Rho)
  | ex (n : Nat)
abbrev SS := Rho → Option Out
/-- what is wanted of an end -/
def PostS (K : PySem.W.Frag) (W : WX) (cv : Nat → Value) (M : Addr → Prop) (H0 : Hp) (H : Hp) (m : Addr → Prop) (E : Ends) : Out → Prop
  | .nx ρ' => ∀ σ' H', Rp K M H0 σ' H' ρ' → Ex (msk m H) (msk (mM M ρ' σ') H') → E.nx σ' H'
  | .rt d => ∀ v H', Ex H0 H' → Dq K (msk M H') v d → E.rt v H'
  | .bk ρ' => ∀ σ' H', Rp K M H0 σ' H' ρ' → Ex (msk m H) (msk (mM M ρ' σ') H') → E.bk σ' H'
  | .ct ρ' => ∀ σ' H', Rp K M H0 σ' H' ρ' → Ex (msk m H) (msk (mM M ρ' σ') H') → E.ct σ' H'
  | .ex n => ∀ σ' H', Ex H0 H' → W (cv n) none σ' H'
def EvS (K : PySem.W.Frag) (W : WX) (cv : Nat → Value) (t : TS) (f : SS) : Prop := ∀ M H0 σ H ρ o (E : Ends), Rp K M H0 σ H ρ → f ρ = some o → PostS K W cv M H0 H (mM M ρ σ) E o → t E σ H
structure DS (X : Cx) (W : WX) (cv : Nat → Value) (st : Stmt) (t : TS) (f : SS) : Prop where
  ps : PS X st t
  ev : EvS X.K W cv t f
structure DSs (X : Cx) (W : WX) (cv : Nat → Value) (st : List Stmt) (t : TS) (f : SS) : Prop where
  ps : PSs X st t
  ev : EvS X.K W cv t f
def sNext : SS := fun ρ => some (.nx ρ)
def sBreak : SS := fun ρ => some (.bk ρ)
def sCont : SS := fun ρ => some (.ct ρ)
def sSeq (f g : SS) : SS := fun ρ => (f ρ).bind fun o => match o with
  | .nx ρ' => g ρ'
  | o => some o
def sIf (c : ST) (f g : SS) : SS := fun ρ => (c ρ).bind fun k => if k = true then f ρ else g ρ
def sAsg (i : Nat) (f : SE) : SS := fun ρ => (f ρ).bind fun r => r.stab.bind fun d => some (.nx (ρ.set i (some (.val d))))
def sOwn (i : Nat) (f : SE) : SS := fun ρ => (f ρ).bind fun r => match r with
  | .fr d => if i < ρ.length then some (.nx (ρ.set i (some (.own d)))) else none
  | _ => none
def sAsgT (is : List Nat) (f : SE) : SS := fun ρ => (f ρ).bind fun r => r.stab.bind fun d => (bTup is d ρ).bind fun ρ' => some (.nx ρ')
def sRet (f : SE) : SS := fun ρ => (f ρ).bind fun r => some (.rt r.d)
def sRetN : SS := fun _ => some (.rt .none)
def sFrz (i : Nat) (f : SS) : SS := fun ρ => f (frz i ρ)
def sDrop (f : SE) : SS := fun ρ => (f ρ).bind fun _ => some (.nx ρ)
theorem post_mono {K : PySem.W.Frag} {W : WX} {cv : Nat → Value} {M : Addr → Prop} {H0 H H1 : Hp} {m m1 : Addr → Prop} {E : Ends} {o : Out} (e : Ex (msk m H) (msk m1 H1)) (p : PostS K W cv M H0 H m E o) : PostS K W cv M H0 H1 m1 E o := by
  cases o with
  | nx ρ' => exact fun σ' H' R x => p σ' H' R (e.trans x)
  | rt d => exact p
  | bk ρ' => exact fun σ' H' R x => p σ' H' R (e.trans x)
  | ct ρ' => exact fun σ' H' R x => p σ' H' R (e.trans x)
  | ex n => exact p
section
variable {X : Cx} {W : WX} {cv : Nat → Value} {pos : Pos} {e : Expr} {te : TE} {fe : SE} {st : Stmt} {rest : List Stmt} {t u : TS} {f g : SS}
theorem dss_nil : DSs X W cv [] tNext sNext := ⟨pss_nil, fun M H0 σ H ρ o E R hf p => by
  cases hf
  exact p σ H R (Evl.Ex.refl _)⟩
theorem dss_one (h : DS X W cv st t f) : DSs X W cv [st] t f := ⟨pss_one h.ps, h.ev⟩
theorem ev_seq {K : PySem.W.Frag} (h : EvS K W cv t f) (k : EvS K W cv u g) : EvS K W cv (tSeq t u) (sSeq f g) := fun M H0 σ H ρ o E R hf p => by
  unfold sSeq at hf
  obtain ⟨o1, h1, hf⟩ := Option.bind_eq_some_iff.mp hf
  refine h M H0 σ H ρ o1 _ R h1 ?_
  cases o1 with
  | nx ρ' => exact fun σ' H' R' x => k M H0 σ' H' ρ' o E R' hf (post_mono x p)
  | rt d =>
    cases hf
    exact p
  | bk ρ' =>
    cases hf
    exact p
  | ct ρ' =>
    cases hf
    exact p
  | ex n =>
    cases hf
    exact p
theorem dss_cons (h : DS X W cv st t f) (k : DSs X W cv rest u g) : DSs X W cv (st :: rest) (tSeq t u) (sSeq f g) := ⟨pss_cons h.ps k.ps, ev_seq h.ev k.ev⟩
theorem ds_pass : DS X W cv (.Pass pos) tNext sNext := ⟨ps_pass, fun M H0 σ H ρ o E R hf p => by
  cases hf
  exact p σ H R (Evl.Ex.refl _)⟩
theorem ds_break : DS X W cv (.Break pos) tBreak sBreak := ⟨ps_break, fun M H0 σ H ρ o E R hf p => by
  cases hf
  exact p σ H R (Evl.Ex.refl _)⟩
theorem ds_cont : DS X W cv (.Continue pos) tCont sCont := ⟨ps_continue, fun M H0 σ H ρ o E R hf p => by
  cases hf
  exact p σ H R (Evl.Ex.refl _)⟩
theorem ds_if {c : Expr} {a b : List Stmt} {tc : TT} {fc : ST} (hc : DT X c tc fc) (ha : DSs X W cv a t f) (hb : DSs X W cv b u g) : DS X W cv (.If c a b pos) (tIfS tc t u) (sIf fc f g) := ⟨ps_if hc.pt ha.ps hb.ps, fun M H0 σ H ρ o E R hf p => by
  unfold sIf at hf
  obtain ⟨k, h1, hf⟩ := Option.bind_eq_some_iff.mp hf
  refine hc.ev M H0 σ H ρ k _ R h1 fun H1 e1 => ?_
  cases k with
  | true =>
    rw [if_pos rfl] at hf ⊢
    exact ha.ev M H0 σ H1 ρ o E (R.mono e1) hf (post_mono (ex_msk e1) p)
  | false =>
    rw [if_neg Bool.false_ne_true] at hf ⊢
    exact hb.ev M H0 σ H1 ρ o E (R.mono e1) hf (post_mono (ex_msk e1) p)⟩
theorem ev_asg {K : PySem.W.Frag} {i : Nat} (h : EvD K te fe) : EvS K W cv (tAsg te (gName i)) (sAsg i fe) := fun M H0 σ H ρ o E R hf p => by
  unfold sAsg at hf
  obtain ⟨r, h1, hf⟩ := Option.bind_eq_some_iff.mp hf
  obtain ⟨d, h2, hf⟩ := Option.bind_eq_some_iff.mp hf
  cases hf
  refine h M H0 σ H ρ r _ R h1 fun v H1 e1 o1 => ?_
  have st := o1.stable R.dom h2
  exact p _ H1 ((R.mono e1).set i st) ((ex_msk e1).trans (ex_sub (Evl.Ex.refl _) (mM_sub (set_own i v d))))
theorem ev_own {K : PySem.W.Frag} {i : Nat} (h : EvD K te fe) : EvS K W cv (tAsg te (gName i)) (sOwn i fe) := fun M H0 σ H ρ o E R hf p => by
  unfold sOwn at hf
  obtain ⟨r, h1, hf⟩ := Option.bind_eq_some_iff.mp hf
  split at hf
  · rename_i d
    split at hf
    · rename_i hi
      cases hf
      refine h M H0 σ H ρ _ _ R h1 fun v H1 e1 o1 => ?_
      obtain ⟨a, rfl, ha, oo⟩ := o1
      obtain ⟨R1, x⟩ := R.setOwn e1 i hi ha oo
      exact p _ H1 R1 x
    · cases hf
  · cases hf
theorem ds_asg (i : Nat) {x : Str} {pos' : Pos} (hN : X.N.Nodup) (h : DE X e te fe) (hi : X.N[i]? = some x := by rfl) (hx : Loc X.env.scope x := by first | exact Or.inl rfl | exact Or.inr rfl) (hs : swapsWith e (some (.Name x pos')) pos.line X.env = pure false := by rfl) (hf : X.fn x = true ∨ X.env.scope.names.lookup x = some .local := by first | exact .inl rfl | exact .inr rfl | assumption) :
    DS X W cv (.Assign [.Name x pos'] e pos) (tAsg te (gName i)) (sAsg i fe) := ⟨ps_set hN hi hx h.pe hs hf, ev_asg h.ev⟩
theorem ds_own (i : Nat) {x : Str} {pos' : Pos} (hN : X.N.Nodup) (h : DE X e te fe) (hi : X.N[i]? = some x := by rfl) (hx : Loc X.env.scope x := by first | exact Or.inl rfl | exact Or.inr rfl) (hs : swapsWith e (some (.Name x pos')) pos.line X.env = pure false := by rfl) (hf : X.fn x = true ∨ X.env.scope.names.lookup x = some .local := by first | exact .inl rfl | exact .inr rfl | assumption) :
    DS X W cv (.Assign [.Name x pos'] e pos) (tAsg te (gName i)) (sOwn i fe) := ⟨ps_set hN hi hx h.pe hs hf, ev_own h.ev⟩
/-- name = [..], the name a local that no comprehension reads -/
theorem ps_asgLc (i : Nat) {y : Str} {py : Pos} {elt tg iter : Expr} {ifs : List Expr} {scope : Scope} (own : List (Str × Nat)) {spos : Pos} {wi : TI} {gt : TG} {tt : TT} {fc : ST} {fi : SI} {js : List Nat} {b : SB} (hN : X.N.Nodup) (hi : DI X tg iter wi fi)
    (hg : ∀ (s : Shared) (H : Hp) (C : Addr) (cl : List (Str × Addr)) (fp : List Addr), DG (X.blk s H scope (compEnvC scope cl C X.env) fp) tg gt b js) (ht : ∀ (s : Shared) (H : Hp) (C : Addr) (cl : List (Str × Addr)) (fp : List Addr), DTs (X.blk s H scope (compEnvC scope cl C X.env) fp) ifs tt fc)
    (he : ∀ (s : Shared) (H : Hp) (C : Addr) (cl : List (Str × Addr)) (fp : List Addr), DE (X.blk s H scope (compEnvC scope cl C X.env) fp) elt te fe) (hy : X.N[i]? = some y) (hyl : X.env.scope.names.lookup y = some .local)
    (hsw : swapsWith (.ListComp elt [⟨tg, iter, ifs, 0⟩] scope pos) (some (.Name y py)) spos.line X.env = pure true) (ok : blkC X.N X.env.scope scope own = true) (hj : ∀ j ∈ js, j ∈ own.map (·.2)) (hc : X.calm = true)
    (hs : ∀ x, foldedSetIterable iter X.env x = pure x) : PS X (.Assign [.Name y py] (.ListComp elt [⟨tg, iter, ifs, 0⟩] scope pos) spos) (tAsg (tLc wi gt tt te (own.map (·.2))) (gName i)) ∧ EvD X.K (tLc wi gt tt te (own.map (·.2))) (eLc fi (own.map (·.2)) b fc fe) :=
  ⟨ps_setLc hc hN hy hyl hsw hi.pi (blkOk_by ok) (fun s H C cl fp => (hg s H C cl fp).pg) (fun s H C cl fp => (ht s H C cl fp).pts) (fun s H C cl fp => (he s H C cl fp).pe) hs,
    ev_lc hi.ev (hg X.s_0 X.H_0 0 [] []).ev (ht X.s_0 X.H_0 0 [] []).ev (he X.s_0 X.H_0 0 [] []).ev hj⟩
theorem ds_asgLc (i : Nat) {y : Str} {py : Pos} {elt tg iter : Expr} {ifs : List Expr} {scope : Scope} (own : List (Str × Nat)) {spos : Pos} {wi : TI} {gt : TG} {tt : TT} {fc : ST} {fi : SI} {js : List Nat} {b : SB} (hN : X.N.Nodup) (hi : DI X tg iter wi fi)
    (hg : ∀ (s : Shared) (H : Hp) (C : Addr) (cl : List (Str × Addr)) (fp : List Addr), DG (X.blk s H scope (compEnvC scope cl C X.env) fp) tg gt b js) (ht : ∀ (s : Shared) (H : Hp) (C : Addr) (cl : List (Str × Addr)) (fp : List Addr), DTs (X.blk s H scope (compEnvC scope cl C X.env) fp) ifs tt fc)
    (he : ∀ (s : Shared) (H : Hp) (C : Addr) (cl : List (Str × Addr)) (fp : List Addr), DE (X.blk s H scope (compEnvC scope cl C X.env) fp) elt te fe) (hy : X.N[i]? = some y := by rfl) (hyl : X.env.scope.names.lookup y = some .local := by rfl)
    (hsw : swapsWith (.ListComp elt [⟨tg, iter, ifs, 0⟩] scope pos) (some (.Name y py)) spos.line X.env = pure true := by exact sw_true rfl rfl rfl (by decide +kernel)) (ok : blkC X.N X.env.scope scope own = true := by kernel_rfl) (hj : ∀ j ∈ js, j ∈ own.map (·.2) := by decide) (hc : X.calm = true := by rfl)
    (hs : ∀ x, foldedSetIterable iter X.env x = pure x := by intro _; rfl) {vs : List Nat} (hvs : own.map (·.2) = vs := by rfl) : DS X W cv (.Assign [.Name y py] (.ListComp elt [⟨tg, iter, ifs, 0⟩] scope pos) spos) (tAsg (tLc wi gt tt te (own.map (·.2))) (gName i)) (sAsg i (eLc fi vs b fc fe)) := by
  subst hvs
  exact
  have h := ps_asgLc i own hN hi hg ht he hy hyl hsw ok hj hc hs
  ⟨h.1, ev_asg h.2⟩
theorem ds_ownLc (i : Nat) {y : Str} {py : Pos} {elt tg iter : Expr} {ifs : List Expr} {scope : Scope} (own : List (Str × Nat)) {spos : Pos} {wi : TI} {gt : TG} {tt : TT} {fc : ST} {fi : SI} {js : List Nat} {b : SB} (hN : X.N.Nodup) (hi : DI X tg iter wi fi)
    (hg : ∀ (s : Shared) (H : Hp) (C : Addr) (cl : List (Str × Addr)) (fp : List Addr), DG (X.blk s H scope (compEnvC scope cl C X.env) fp) tg gt b js) (ht : ∀ (s : Shared) (H : Hp) (C : Addr) (cl : List (Str × Addr)) (fp : List Addr), DTs (X.blk s H scope (compEnvC scope cl C X.env) fp) ifs tt fc)
    (he : ∀ (s : Shared) (H : Hp) (C : Addr) (cl : List (Str × Addr)) (fp : List Addr), DE (X.blk s H scope (compEnvC scope cl C X.env) fp) elt te fe) (hy : X.N[i]? = some y := by rfl) (hyl : X.env.scope.names.lookup y = some .local := by rfl)
    (hsw : swapsWith (.ListComp elt [⟨tg, iter, ifs, 0⟩] scope pos) (some (.Name y py)) spos.line X.env = pure true := by exact sw_true rfl rfl rfl (by decide +kernel)) (ok : blkC X.N X.env.scope scope own = true := by kernel_rfl) (hj : ∀ j ∈ js, j ∈ own.map (·.2) := by decide) (hc : X.calm = true := by rfl)
    (hs : ∀ x, foldedSetIterable iter X.env x = pure x := by intro _; rfl) {vs : List Nat} (hvs : own.map (·.2) = vs := by rfl) : DS X W cv (.Assign [.Name y py] (.ListComp elt [⟨tg, iter, ifs, 0⟩] scope pos) spos) (tAsg (tLc wi gt tt te (own.map (·.2))) (gName i)) (sOwn i (eLc fi vs b fc fe)) := by
  subst hvs
  exact
  have h := ps_asgLc i own hN hi hg ht he hy hyl hsw ok hj hc hs
  ⟨h.1, ev_own h.2⟩
theorem ds_asgT {tg : Expr} {gt : TG} (is : List Nat) {js : List Nat} (h : DE X e te fe) (k : DG X tg gt (bTup is) js) (hs : swapsWithSole [tg] e pos.line X.env = pure false := by rfl) (hw : swappedStores [tg] e X.env = pure none := by rfl) (h1 : (assignEach [tg] X.env).map (·.2) = [assign tg X.env] := by rfl) :
    DS X W cv (.Assign [tg] e pos) (tAsg te gt) (sAsgT is fe) := ⟨ps_asg h.pe k.pg hs hw h1, fun M H0 σ H ρ o E R hf p => by
  unfold sAsgT at hf
  obtain ⟨r, h1, hf⟩ := Option.bind_eq_some_iff.mp hf
  obtain ⟨d, h2, hf⟩ := Option.bind_eq_some_iff.mp hf
  obtain ⟨ρ', h3, hf⟩ := Option.bind_eq_some_iff.mp hf
  cases hf
  refine h.ev M H0 σ H ρ r _ R h1 fun v H1 e1 o1 => ?_
  exact k.ev M H0 σ H1 ρ v d ρ' _ (R.mono e1) (o1.stable R.dom h2) h3 fun σ' R' m' _ => p σ' H1 R' ((ex_msk e1).trans (ex_iff m'))⟩
theorem ds_ret (h : DE X e te fe) : DS X W cv (.Return (some e) pos) (tRet te) (sRet fe) := ⟨ps_ret h.pe, fun M H0 σ H ρ o E R hf p => by
  unfold sRet at hf
  obtain ⟨r, h1, hf⟩ := Option.bind_eq_some_iff.mp hf
  cases hf
  refine h.ev M H0 σ H ρ r _ R h1 fun v H1 e1 o1 => ?_
  exact p v H1 (R.ex.trans e1) (o1.ret (fun b m => .inl m) R.dm)⟩
theorem ds_retN : DS X W cv (.Return none pos) tRetN sRetN := ⟨ps_retN, fun M H0 σ H ρ o E R hf p => by
  cases hf
  exact p .non H R.ex .non⟩
theorem ds_frz (i : Nat) (h : DS X W cv st t f) : DS X W cv st t (sFrz i f) := ⟨h.ps, fun M H0 σ H ρ o E R hf p => by
  obtain ⟨R1, x⟩ := R.frz i
  exact h.ev M H0 σ H _ o E R1 hf (post_mono x p)⟩
theorem ds_expr (h : DE X e te fe) (hs : swapsWith e none pos.line X.env = pure false := by rfl) : DS X W cv (.Expr e pos) (tDrop te) (sDrop fe) := ⟨ps_expr h.pe hs, fun M H0 σ H ρ o E R hf p => by
  unfold sDrop at hf
  obtain ⟨r, h1, hf⟩ := Option.bind_eq_some_iff.mp hf
  cases hf
  refine h.ev M H0 σ H ρ r _ R h1 fun v H1 e1 o1 => ?_
  exact p σ H1 (R.mono e1) (ex_msk e1)⟩
/-! loops -/
def forGo (b : SB) (ts : List Nat) (f : SS) : List D → Rho → Option Out
  | [], ρ => some (.nx ρ)
  | d :: ds, ρ => (b d ρ).bind fun ρ1 => (f ρ1).bind fun o => match o with
    | .nx ρ2 => forGo b ts f ds (drop ts ρ2)
    | .ct ρ2 => forGo b ts f ds (drop ts ρ2)
    | .bk ρ2 => some (.nx (drop ts ρ2))
    | .rt d => some (.rt d)
    | .ex n => some (.ex n)
def sFor (fi : SI) (b : SB) (ts : List Nat) (f : SS) : SS := fun ρ => (fi ρ).bind fun ds => forGo b ts f ds (drop ts ρ)
theorem ev_for {K : PySem.W.Frag} {wi : TI} {fi : SI} {gt : TG} {b : SB} {js : List Nat} (ts : List Nat) (hi : EvI K wi fi) (hg : EvB K gt b js) (hb : EvS K W cv t f) : EvS K W cv (tFor wi gt t) (sFor fi b ts f) := fun M H0 σ H ρ o E R hf p => by
  unfold sFor at hf
  obtain ⟨ds, h1, hf⟩ := Option.bind_eq_some_iff.mp hf
  refine hi M H0 σ H ρ ds _ R h1 fun J H1 e1 so => ?_
  have R1 := R.mono e1
  obtain ⟨R2, x2⟩ := R1.drop ts
  generalize hB : msk (mM M ρ σ) H1 = B at so x2
  have pB : Ex (msk (mM M ρ σ) H) B := by rw [← hB]; exact ex_msk e1
  refine ⟨fun i m σ' H' => m = ds.length - i ∧ i ≤ ds.length ∧ ∃ ρ', Rp K M H0 σ' H' ρ' ∧ Ex B (msk (mM M ρ' σ') H') ∧ forGo b ts f (ds.drop i) ρ' = some o, ⟨ds.length, by simp, by omega, _, R2, x2, hf⟩, fun i m σ' H' hW => ?_⟩
  obtain ⟨rfl, hi', ρ', R', x', hgo⟩ := hW
  have eB : Ex B H' := x'.trans (ex_un (Evl.Ex.refl _))
  by_cases hlt : i < ds.length
  · refine .inr ⟨so.go i H' eB hlt, fun σ'' H'' => ∃ m', m' < ds.length - i ∧ m' = ds.length - (i + 1) ∧ i + 1 ≤ ds.length ∧ ∃ ρ', Rp K M H0 σ'' H'' ρ' ∧ Ex B (msk (mM M ρ' σ'') H'') ∧ forGo b ts f (ds.drop (i + 1)) ρ' = some o, fun σ'' H'' h => h, fun x H2 hy => ?_⟩
    obtain ⟨e2, hy⟩ := so.yld i H' x H2 eB hlt hy
    obtain ⟨d, hd1, hd2⟩ := hy _ x' R'.dom
    have hdr : ds.drop i = d :: ds.drop (i + 1) := by
      obtain ⟨hh, he⟩ := List.getElem?_eq_some_iff.mp hd1
      rw [← he]
      exact List.drop_eq_getElem_cons hh
    rw [hdr] at hgo
    unfold forGo at hgo
    obtain ⟨ρ1, g1, hgo⟩ := Option.bind_eq_some_iff.mp hgo
    obtain ⟨o1, g2, hgo⟩ := Option.bind_eq_some_iff.mp hgo
    refine hg M H0 σ' H2 ρ' x d ρ1 _ (R'.mono e2) hd2 g1 fun σ1 R3 m3 s3 => ?_
    have x3 : Ex B (msk (mM M ρ1 σ1) H2) := x'.trans ((ex_msk e2).trans (ex_iff m3))
    refine hb M H0 σ1 H2 ρ1 o1 _ R3 g2 ?_
    cases o1 with
    | nx ρ2 =>
      intro σ2 H3 R4 x4
      obtain ⟨R5, x5⟩ := R4.drop ts
      exact ⟨_, by omega, rfl, hlt, _, R5, (x3.trans x4).trans x5, hgo⟩
    | ct ρ2 =>
      intro σ2 H3 R4 x4
      obtain ⟨R5, x5⟩ := R4.drop ts
      exact ⟨_, by omega, rfl, hlt, _, R5, (x3.trans x4).trans x5, hgo⟩
    | bk ρ2 =>
      intro σ2 H3 R4 x4
      obtain ⟨R5, x5⟩ := R4.drop ts
      cases hgo
      exact p _ _ R5 (pB.trans ((x3.trans x4).trans x5))
    | rt d =>
      cases hgo
      exact p
    | ex n =>
      cases hgo
      exact p
  · have ei : i = ds.length := by omega
    subst ei
    rw [List.drop_length] at hgo
    cases hgo
    exact .inl ⟨so.stop H' eB, p _ _ R' (pB.trans x')⟩
theorem ds_for {tg iter : Expr} {body : List Stmt} {wi : TI} {fi : SI} {gt : TG} {b : SB} {js : List Nat} (ts : List Nat) (hp : PassesOwn (model X.prog X.w) X.A X.env X.xe) (hi : DI X tg iter wi fi) (hg : DG X tg gt b js) (hb : DSs X W cv body t f) (hc : X.calm = true := by rfl)
    (hs : ∀ x, foldedSetIterable iter X.env x = pure x := by intro _; rfl) : DS X W cv (.For tg iter body [] pos) (tFor wi gt t) (sFor fi b ts f) := ⟨ps_for hp hc hi.pi hg.pg hb.ps hs, ev_for ts hi.ev hg.ev hb.ev⟩
def whGo (c : ST) (ts : List Nat) (f : SS) : Nat → Rho → Option Out
  | 0, _ => none
  | n + 1, ρ => (c ρ).bind fun k => if k = true then (f ρ).bind fun o => (match o with
    | .nx ρ2 => whGo c ts f n (drop ts ρ2)
    | .ct ρ2 => whGo c ts f n (drop ts ρ2)
    | .bk ρ2 => some (.nx (drop ts ρ2))
    | .rt d => some (.rt d)
    | .ex n => some (.ex n)) else some (.nx ρ)
def sWhile (n : Nat) (c : ST) (ts : List Nat) (f : SS) : SS := fun ρ => whGo c ts f n (drop ts ρ)
theorem ev_while {K : PySem.W.Frag} {tc : TT} {fc : ST} (n : Nat) (ts : List Nat) (hc : EvT K tc fc) (hb : EvS K W cv t f) : EvS K W cv (tWhile tc t) (sWhile n fc ts f) := fun M H0 σ H ρ o E R hf p => by
  unfold sWhile at hf
  obtain ⟨R2, x2⟩ := R.drop ts
  refine ⟨fun m σ' H' => ∃ ρ', Rp K M H0 σ' H' ρ' ∧ Ex (msk (mM M ρ σ) H) (msk (mM M ρ' σ') H') ∧ whGo fc ts f m ρ' = some o, ⟨n, _, R2, x2, hf⟩, fun m σ' H' hW => ?_⟩
  obtain ⟨ρ', R', x', hgo⟩ := hW
  cases m with
  | zero => cases hgo
  | succ m =>
    unfold whGo at hgo
    obtain ⟨k, g1, hgo⟩ := Option.bind_eq_some_iff.mp hgo
    refine hc M H0 σ' H' ρ' k _ R' g1 fun H1 e1 => ?_
    have x1 := x'.trans (ex_msk e1)
    cases k with
    | true =>
      rw [if_pos rfl] at hgo ⊢
      obtain ⟨o1, g2, hgo⟩ := Option.bind_eq_some_iff.mp hgo
      refine ⟨fun σ'' H'' => ∃ ρ', Rp K M H0 σ'' H'' ρ' ∧ Ex (msk (mM M ρ σ) H) (msk (mM M ρ' σ'') H'') ∧ whGo fc ts f m ρ' = some o, fun σ'' H'' h => ⟨m, by omega, h⟩, ?_⟩
      refine hb M H0 σ' H1 ρ' o1 _ (R'.mono e1) g2 ?_
      cases o1 with
      | nx ρ2 =>
        intro σ2 H3 R4 x4
        obtain ⟨R5, x5⟩ := R4.drop ts
        exact ⟨_, R5, (x1.trans x4).trans x5, hgo⟩
      | ct ρ2 =>
        intro σ2 H3 R4 x4
        obtain ⟨R5, x5⟩ := R4.drop ts
        exact ⟨_, R5, (x1.trans x4).trans x5, hgo⟩
      | bk ρ2 =>
        intro σ2 H3 R4 x4
        obtain ⟨R5, x5⟩ := R4.drop ts
        cases hgo
        exact p _ _ R5 ((x1.trans x4).trans x5)
      | rt d =>
        cases hgo
        exact p
      | ex n =>
        cases hgo
        exact p
    | false =>
      rw [if_neg Bool.false_ne_true] at hgo ⊢
      cases hgo
      exact p _ _ (R'.mono e1) x1
theorem ds_while {c : Expr} {body : List Stmt} {tc : TT} {fc : ST} (n : Nat) (ts : List Nat) (hp : PassesOwn (model X.prog X.w) X.A X.env X.xe) (hc : DT X c tc fc) (hb : DSs X W cv body t f) : DS X W cv (.While c body [] pos) (tWhile tc t) (sWhile n fc ts f) := ⟨ps_while hp hc.pt hb.ps, ev_while n ts hc.ev hb.ev⟩
/-! lists that grow -/
noncomputable def sApp (i : Nat) (f : SE) : SS := fun ρ => (f ρ).bind fun r => r.stab.bind fun d => match ρ[i]? with
  | some (some (.own (.list ds))) => if szl ds.length = true then some (.nx (ρ.set i (some (.own (.list (ds ++ [d])))))) else none
  | _ => none
/-- an owned thing changes -/
theorem Rp.grow {K : PySem.W.Frag} {M : Addr → Prop} {H0 H : Hp} {σ : L2.St} {ρ : Rho} (R : Rp K M H0 σ H ρ) {i : Nat} {a : Addr} {d d' : D} {o : HO} (h : ρ[i]? = some (some (.own d))) (hs : σ[i]? = some (some (.ref a)))
    (new : ∀ B, Ex (msk (mM M ρ σ) H) B → OwnOk K B (upd H a o) a d') : Rp K M H0 σ (upd H a o) (ρ.set i (some (.own d'))) ∧ Ex (msk (mM M ρ σ) H) (msk (mM M (ρ.set i (some (.own d'))) σ) (upd H a o)) := by
  obtain ⟨hl, _⟩ := List.getElem?_eq_some_iff.mp h
  have hm : ∀ b, mM M (ρ.set i (some (.own d'))) σ b ↔ mM M ρ σ b := fun b => by
    constructor
    · rintro (m | ⟨j, f, h1, h2⟩)
      · exact .inl m
      · rcases get_set h1 with ⟨q1, q2, q3⟩ | ⟨q1, q2⟩
        · subst q1
          exact .inr ⟨j, d, h, h2⟩
        · exact .inr ⟨j, f, q2, h2⟩
    · rintro (m | ⟨j, f, h1, h2⟩)
      · exact .inl m
      · by_cases e : j = i
        · subst e
          exact .inr ⟨j, d', List.getElem?_set_self hl, h2⟩
        · exact .inr ⟨j, f, by rw [set_ne e]; exact h1, h2⟩
  have ma : mM M ρ σ a := .inr ⟨i, d, h, hs⟩
  have ee : Ex (msk (mM M ρ σ) H) (msk (mM M (ρ.set i (some (.own d'))) σ) (upd H a o)) := ex_of fun b u m q => ⟨fun z => m ((hm b).mp z), by
    rw [upd_ne fun z => m (by rw [z]; exact ma)]
    exact q⟩
  obtain ⟨a', q1, q2, q3, q4⟩ := R.own i d h
  rw [hs] at q1
  cases q1
  refine ⟨⟨Evl.Ex.mut R.ex q2, fun b m => ?_, by rw [List.length_set]; exact R.len, fun j f hj => ?_, fun j f hj => ?_, fun j k f g b h1 h2 h3 h4 => ?_⟩, ee⟩
  · by_cases e : b = a
    · subst e
      exact absurd m q3
    · rw [upd_ne e]
      exact R.dm b m
  · rcases get_set hj with ⟨h1, h2, h3⟩ | ⟨h1, h2⟩
    · cases h2
    · obtain ⟨w, p1, p2⟩ := R.val j f h2
      exact ⟨w, p1, p2.mono ee⟩
  · rcases get_set hj with ⟨h1, h2, h3⟩ | ⟨h1, h2⟩
    · cases h2
      subst h1
      exact ⟨a, hs, q2, q3, new _ ee⟩
    · obtain ⟨b, p1, p2, p3, p4⟩ := R.own j f h2
      refine ⟨b, p1, p2, p3, p4.mono ee fun u q => ?_⟩
      rw [upd_ne fun z => h1 (R.inj j i f d b h2 h p1 (by rw [z]; exact hs))]
      exact q
  · have own_of : ∀ {j : Nat} {f : D}, (ρ.set i (some (.own d')))[j]? = some (some (Ent.own f)) → ∃ f', ρ[j]? = some (some (Ent.own f')) := fun {j f} h => by
      rcases get_set h with ⟨p1, _, _⟩ | ⟨_, p2⟩
      · rw [p1]; exact ⟨d, by assumption⟩
      · exact ⟨f, p2⟩
    obtain ⟨f', r1⟩ := own_of h1
    obtain ⟨g', r2⟩ := own_of h2
    exact R.inj j k f' g' b r1 r2 h3 h4
theorem ev_app {K : PySem.W.Frag} {i : Nat} (h : EvD K te fe) : EvS K W cv (tDrop (tBM K "list" rAppend (tVar i) (tCons te tNil))) (sApp i fe) := fun M H0 σ H ρ o E R hf p => by
  unfold sApp at hf
  obtain ⟨r, h1, hf⟩ := Option.bind_eq_some_iff.mp hf
  obtain ⟨d, h2, hf⟩ := Option.bind_eq_some_iff.mp hf
  split at hf
  · rename_i ds hd
    split at hf
    · rename_i hz
      replace hz := (szl_iff _).mp hz
      cases hf
      obtain ⟨a, q1, q2, q3, xs, q4, q5⟩ := R.own i _ hd
      refine ⟨.ref a, q1, .inl ⟨rfl, xs, .inl (.inl q4)⟩, ?_⟩
      refine h M H0 σ H ρ r _ R h1 fun v H1 e1 o1 => ?_
      have st := o1.stable R.dom h2
      have q6 := e1 _ _ q4
      refine ⟨a, xs, v, rfl, rfl, q6, by rw [q5.length]; exact hz, ?_⟩
      obtain ⟨R1, x1⟩ := (R.mono e1).grow (o := .lst (xs ++ [v])) (d' := .list (ds ++ [d])) hd q1 fun B eB => ⟨xs ++ [v], upd_same, DqA.append ((q5.mono (ex_msk e1)).mono eB) (.cons (st.mono eB) .nil)⟩
      exact p _ _ R1 ((ex_msk e1).trans x1)
    · cases hf
  · cases hf
theorem ds_app (i : Nat) {x : Str} {px apos cpos : Pos} (h : DE X e te fe) (hN : X.N[i]? = some x := by rfl) (hv : Vis X.env.scope x := by first | exact Or.inl rfl | exact Or.inr (Or.inl rfl) | exact Or.inr (Or.inr rfl)) (hs : swapsWith (.Call (.Attribute (.Name x px) "append" apos) [e] [] cpos) none pos.line X.env = pure false := by rfl)
    (hs1 : starEach [e] X.env = (false, eval e X.env) :: starEach [] X.env := by rfl)
    (hfew : ((backTo cpos (starEach (e :: []) X.env)).all (fun x => !x.1) && (backToKw cpos (keywordEach [] X.env)).all (fun x => x.1.isSome)
      && decide ((e :: []).length + ([] : List Keyword).length + (if ([] : List Keyword).isEmpty then 0 else 1) < 30)) = true := by rfl)
    (hline : (apos.endLine == cpos.line) = true := by rfl) (hd : (x == ("__debug__" : Str)) = false := by decide) (hcd : (x == ("__classdict__" : Str)) = false := by decide) {K : PySem.W.Frag} (hK : X.K = K := by rfl) : DS X W cv (.Expr (.Call (.Attribute (.Name x px) "append" apos) [e] [] cpos) pos) (tDrop (tBM K "list" rAppend (tVar i) (tCons te tNil))) (sApp i fe) := by
  subst hK
  exact ⟨ps_expr (pe_bm PySem.F.plainAttrs_list PySem.F.slot_list_append PySem.F.type_list_append mt_append (pe_var hN hv hd hcd) (pa_cons h.pe pa_nil hs1) rfl hfew hline hs1) hs, ev_app h.ev⟩
end

/-! ### defs -/
def runF (n k : Nat) (f : SS) : List D → Option D := fun ds => if ds.length = k then (f (ds.map (fun d => some (Ent.val d)) ++ List.replicate (n - k) none)).bind fun o => match o with
  | .rt d => some d
  | .nx _ => some .none
  | _ => none else none
section
variable {P : Program} {w : World} {K : PySem.W.Frag} {mg : Str → Option Value} {base : Heap}
theorem mM_start {M : Addr → Prop} {ds : List D} {n : Nat} {σ : L2.St} (a : Addr) : mM M (ds.map (fun d => some (Ent.val d)) ++ List.replicate n none) σ a ↔ M a := by
  constructor
  · rintro (m | ⟨i, d, h, _⟩)
    · exact m
    · exfalso
      rw [List.getElem?_append] at h
      split at h
      · rw [List.getElem?_map] at h
        cases q : ds[i]? with
        | none => rw [q] at h; cases h
        | some x => rw [q] at h; cases h
      · rw [List.getElem?_replicate] at h
        split at h <;> cases h
  · exact .inl
theorem Rp.start {M : Addr → Prop} {H : Hp} {vs : List V} {ds : List D} {N : List Str} (dm : ∀ a, M a → H a ≠ none) (h : DqA K (msk M H) vs ds) : Rp K M H (L2.start N vs) H (ds.map (fun d => some (Ent.val d)) ++ List.replicate (N.length - ds.length) none) where
  ex := Evl.Ex.refl H
  dm := dm
  len := by unfold L2.start; simp [h.length]
  val := fun i d hi => by
    rw [List.getElem?_append] at hi
    split at hi
    · rename_i hl
      rw [List.getElem?_map] at hi
      cases q : ds[i]? with
      | none => rw [q] at hi; cases hi
      | some x =>
        rw [q] at hi
        cases hi
        obtain ⟨v, h1, h2⟩ := h.get q
        refine ⟨v, ?_, h2.mono (ex_iff fun a => mM_start a)⟩
        unfold L2.start
        rw [List.getElem?_append_left (by rw [List.length_map, h.length]; simpa using hl), List.getElem?_map, h1]
        rfl
    · rw [List.getElem?_replicate] at hi
      split at hi <;> cases hi
  own := fun i d hi => by
    exfalso
    rw [List.getElem?_append] at hi
    split at hi
    · rw [List.getElem?_map] at hi
      cases q : ds[i]? with
      | none => rw [q] at hi; cases hi
      | some x => rw [q] at hi; cases hi
    · rw [List.getElem?_replicate] at hi
      split at hi <;> cases hi
  inj := fun i j d e a hi => by
    exfalso
    rw [List.getElem?_append] at hi
    split at hi
    · rw [List.getElem?_map] at hi
      cases q : ds[i]? with
      | none => rw [q] at hi; cases hi
      | some x => rw [q] at hi; cases hi
    · rw [List.getElem?_replicate] at hi
      split at hi <;> cases hi
/-- a def's promise by its body -/
theorem fn_dl {n' m' : Nat} {x qual : Str} {st : Stmt} {f : Addr} {fd : FuncData} {N ps : List Str} {k : Nat} {g : SS} (F : L2.Fun K x qual st f fd) (S : FnScope N ps (defScope st)) (n : N.length = n') (m : ps.length = m')
    (hbody : ∀ (cdv : Value) (A : Around) (outer : List Env) (s : Shared) (H : Hp) (E : XK), Room k (A.deeper (envOfC qual (defScope st) s.heap.objs.size f cdv)) →
      ∃ t, DSs (cxOf L2.CX0 P w K mg base N qual (defScope st) f cdv A outer s H E).nox (fun _ _ _ _ => False) (fun _ => .none) (defBody st) t g) : FnOk P w K mg base L2.CX0 (k + 1) f fd ps (spD K (runF n' m' g)) := by
  refine F.ok S (fun vs H Q E h => ?_) fun cdv A outer s H vs Q E hr h => ?_
  · obtain ⟨M, ds, d, h1, h2, h3, h4⟩ := h
    unfold runF at h3
    split at h3
    · rename_i e
      rw [h2.length, e, m]
    · cases h3
  · obtain ⟨t, ht⟩ := hbody cdv A outer s H E hr
    refine ⟨t, ht.ps, ?_⟩
    obtain ⟨M, ds, d, h1, h2, h3, h4⟩ := h
    unfold runF at h3
    split at h3
    · rename_i e
      obtain ⟨o, h5, h6⟩ := Option.bind_eq_some_iff.mp h3
      have R : Rp K M H (L2.start N vs) H (ds.map (fun d => some (Ent.val d)) ++ List.replicate (N.length - ds.length) none) := Rp.start h1 h2
      rw [n, e] at R
      refine ht.ev M H _ H _ o _ R h5 ?_
      cases o with
      | rt d' =>
        cases h6
        exact fun v H' e1 q => h4 v H' e1 q
      | nx ρ' =>
        cases h6
        exact fun σ' H' R' x => h4 .non H' R'.ex .non
      | bk ρ' => cases h6
      | ct ρ' => cases h6
      | ex n => cases h6
    · cases h3
/-- the promise of a def that is never reached (a recursion's end) -/
theorem fn_none {x qual : Str} {st : Stmt} {f : Addr} {fd : FuncData} {N ps : List Str} {k : Nat} (F : L2.Fun K x qual st f fd) (S : FnScope N ps (defScope st)) : FnOk P w K mg base L2.CX0 (k + 1) f fd ps (spD K fun _ => none) :=
  F.ok S (fun vs H Q E h => by obtain ⟨_, _, _, _, _, h, _⟩ := h; cases h) fun cdv A outer s H vs Q E hr h => by obtain ⟨_, _, _, _, _, h, _⟩ := h; cases h
theorem cal_of {x : Str} {f : Addr} {fd : FuncData} {ps : List Str} {k : Nat} {g : List D → Option D} (h : FnOk P w K mg base L2.CX0 k f fd ps (spD K g)) (hm : mg x = some (.ref f)) (kp : PySem.W.keepIn K (.ref f) = true) (b : Binds K fd ps []) : Cal P w K mg base k x (spD K g) [] :=
  ⟨f, fd, ps, [], h, hm, kp, b, .nil⟩
end
end DL

/-! text DL6 -/
set_option Elab.async false
set_option linter.all false
set_option maxRecDepth 100000
set_option maxHeartbeats 4000000
set_option autoImplicit false
namespace DL
open PySem L2 SX C8
section
variable {K : PySem.W.Frag} {X : Cx}
/-! ### built-ins -/
theorem RsAll.one {M M' : Addr → Prop} {Hs H : Hp} {xs : List V} {r : Rs} (h : RsAll K M M' Hs H xs [r]) : ∃ x, xs = [x] ∧ RsOk K M M' Hs H x r := by
  cases h with
  | cons h1 h2 =>
    cases h2
    exact ⟨_, rfl, h1⟩
theorem RsAll.two {M M' : Addr → Prop} {Hs H : Hp} {xs : List V} {r s : Rs} (h : RsAll K M M' Hs H xs [r, s]) : ∃ x y, xs = [x, y] ∧ RsOk K M M' Hs H x r ∧ RsOk K M M' Hs H y s := by
  cases h with
  | cons h1 h2 =>
    obtain ⟨y, rfl, h3⟩ := h2.one
    exact ⟨_, _, rfl, h1, h3⟩
/-- a read-only list of ints -/
theorem scr_of {H : Hp} {v : V} {ds : List D} (h : Dq K H v (.dict [(.none, .list ds)])) : ∃ (a : Addr) (ns : List Int), v = .ref a ∧ SqL K H a (ns.map V.int) ∧ ds = ns.map PyData.int := by
  generalize hz : PyData.dict [(.none, .list ds)] = z at h
  cases h with
  | scr h =>
    rename_i a ns
    unfold scrD at hz
    have ed : ds = ns.map PyData.int := by
      injection hz with hz
      injection hz with hz _
      injection hz with _ hz
      injection hz
    exact ⟨a, ns, rfl, h, ed⟩
  | dT h1 h2 =>
    exfalso
    rename_i a kvs es
    cases kvs with
    | nil => simp at hz
    | cons k r =>
      cases h2
      simp [kDs] at hz
  | dK h1 h2 =>
    exfalso
    rename_i a kvs es
    cases kvs with
    | nil => simp at hz
    | cons k r =>
      cases h2
      obtain ⟨k1, k2⟩ := k
      cases k1 <;> simp [kD] at hz
  | _ => cases hz
def g1 (f : Rs → Option Rs) : List Rs → Option Rs := fun rs => match rs with
  | [r] => f r
  | _ => none
def g2 (f : Rs → Rs → Option Rs) : List Rs → Option Rs := fun rs => match rs with
  | [r, s] => f r s
  | _ => none
theorem cb1 {r : List V → Hp → VK → Prop} {f : Rs → Option Rs} (h : ∀ (M M' : Addr → Prop) (Hs H : Hp) (x : V) (rx rz : Rs) (Q : VK), (∀ b, M' b → Hs b ≠ none) → (∀ b, M b → M' b) → Ex Hs H →
    RsOk K M M' Hs H x rx → f rx = some rz → (∀ v H', Ex H H' → RsOk K M M' Hs H' v rz → Q v H') → r [x] H Q) : CbD K r (g1 f) := fun M M' Hs H xs rs rz Q dm sub e o hg q => by
  unfold g1 at hg
  split at hg
  · obtain ⟨x, rfl, o1⟩ := o.one
    exact h M M' Hs H x _ rz Q dm sub e o1 hg q
  · cases hg
theorem cb2 {r : List V → Hp → VK → Prop} {f : Rs → Rs → Option Rs} (h : ∀ (M M' : Addr → Prop) (Hs H : Hp) (x y : V) (rx ry rz : Rs) (Q : VK), (∀ b, M' b → Hs b ≠ none) → (∀ b, M b → M' b) → Ex Hs H →
    RsOk K M M' Hs H x rx → RsOk K M M' Hs H y ry → f rx ry = some rz → (∀ v H', Ex H H' → RsOk K M M' Hs H' v rz → Q v H') → r [x, y] H Q) : CbD K r (g2 f) := fun M M' Hs H xs rs rz Q dm sub e o hg q => by
  unfold g2 at hg
  split at hg
  · obtain ⟨x, y, rfl, o1, o2⟩ := o.two
    exact h M M' Hs H x y _ _ rz Q dm sub e o1 o2 hg q
  · cases hg
noncomputable def gLen : Rs → Option Rs := fun r => match r.d with
  | .list ds => some (.st (.int ds.length))
  | .tuple ds => some (.st (.int ds.length))
  | .str z => if szb z.length = true then some (.st (.int z.length)) else none
  | .dict [(.none, .list ds)] => some (.st (.int ds.length))
  | _ => none
def rLenA (K : PySem.W.Frag) : List V → Hp → VK → Prop := fun xs H Q => ∃ x n, xs = [x] ∧ LenV K x H n ∧ Q (.int n) H
theorem cb_len : CbD K (rLenA K) (g1 gLen) := cb1 fun M M' Hs H x rx rz Q dm sub e ox hg q => by
  unfold gLen at hg
  split at hg
  · rename_i ds e1
    obtain ⟨a, xs, rfl, h1, h2⟩ := ox.is_lst e1
    cases hg
    exact ⟨_, ds.length, rfl, .inl ⟨xs, rd_l h1, h2.length.symm⟩, q _ H (Evl.Ex.refl H) (.int _)⟩
  · rename_i ds e1
    obtain ⟨a, xs, rfl, h1, h2⟩ := ox.is_tup e1
    cases hg
    exact ⟨_, ds.length, rfl, .inr ⟨xs, un_t h1, h2.length.symm⟩, q _ H (Evl.Ex.refl H) (.int _)⟩
  · rename_i z e1
    have ex := ox.is_str e1
    subst ex
    split at hg
    · rename_i c
      replace c := (szb_iff _).mp c
      cases hg
      exact ⟨_, z.length, rfl, ⟨c, rfl⟩, q _ H (Evl.Ex.refl H) (.int _)⟩
    · cases hg
  · rename_i ds e1
    have qx := ox.dq
    rw [e1] at qx
    obtain ⟨a, ns, rfl, h1, rfl⟩ := scr_of qx
    cases hg
    exact ⟨_, _, rfl, .inl ⟨_, h1, rfl⟩, by
      have g := q (.int ((ns.map PyData.int).length : Nat)) H (Evl.Ex.refl H) (.int _)
      simpa using g⟩
  · cases hg
theorem de_len {p pos : Pos} {e : Expr} {te : TE} {fe : SE} (hm : X.mg "len" = none) (h : DE X e te fe) (hg : Gl X "len" := by rfl) (hs : starEach (e :: []) X.env = (false, eval e X.env) :: starEach [] X.env := by rfl) (hpl : (backTo pos (starEach [] X.env)).any (·.1) = false := by rfl) (hK : X.K = K := by rfl) : DE X (.Call (.Name "len" p) [e] [] pos) (tCB (rLenA K) (tCons te tNil)) (eCb (g1 gLen) (aCons fe aNil)) := by
  subst hK
  exact de_cbB call_len cb_len hm PySem.boot_len (da_cons h da_nil hs) hg (by decide) (by decide) hs hpl
def gTuple : Rs → Option Rs := fun r => match r.d with
  | .list ds => some (.st (.tuple ds))
  | .tuple ds => some (.st (.tuple ds))
  | _ => none
def rTupleA (K : PySem.W.Frag) : List V → Hp → VK → Prop := fun xs H Q => ∃ p ys, xs = [.ref p] ∧ ((SqL K H p ys ∧ ∀ l, H l = none → Q (.ref l) (upd H l (.tup ys))) ∨ (SqT K H p ys ∧ Q (.ref p) H))
theorem cb_tuple : CbD K (rTupleA K) (g1 gTuple) := cb1 fun M M' Hs H x rx rz Q dm sub e ox hg q => by
  unfold gTuple at hg
  split at hg
  · rename_i ds e1
    obtain ⟨a, xs, rfl, h1, h2⟩ := ox.is_lst e1
    cases hg
    exact ⟨a, xs, rfl, .inl ⟨rd_l h1, fun l hl => q _ _ (Evl.Ex.new hl) (new_tup (dom_up dm e) hl h2)⟩⟩
  · rename_i ds e1
    obtain ⟨a, xs, rfl, h1, h2⟩ := ox.is_tup e1
    cases hg
    exact ⟨a, xs, rfl, .inr ⟨un_t h1, q _ _ (Evl.Ex.refl H) (.tup h1 h2)⟩⟩
  · cases hg
theorem de_tuple {p pos : Pos} {e : Expr} {te : TE} {fe : SE} (hm : X.mg "tuple" = none) (h : DE X e te fe) (hg : Gl X "tuple" := by rfl) (hs : starEach (e :: []) X.env = (false, eval e X.env) :: starEach [] X.env := by rfl) (hpl : (backTo pos (starEach [] X.env)).any (·.1) = false := by rfl) (hK : X.K = K := by rfl) : DE X (.Call (.Name "tuple" p) [e] [] pos) (tCB (rTupleA K) (tCons te tNil)) (eCb (g1 gTuple) (aCons fe aNil)) := by
  subst hK
  exact de_cbT call_tuple_of cb_tuple hm (by decide +kernel) (da_cons h da_nil hs) hg (by decide) (by decide) hs hpl
def gList : Rs → Option Rs := fun r => match r.d with
  | .list ds => some (.fr (.list ds))
  | .tuple ds => some (.fr (.list ds))
  | _ => none
def rListA (K : PySem.W.Frag) : List V → Hp → VK → Prop := fun xs H Q => ∃ p ys, xs = [.ref p] ∧ (SqL K H p ys ∨ SqT K H p ys) ∧ ∀ l, H l = none → Q (.ref l) (upd H l (.lst ys))
theorem cb_list : CbD K (rListA K) (g1 gList) := cb1 fun M M' Hs H x rx rz Q dm sub e ox hg q => by
  unfold gList at hg
  split at hg
  · rename_i ds e1
    obtain ⟨a, xs, rfl, h1, h2⟩ := ox.is_lst e1
    cases hg
    exact ⟨a, xs, rfl, .inl (rd_l h1), fun l hl => q _ _ (Evl.Ex.new hl) (new_lst e hl h2)⟩
  · rename_i ds e1
    obtain ⟨a, xs, rfl, h1, h2⟩ := ox.is_tup e1
    cases hg
    exact ⟨a, xs, rfl, .inr (un_t h1), fun l hl => q _ _ (Evl.Ex.new hl) (new_lst e hl h2)⟩
  · cases hg
theorem de_list {p pos : Pos} {e : Expr} {te : TE} {fe : SE} (hm : X.mg "list" = none) (h : DE X e te fe) (hg : Gl X "list" := by rfl) (hs : starEach (e :: []) X.env = (false, eval e X.env) :: starEach [] X.env := by rfl) (hpl : (backTo pos (starEach [] X.env)).any (·.1) = false := by rfl) (hK : X.K = K := by rfl) : DE X (.Call (.Name "list" p) [e] [] pos) (tCB (rListA K) (tCons te tNil)) (eCb (g1 gList) (aCons fe aNil)) := by
  subst hK
  exact de_cbT call_list_of cb_list hm (by decide +kernel) (da_cons h da_nil hs) hg (by decide) (by decide) hs hpl
/-! lists of one kind -/
def intsOf : List D → Option (List Int)
  | [] => some []
  | .int i :: ds => (intsOf ds).bind fun is => some (i :: is)
  | _ :: _ => none
def boolsOf : List D → Option (List Bool)
  | [] => some []
  | .bool i :: ds => (boolsOf ds).bind fun is => some (i :: is)
  | _ :: _ => none
def strsOf : List D → Option (List Str)
  | [] => some []
  | .str i :: ds => (strsOf ds).bind fun is => some (i :: is)
  | _ :: _ => none
theorem intsOf_eq : ∀ {ds : List D} {is : List Int}, intsOf ds = some is → ds = is.map PyData.int
  | [], _, h => by cases h; rfl
  | .int i :: ds, _, h => by
    unfold intsOf at h
    obtain ⟨is, h1, h2⟩ := Option.bind_eq_some_iff.mp h
    cases h2
    rw [intsOf_eq h1]; rfl
  | .none :: _, _, h => by cases h
  | .bool _ :: _, _, h => by cases h
  | .str _ :: _, _, h => by cases h
  | .list _ :: _, _, h => by cases h
  | .tuple _ :: _, _, h => by cases h
  | .dict _ :: _, _, h => by cases h
theorem boolsOf_eq : ∀ {ds : List D} {is : List Bool}, boolsOf ds = some is → ds = is.map PyData.bool
  | [], _, h => by cases h; rfl
  | .bool i :: ds, _, h => by
    unfold boolsOf at h
    obtain ⟨is, h1, h2⟩ := Option.bind_eq_some_iff.mp h
    cases h2
    rw [boolsOf_eq h1]; rfl
  | .none :: _, _, h => by cases h
  | .int _ :: _, _, h => by cases h
  | .str _ :: _, _, h => by cases h
  | .list _ :: _, _, h => by cases h
  | .tuple _ :: _, _, h => by cases h
  | .dict _ :: _, _, h => by cases h
theorem strsOf_eq : ∀ {ds : List D} {is : List Str}, strsOf ds = some is → ds = is.map PyData.str
  | [], _, h => by cases h; rfl
  | .str i :: ds, _, h => by
    unfold strsOf at h
    obtain ⟨is, h1, h2⟩ := Option.bind_eq_some_iff.mp h
    cases h2
    rw [strsOf_eq h1]; rfl
  | .none :: _, _, h => by cases h
  | .int _ :: _, _, h => by cases h
  | .bool _ :: _, _, h => by cases h
  | .list _ :: _, _, h => by cases h
  | .tuple _ :: _, _, h => by cases h
  | .dict _ :: _, _, h => by cases h
@[simp] theorem intsOf_map (is : List Int) : intsOf (is.map PyData.int) = some is := by
  induction is with
  | nil => rfl
  | cons i is ih => simp [intsOf, ih]
@[simp] theorem boolsOf_map (is : List Bool) : boolsOf (is.map PyData.bool) = some is := by
  induction is with
  | nil => rfl
  | cons i is ih => simp [boolsOf, ih]
@[simp] theorem strsOf_map (is : List Str) : strsOf (is.map PyData.str) = some is := by
  induction is with
  | nil => rfl
  | cons i is ih => simp [strsOf, ih]
def gSum : Rs → Option Rs := fun r => match r.d with
  | .list ds => (intsOf ds).bind fun is => some (.st (.int is.sum))
  | _ => none
def gAny : Rs → Option Rs := fun r => match r.d with
  | .list ds => (boolsOf ds).bind fun is => some (.st (.bool (is.any id)))
  | _ => none
def gAll : Rs → Option Rs := fun r => match r.d with
  | .list ds => (boolsOf ds).bind fun is => some (.st (.bool (is.all id)))
  | _ => none
theorem cb_sum : CbD K (rSum K) (g1 gSum) := cb1 fun M M' Hs H x rx rz Q dm sub e ox hg q => by
  unfold gSum at hg
  split at hg
  · rename_i ds e1
    obtain ⟨a, xs, rfl, h1, h2⟩ := ox.is_lst e1
    obtain ⟨is, h3, hg⟩ := Option.bind_eq_some_iff.mp hg
    cases hg
    rw [intsOf_eq h3] at h2
    rw [h2.ints] at h1
    exact ⟨a, is, rfl, rd_l h1, q _ H (Evl.Ex.refl H) (.int _)⟩
  · cases hg
theorem cb_any : CbD K (rAny K) (g1 gAny) := cb1 fun M M' Hs H x rx rz Q dm sub e ox hg q => by
  unfold gAny at hg
  split at hg
  · rename_i ds e1
    obtain ⟨a, xs, rfl, h1, h2⟩ := ox.is_lst e1
    obtain ⟨is, h3, hg⟩ := Option.bind_eq_some_iff.mp hg
    cases hg
    rw [boolsOf_eq h3] at h2
    rw [h2.bools] at h1
    exact ⟨a, is, rfl, rd_l h1, q _ H (Evl.Ex.refl H) (.bl _)⟩
  · cases hg
theorem cb_all : CbD K (rAll K) (g1 gAll) := cb1 fun M M' Hs H x rx rz Q dm sub e ox hg q => by
  unfold gAll at hg
  split at hg
  · rename_i ds e1
    obtain ⟨a, xs, rfl, h1, h2⟩ := ox.is_lst e1
    obtain ⟨is, h3, hg⟩ := Option.bind_eq_some_iff.mp hg
    cases hg
    rw [boolsOf_eq h3] at h2
    rw [h2.bools] at h1
    exact ⟨a, is, rfl, rd_l h1, q _ H (Evl.Ex.refl H) (.bl _)⟩
  · cases hg
theorem de_sum {p pos : Pos} {e : Expr} {te : TE} {fe : SE} (hm : X.mg "sum" = none) (h : DE X e te fe) (hg : Gl X "sum" := by rfl) (hc : X.calm = true := by rfl) (hs : starEach (e :: []) X.env = (false, eval e X.env) :: starEach [] X.env := by rfl) (hpl : (backTo pos (starEach [] X.env)).any (·.1) = false := by rfl) (hK : X.K = K := by rfl) : DE X (.Call (.Name "sum" p) [e] [] pos) (tCB (rSum K) (tCons te tNil)) (eCb (g1 gSum) (aCons fe aNil)) := by
  subst hK
  exact de_cbB (cr_sum hc) cb_sum hm (by decide +kernel) (da_cons h da_nil hs) hg (by decide) (by decide) hs hpl
theorem de_any {p pos : Pos} {e : Expr} {te : TE} {fe : SE} (hm : X.mg "any" = none) (h : DE X e te fe) (hg : Gl X "any" := by rfl) (hc : X.calm = true := by rfl) (hs : starEach (e :: []) X.env = (false, eval e X.env) :: starEach [] X.env := by rfl) (hpl : (backTo pos (starEach [] X.env)).any (·.1) = false := by rfl) (hK : X.K = K := by rfl) : DE X (.Call (.Name "any" p) [e] [] pos) (tCB (rAny K) (tCons te tNil)) (eCb (g1 gAny) (aCons fe aNil)) := by
  subst hK
  exact de_cbB (cr_any hc) cb_any hm (by decide +kernel) (da_cons h da_nil hs) hg (by decide) (by decide) hs hpl
theorem de_all {p pos : Pos} {e : Expr} {te : TE} {fe : SE} (hm : X.mg "all" = none) (h : DE X e te fe) (hg : Gl X "all" := by rfl) (hc : X.calm = true := by rfl) (hs : starEach (e :: []) X.env = (false, eval e X.env) :: starEach [] X.env := by rfl) (hpl : (backTo pos (starEach [] X.env)).any (·.1) = false := by rfl) (hK : X.K = K := by rfl) : DE X (.Call (.Name "all" p) [e] [] pos) (tCB (rAll K) (tCons te tNil)) (eCb (g1 gAll) (aCons fe aNil)) := by
  subst hK
  exact de_cbB (cr_all hc) cb_all hm (by decide +kernel) (da_cons h da_nil hs) hg (by decide) (by decide) hs hpl
/-! min, max of two ints; int(..) of an int or a bool -/
def gMin : Rs → Rs → Option Rs := g2I fun i j => some (.int (if j < i then j else i))
def gMax : Rs → Rs → Option Rs := g2I fun i j => some (.int (if j > i then j else i))
theorem cb_min : CbD K (fun xs H Q => ∃ i j, xs = [.int i, .int j] ∧ Q (.int (if j < i then j else i)) H) (g2 gMin) := cb2 fun M M' Hs H x y rx ry rz Q dm sub e ox oy hg q => by
  unfold gMin g2I at hg
  split at hg
  · rename_i i j e1 e2
    rw [ox.is_int e1, oy.is_int e2]
    cases hg
    exact ⟨i, j, rfl, q _ H (Evl.Ex.refl H) (.int _)⟩
  · cases hg
theorem cb_max : CbD K (fun xs H Q => ∃ i j, xs = [.int i, .int j] ∧ Q (.int (if j > i then j else i)) H) (g2 gMax) := cb2 fun M M' Hs H x y rx ry rz Q dm sub e ox oy hg q => by
  unfold gMax g2I at hg
  split at hg
  · rename_i i j e1 e2
    rw [ox.is_int e1, oy.is_int e2]
    cases hg
    exact ⟨i, j, rfl, q _ H (Evl.Ex.refl H) (.int _)⟩
  · cases hg
section
variable {p pos : Pos} {a b : Expr} {ta tb : TE} {fa fb : SE}
theorem de_min (hm : X.mg "min" = none) (h : DE X a ta fa) (k : DE X b tb fb) (hg : Gl X "min" := by rfl) (hc : X.calm = true := by rfl) (hs : starEach (a :: [b]) X.env = (false, eval a X.env) :: starEach [b] X.env := by rfl) (hs2 : starEach (b :: []) X.env = (false, eval b X.env) :: starEach [] X.env := by rfl) (hpl : (backTo pos (starEach [b] X.env)).any (·.1) = false := by rfl) :
    DE X (.Call (.Name "min" p) [a, b] [] pos) (tCB (fun xs H Q => ∃ i j, xs = [.int i, .int j] ∧ Q (.int (if j < i then j else i)) H) (tCons ta (tCons tb tNil))) (eCb (g2 gMin) (aCons fa (aCons fb aNil))) := de_cbB (call_min2 hc) cb_min hm (by decide +kernel) (da_cons h (da_cons k da_nil hs2) hs) hg (by decide) (by decide) hs hpl
theorem de_max (hm : X.mg "max" = none) (h : DE X a ta fa) (k : DE X b tb fb) (hg : Gl X "max" := by rfl) (hc : X.calm = true := by rfl) (hs : starEach (a :: [b]) X.env = (false, eval a X.env) :: starEach [b] X.env := by rfl) (hs2 : starEach (b :: []) X.env = (false, eval b X.env) :: starEach [] X.env := by rfl) (hpl : (backTo pos (starEach [b] X.env)).any (·.1) = false := by rfl) :
    DE X (.Call (.Name "max" p) [a, b] [] pos) (tCB (fun xs H Q => ∃ i j, xs = [.int i, .int j] ∧ Q (.int (if j > i then j else i)) H) (tCons ta (tCons tb tNil))) (eCb (g2 gMax) (aCons fa (aCons fb aNil))) := de_cbB (call_max2 hc) cb_max hm (by decide +kernel) (da_cons h (da_cons k da_nil hs2) hs) hg (by decide) (by decide) hs hpl
end
noncomputable def gInt : Rs → Option Rs := fun r => match r.d with
  | .int i => some (.st (.int i))
  | .bool k => some (.st (.int (if k then 1 else 0)))
  | .str a => if s640 a.length = true then (PySem.intText? a).map fun n => .st (.int n) else none
  | _ => none
def rIntA : List V → Hp → VK → Prop := fun xs H Q => ((∃ i, xs = [.int i] ∧ Q (.int i) H) ∨ ∃ k, xs = [.bl k] ∧ Q (.int (if k then 1 else 0)) H) ∨ (∃ a n, xs = [.str a] ∧ PySem.intText? a = some n ∧ a.length ≤ 640 ∧ Q (.int n) H)
theorem call_intA : CallR X (.type "int") rIntA := CallR.or call_int1 call_int_str
theorem cb_int : CbD K rIntA (g1 gInt) := cb1 fun M M' Hs H x rx rz Q dm sub e ox hg q => by
  unfold gInt at hg
  split at hg
  · rename_i i e1
    rw [ox.is_int e1]
    cases hg
    exact .inl (.inl ⟨i, rfl, q _ H (Evl.Ex.refl H) (.int _)⟩)
  · rename_i i e1
    rw [ox.is_bool e1]
    cases hg
    exact .inl (.inr ⟨i, rfl, q _ H (Evl.Ex.refl H) (.int _)⟩)
  · rename_i z e1
    rw [ox.is_str e1]
    split at hg
    · rename_i c
      replace c := (s640_iff _).mp c
      obtain ⟨n, h1, rfl⟩ := Option.map_eq_some_iff.mp hg
      exact .inr ⟨z, n, rfl, h1, c, q _ H (Evl.Ex.refl H) (.int _)⟩
    · cases hg
  · cases hg
section
variable {p pos : Pos} {a b : Expr} {ta tb : TE} {fa fb : SE}
theorem de_toInt (hm : X.mg "int" = none) (h : DE X a ta fa) (hg : Gl X "int" := by rfl) (hs : starEach (a :: []) X.env = (false, eval a X.env) :: starEach [] X.env := by rfl) (hpl : (backTo pos (starEach [] X.env)).any (·.1) = false := by rfl) :
    DE X (.Call (.Name "int" p) [a] [] pos) (tCB rIntA (tCons ta tNil)) (eCb (g1 gInt) (aCons fa aNil)) := de_cbT call_intA cb_int hm (by decide +kernel) (da_cons h da_nil hs) hg (by decide) (by decide) hs hpl
end
/-! isinstance of a built-in class -/
def tyName : D → Option String
  | .none => some "NoneType"
  | .bool _ => some "bool"
  | .int _ => some "int"
  | .str _ => some "str"
  | .list _ => some "list"
  | .tuple _ => some "tuple"
  | _ => none
theorem tyx_of {H : Hp} {v : V} {d : D} {n : String} (h : Dq K H v d) (e : tyName d = some n) : TyX K H v (.type n) := by
  cases h with
  | non => cases e; exact .base .non
  | bl b => cases e; exact .base (.bl b)
  | int i => cases e; exact .base (.int i)
  | str x => cases e; exact .base (.str x)
  | lst h1 h2 =>
    cases e
    rcases h1 with h1 | ⟨o, h1⟩
    · exact .base (.lst h1)
    · exact .base (.frz h1)
  | scr h => cases e
  | tup h1 h2 =>
    cases e
    rcases h1 with (h1 | ⟨o, h1⟩) | ⟨o, its, n, h1, h3, _⟩
    · exact .base (.tup h1)
    · exact .fTuple h1
    · exact .kTuple h1 h3
  | dT _ _ => cases e
  | dK _ _ => cases e
def isiB (T : String) (d : D) : Option Bool := (tyName d).bind fun n => kitB n T
def eIsi (T : String) (fa : SE) : SE := fun ρ => (fa ρ).bind fun r => (isiB T r.d).bind fun b => some (.st (.bool b))
theorem ev_isi {T : String} {ta : TE} {fa : SE} (h : EvD K ta fa) : EvD K (tCB (rIsi K) (tCons ta (tCons (tC (.ty T)) tNil))) (eIsi T fa) := fun M H0 σ H ρ rz Q R hf q => by
  unfold eIsi at hf
  obtain ⟨r, h1, hf⟩ := Option.bind_eq_some_iff.mp hf
  obtain ⟨b, h2, hf⟩ := Option.bind_eq_some_iff.mp hf
  cases hf
  unfold isiB at h2
  obtain ⟨n, h3, h4⟩ := Option.bind_eq_some_iff.mp h2
  refine h M H0 σ H ρ r _ R h1 fun v H1 e1 o1 => ?_
  exact ⟨v, .ty T, .type n, .type T, b, rfl, .ty T, tyx_of o1.dq h3, kit_ty h4, q _ H1 e1 (.bl _)⟩
section
variable {p p2 pos : Pos} {a : Expr} {ta : TE} {fa : SE}
theorem de_isi {T : Str} {Ts : String} (hm : X.mg "isinstance" = none) (hm2 : X.mg T = none) (h : DE X a ta fa) (hT : bootBuiltins T = some (.type Ts) := by decide +kernel) (hg : Gl X "isinstance" := by rfl) (hg2 : Gl X T := by rfl) (hn : T ≠ "__name__" := by decide) (hdb : (T == ("__debug__" : Str)) = false := by decide)
    (hcd : (T == ("__classdict__" : Str)) = false := by decide)
    (hs : starEach (a :: [.Name T p2]) X.env = (false, eval a X.env) :: starEach [.Name T p2] X.env := by rfl) (hs2 : starEach ((.Name T p2) :: []) X.env = (false, eval (.Name T p2) X.env) :: starEach [] X.env := by rfl) (hpl : (backTo pos (starEach [.Name T p2] X.env)).any (·.1) = false := by rfl) (hK : X.K = K := by rfl) : DE X (.Call (.Name "isinstance" p) [a, .Name T p2] [] pos) (tCB (rIsi K) (tCons ta (tCons (tC (.ty Ts)) tNil))) (eIsi Ts fa) := by
  subst hK
  exact ⟨pe_callB call_isi hg hm (by decide +kernel) (pa_cons h.pe (pa_cons (pe_bltn hg2 hm2 hT rfl hn hdb) pa_nil hs2) hs) (by decide) (by decide) hs hpl, ev_isi h.ev⟩
end
end
end DL

/-! text EV -/
set_option Elab.async false
set_option linter.all false
set_option maxRecDepth 100000
set_option maxHeartbeats 4000000
set_option autoImplicit false
/-! evaluating the semantics -/
namespace DL
open PySem L2
theorem szb_ok {n : Nat} (h : n ≤ 16777216) : szb n = true := (szb_iff n).mpr (by rw [sizeLine_eq]; exact h)
theorem szl_ok {n : Nat} (h : n < 16777216) : szl n = true := (szl_iff n).mpr (by rw [sizeLine_eq]; exact h)
theorem i62_ok {n : Int} (h1 : -1000000000 ≤ n) (h2 : n ≤ 1000000000) : i62 n = true := (i62_iff n).mpr ⟨Int.le_trans (by decide) h1, Int.lt_of_le_of_lt h2 (by decide)⟩
theorem i62_nat {n : Nat} (h2 : n ≤ 1000000000) : i62 n = true := i62_ok (by omega) (by omega)
@[simp] theorem szb_0 : szb 0 = true := szb_ok (by decide)
@[simp] theorem szb_1 : szb 1 = true := szb_ok (by decide)
@[simp] theorem szb_2 : szb 2 = true := szb_ok (by decide)
@[simp] theorem szb_3 : szb 3 = true := szb_ok (by decide)
@[simp] theorem szb_4 : szb 4 = true := szb_ok (by decide)
@[simp] theorem szb_5 : szb 5 = true := szb_ok (by decide)
@[simp] theorem szb_6 : szb 6 = true := szb_ok (by decide)
@[simp] theorem szb_7 : szb 7 = true := szb_ok (by decide)
@[simp] theorem szb_8 : szb 8 = true := szb_ok (by decide)
theorem if_gd {α : Type} (b : Bool) (x : Option α) : (if b = true then x else none) = gd b x := by cases b <;> rfl
section
variable (ρ : Rho) (i : Nat) (d : D) (a b c : SE) (p q : ST) (f g : SS) (fs : SA) (ds : List D) (rs : List Rs)
@[simp] theorem d_st : Rs.d (.st d) = d := id rfl
@[simp] theorem d_fr : Rs.d (.fr d) = d := id rfl
@[simp] theorem d_tr : Rs.d (.tr d) = d := id rfl
@[simp] theorem stab_st : Rs.stab (.st d) = some d := id rfl
@[simp] theorem stab_fr : Rs.stab (.fr d) = some d := id rfl
@[simp] theorem stabs_nil : stabs [] = some [] := id rfl
@[simp] theorem stabs_st : stabs (.st d :: rs) = (stabs rs).bind fun ds => some (d :: ds) := id rfl
@[simp] theorem stabs_fr : stabs (.fr d :: rs) = (stabs rs).bind fun ds => some (d :: ds) := id rfl
@[simp] theorem truth_b (k : Bool) : Rs.truth (.st (.bool k)) = some k := id rfl
@[simp] theorem eVar_ap : eVar i ρ = match ρ[i]? with
  | some (some (.val d)) => some (.st d)
  | some (some (.own d)) => some (.tr d)
  | _ => none := id rfl
@[simp] theorem eC_ap : eC d ρ = some (.st d) := id rfl
@[simp] theorem eOp_ap (g : Rs → Rs → Option Rs) : eOp g a b ρ = (a ρ).bind fun x => (b ρ).bind fun y => g x y := id rfl
@[simp] theorem eUn_ap (g : Rs → Option Rs) : eUn g a ρ = (a ρ).bind g := id rfl
@[simp] theorem aNil_ap : aNil ρ = some [] := id rfl
@[simp] theorem aCons_ap : aCons a fs ρ = (a ρ).bind fun x => (fs ρ).bind fun xs => some (x :: xs) := id rfl
@[simp] theorem eCb_ap (g : List Rs → Option Rs) : eCb g fs ρ = (fs ρ).bind g := id rfl
@[simp] theorem g1_ap (g : Rs → Option Rs) (r : Rs) : g1 g [r] = g r := id rfl
@[simp] theorem g2_ap (g : Rs → Rs → Option Rs) (r s : Rs) : g2 g [r, s] = g r s := id rfl
@[simp] theorem eChain_ap (u v : Int → Int → Bool) : eChain u v a b c ρ = (a ρ).bind fun x => (b ρ).bind fun y => match x.d, y.d with
  | .int i, .int j => if u i j = true then (c ρ).bind fun z => (match z.d with | .int k => some (.st (.bool (v j k))) | _ => none) else some (.st (.bool false))
  | _, _ => none := id rfl
@[simp] theorem eAnd_ap : eAnd a b ρ = (a ρ).bind fun x => match x.d with
  | .bool true => b ρ
  | .bool false => some (.st (.bool false))
  | _ => none := id rfl
@[simp] theorem eOr_ap : eOr a b ρ = (a ρ).bind fun x => match x.d with
  | .bool true => some (.st (.bool true))
  | .bool false => b ρ
  | _ => none := id rfl
@[simp] theorem eNot_ap : eNot a ρ = (a ρ).bind gNot := id rfl
@[simp] theorem gNot_b (k : Bool) : gNot (.st (.bool k)) = some (.st (.bool (!k))) := id rfl
@[simp] theorem bVal_ap : bVal a ρ = (a ρ).bind Rs.truth := id rfl
@[simp] theorem bAnd_ap : bAnd p q ρ = (p ρ).bind fun k => if k = true then q ρ else some false := id rfl
@[simp] theorem bOr_ap : bOr p q ρ = (p ρ).bind fun k => if k = true then some true else q ρ := id rfl
@[simp] theorem bNot_ap : bNot p ρ = (p ρ).map (!·) := id rfl
@[simp] theorem bYes_ap : bYes ρ = some true := id rfl
@[simp] theorem eIf_ap : eIf p a b ρ = (p ρ).bind fun k => if k = true then a ρ else b ρ := id rfl
@[simp] theorem eTup_ap : eTup fs ρ = (fs ρ).bind fun rs => (stabs rs).bind fun ds => gd (szb ds.length) (some (.st (.tuple ds))) := by
  unfold eTup
  simp only [if_gd]
@[simp] theorem eLst_ap : eLst fs ρ = (fs ρ).bind fun rs => (stabs rs).bind fun ds => gd (szb ds.length) (some (.fr (.list ds))) := by
  unfold eLst
  simp only [if_gd]
@[simp] theorem oNone_ap : oNone ρ = some none := id rfl
@[simp] theorem oSome_ap : oSome a ρ = (a ρ).bind fun r => match r.d with
  | .int i => some (some i)
  | _ => none := id rfl
@[simp] theorem eSl_ap (lo hi : SO) : eSl a lo hi ρ = (a ρ).bind fun x => (lo ρ).bind fun l => (hi ρ).bind fun h => gSl x l h := id rfl
@[simp] theorem eCall_ap (g : List D → Option D) : eCall g fs ρ = (fs ρ).bind fun rs => (stabs rs).bind fun ds => (g ds).map .st := id rfl
@[simp] theorem eIsi_ap (T : String) : eIsi T a ρ = (a ρ).bind fun r => (isiB T r.d).bind fun b => some (.st (.bool b)) := id rfl
@[simp] theorem sNext_ap : sNext ρ = some (.nx ρ) := id rfl
@[simp] theorem sBreak_ap : sBreak ρ = some (.bk ρ) := id rfl
@[simp] theorem sCont_ap : sCont ρ = some (.ct ρ) := id rfl
@[simp] theorem sSeq_ap : sSeq f g ρ = (f ρ).bind fun o => match o with
  | .nx ρ' => g ρ'
  | o => some o := id rfl
@[simp] theorem sIf_ap : sIf p f g ρ = (p ρ).bind fun k => if k = true then f ρ else g ρ := id rfl
@[simp] theorem sAsg_ap : sAsg i a ρ = (a ρ).bind fun r => r.stab.bind fun d => some (.nx (ρ.set i (some (.val d)))) := id rfl
@[simp] theorem sOwn_ap : sOwn i a ρ = (a ρ).bind fun r => match r with
  | .fr d => if i < ρ.length then some (.nx (ρ.set i (some (.own d)))) else none
  | _ => none := id rfl
@[simp] theorem sAsgT_ap (is : List Nat) : sAsgT is a ρ = (a ρ).bind fun r => r.stab.bind fun d => (bTup is d ρ).bind fun ρ' => some (.nx ρ') := id rfl
@[simp] theorem sRet_ap : sRet a ρ = (a ρ).bind fun r => some (.rt r.d) := id rfl
@[simp] theorem sRetN_ap : sRetN ρ = some (.rt .none) := id rfl
@[simp] theorem sFrz_ap : sFrz i f ρ = f (frz i ρ) := id rfl
@[simp] theorem sDrop_ap : sDrop a ρ = (a ρ).bind fun _ => some (.nx ρ) := id rfl
@[simp] theorem sFor_ap (fi : SI) (b : SB) (ts : List Nat) : sFor fi b ts f ρ = (fi ρ).bind fun ds => forGo b ts f ds (drop ts ρ) := id rfl
@[simp] theorem sWhile_ap (n : Nat) (ts : List Nat) : sWhile n p ts f ρ = whGo p ts f n (drop ts ρ) := id rfl
@[simp] theorem sApp_ap : sApp i a ρ = (a ρ).bind fun r => r.stab.bind fun d => match ρ[i]? with
  | some (some (.own (.list ds))) => gd (szl ds.length) (some (.nx (ρ.set i (some (.own (.list (ds ++ [d])))))))
  | _ => none := by
  unfold sApp
  simp only [if_gd]
  try rfl
@[simp] theorem eLc_ap (fi : SI) (vs : List Nat) (b : SB) : eLc fi vs b p a ρ = (fi ρ).bind fun ds => gd (szb ds.length) ((wipeR ρ vs).bind fun ρ1 => (lcGo b p a ρ1 ds).bind fun out => some (.fr (.list out))) := by
  unfold eLc
  simp only [if_gd]
@[simp] theorem iSeq_ap : iSeq a ρ = (a ρ).bind fun r => r.stab.bind fun d => match d with
  | .list ds => some ds
  | .tuple ds => some ds
  | _ => none := id rfl
@[simp] theorem iRg1_ap : iRg1 a ρ = (a ρ).bind fun r => match r.d with
  | .int n => gd (i62 n) (some (rgD 0 n.toNat))
  | _ => none := by
  unfold iRg1
  simp only [if_gd]
  try rfl
@[simp] theorem iRg2_ap : iRg2 a b ρ = (a ρ).bind fun r => (b ρ).bind fun u => match r.d, u.d with
  | .int i, .int j => gd (i62 i && i62 j) (some (rgD i (j - i).toNat))
  | _, _ => none := by
  unfold iRg2
  simp only [if_gd]
  try rfl
@[simp] theorem bName_ap : bName i d ρ = if isOwn ρ i = true then none else some (ρ.set i (some (.val d))) := id rfl
@[simp] theorem bTup_ap (is : List Nat) : bTup is (.tuple ds) ρ = if ds.length = is.length then bNames is ds ρ else none := id rfl
@[simp] theorem bNames_nil : bNames [] [] ρ = some ρ := id rfl
@[simp] theorem bNames_cons (is : List Nat) : bNames (i :: is) (d :: ds) ρ = (bName i d ρ).bind fun ρ1 => bNames is ds ρ1 := id rfl
@[simp] theorem drop_nil : drop [] ρ = ρ := id rfl
@[simp] theorem drop_cons (ts : List Nat) : drop (i :: ts) ρ = drop ts (ρ.set i none) := id rfl
@[simp] theorem wipeL_nil : wipeL ρ [] = ρ := id rfl
@[simp] theorem wipeL_cons (vs : List Nat) : wipeL ρ (i :: vs) = (wipeL ρ vs).set i none := id rfl
@[simp] theorem wipeR_ap (vs : List Nat) : wipeR ρ vs = if vs.all (fun i => !isOwn ρ i) = true then some (wipeL ρ vs) else none := id rfl
@[simp] theorem isOwn_ap : isOwn ρ i = match ρ[i]? with
  | some (some (.own _)) => true
  | _ => false := id rfl
@[simp] theorem frz_ap : frz i ρ = match ρ[i]? with
  | some (some (.own d)) => ρ.set i (some (.val d))
  | _ => ρ := id rfl
@[simp] theorem runF_ap (n k : Nat) : runF n k f ds = if ds.length = k then (f (ds.map (fun d => some (Ent.val d)) ++ List.replicate (n - k) none)).bind fun o => match o with
  | .rt d => some d
  | .nx _ => some .none
  | _ => none else none := id rfl
@[simp] theorem gTuple_lst : gTuple (.st (.list ds)) = some (.st (.tuple ds)) := id rfl
@[simp] theorem gTuple_fr : gTuple (.fr (.list ds)) = some (.st (.tuple ds)) := id rfl
@[simp] theorem gTuple_tr : gTuple (.tr (.list ds)) = some (.st (.tuple ds)) := id rfl
@[simp] theorem gTuple_tup : gTuple (.st (.tuple ds)) = some (.st (.tuple ds)) := id rfl
@[simp] theorem gList_lst : gList (.st (.list ds)) = some (.fr (.list ds)) := id rfl
@[simp] theorem gList_fr : gList (.fr (.list ds)) = some (.fr (.list ds)) := id rfl
@[simp] theorem gList_tr : gList (.tr (.list ds)) = some (.fr (.list ds)) := id rfl
@[simp] theorem gList_tup : gList (.st (.tuple ds)) = some (.fr (.list ds)) := id rfl
@[simp] theorem gLen_fr : gLen (.fr (.list ds)) = some (.st (.int ds.length)) := id rfl
end
theorem sz_le {n : Nat} (h : n ≤ 16777216) : n ≤ sizeLine := by rw [sizeLine_eq]; exact h
theorem sz_lt {n : Nat} (h : n < 16777216) : n < sizeLine := by rw [sizeLine_eq]; exact h
theorem eVar_val {ρ : Rho} {i : Nat} {d : D} (h : ρ[i]? = some (some (Ent.val d))) : eVar i ρ = some (.st d) := by unfold eVar; rw [h]
theorem eVar_own {ρ : Rho} {i : Nat} {d : D} (h : ρ[i]? = some (some (Ent.own d))) : eVar i ρ = some (.tr d) := by unfold eVar; rw [h]
theorem eOp_some {g : Rs → Rs → Option Rs} {a b : SE} {ρ : Rho} {x y : Rs} (ha : a ρ = some x) (hb : b ρ = some y) : eOp g a b ρ = g x y := by unfold eOp; rw [ha, hb]; rfl
@[simp] theorem g2I_st (f : Int → Int → Option D) (i j : Int) : g2I f (.st (.int i)) (.st (.int j)) = (f i j).map .st := id rfl
@[simp] theorem gAdd_int (i j : Int) : gAdd (.st (.int i)) (.st (.int j)) = some (.st (.int (i + j))) := id rfl
@[simp] theorem gSub_int (i j : Int) : gSub (.st (.int i)) (.st (.int j)) = some (.st (.int (i - j))) := id rfl
@[simp] theorem gLt_int (i j : Int) : gLt (.st (.int i)) (.st (.int j)) = some (.st (.bool (decide (i < j)))) := id rfl
@[simp] theorem gLe_int (i j : Int) : gLe (.st (.int i)) (.st (.int j)) = some (.st (.bool (decide (i ≤ j)))) := id rfl
@[simp] theorem gGt_int (i j : Int) : gGt (.st (.int i)) (.st (.int j)) = some (.st (.bool (decide (j < i)))) := id rfl
@[simp] theorem gGe_int (i j : Int) : gGe (.st (.int i)) (.st (.int j)) = some (.st (.bool (decide (j ≤ i)))) := id rfl
@[simp] theorem gEq_int (i j : Int) : gEq (.st (.int i)) (.st (.int j)) = some (.st (.bool (decide (i = j)))) := id rfl
@[simp] theorem gNe_int (i j : Int) : gNe (.st (.int i)) (.st (.int j)) = some (.st (.bool (!decide (i = j)))) := id rfl
@[simp] theorem gEq_bool (i j : Bool) : gEq (.st (.bool i)) (.st (.bool j)) = some (.st (.bool (decide (i = j)))) := id rfl
@[simp] theorem gNe_bool (i j : Bool) : gNe (.st (.bool i)) (.st (.bool j)) = some (.st (.bool (!decide (i = j)))) := id rfl
theorem gMulI_ok {i j : Int} (h : (-(2 ^ 64) < i ∧ i < 2 ^ 64) ∨ (-(2 ^ 64) < j ∧ j < 2 ^ 64)) : gMulI (.st (.int i)) (.st (.int j)) = some (.st (.int (iMul i j))) := by
  show ((gd (mulB i j) (some (PyData.int (iMul i j)))).map Rs.st) = _
  rw [(mulB_iff i j).mpr h]; rfl
theorem gMod_ok {i j : Int} (h : 0 < j) : gMod (.st (.int i)) (.st (.int j)) = some (.st (.int (iMod i j))) := by
  show ((gd (posB j) (some (PyData.int (iMod i j)))).map Rs.st) = _
  rw [(posB_iff j).mpr h]; rfl
theorem gDiv_ok {i j : Int} (h : 0 < j ∧ j < 1073741824) : gDiv (.st (.int i)) (.st (.int j)) = some (.st (.int (iDiv i j))) := by
  show ((gd (divB j) (some (PyData.int (iDiv i j)))).map Rs.st) = _
  rw [(divB_iff j).mpr h]; rfl
theorem atI_at {α : Type} (xs : List α) (n : Nat) : atI xs (n : Int) = xs[n]? := by
  cases h : xs[n]? with
  | some v => exact atI_nat h
  | none =>
    have hl := List.getElem?_eq_none_iff.mp h
    unfold atI ixN
    rw [if_pos (by omega), if_neg (by omega)]
    rfl
theorem gIx_tup {ds : List D} {n : Nat} {d : D} (h : ds[n]? = some d) : gIx (.st (.tuple ds)) (.st (.int n)) = some (.st d) := by
  show (atI ds n).map Rs.st = _
  rw [atI_at, h]; rfl
theorem gIx_lst {ds : List D} {n : Nat} {d : D} (h : ds[n]? = some d) : gIx (.st (.list ds)) (.st (.int n)) = some (.st d) := by
  show (atI ds n).map Rs.st = _
  rw [atI_at, h]; rfl
theorem gIx_ltr {ds : List D} {n : Nat} {d : D} (h : ds[n]? = some d) : gIx (.tr (.list ds)) (.st (.int n)) = some (.st d) := by
  show (atI ds n).map Rs.st = _
  rw [atI_at, h]; rfl
theorem gIx_scr {ns : List Int} {n : Nat} {d : Int} (h : ns[n]? = some d) : gIx (.st (scrD ns)) (.st (.int n)) = some (.st (.int d)) := by
  show (atI (ns.map PyData.int) n).map Rs.st = _
  rw [atI_at, List.getElem?_map, h]; rfl
@[simp] theorem gLen_tup (ds : List D) : gLen (.st (.tuple ds)) = some (.st (.int ds.length)) := id rfl
@[simp] theorem gLen_lst (ds : List D) : gLen (.st (.list ds)) = some (.st (.int ds.length)) := id rfl
@[simp] theorem gLen_ltr (ds : List D) : gLen (.tr (.list ds)) = some (.st (.int ds.length)) := id rfl
@[simp] theorem gLen_scr (ns : List Int) : gLen (.st (scrD ns)) = some (.st (.int ns.length)) := by
  show some (Rs.st (.int ((ns.map PyData.int).length : Nat))) = _
  rw [List.length_map]
/-! loops and comprehensions -/
theorem forGo_nil (b : SB) (ts : List Nat) (f : SS) (ρ : Rho) : forGo b ts f [] ρ = some (.nx ρ) := rfl
theorem forGo_cons (b : SB) (ts : List Nat) (f : SS) (d : D) (ds : List D) (ρ : Rho) : forGo b ts f (d :: ds) ρ = (b d ρ).bind fun ρ1 => (f ρ1).bind fun o => match o with
    | .nx ρ2 => forGo b ts f ds (drop ts ρ2)
    | .ct ρ2 => forGo b ts f ds (drop ts ρ2)
    | .bk ρ2 => some (.nx (drop ts ρ2))
    | .rt d => some (.rt d)
    | .ex n => some (.ex n) := rfl
/-- a fold: E tells the names' values by what is carried -/
theorem forGo_fold {α β : Type} {b : SB} {ts : List Nat} {f : SS} {E : β → Rho} {enc : α → D} {step : β → α → β} (I : β → Prop) (xs : List α)
    (h : ∀ acc x, x ∈ xs → I acc → ∃ ρ1, b (enc x) (E acc) = some ρ1 ∧ ∃ ρ2, f ρ1 = some (.nx ρ2) ∧ drop ts ρ2 = E (step acc x)) (hI : ∀ acc x, x ∈ xs → I acc → I (step acc x)) (acc : β) (h0 : I acc) :
    forGo b ts f (xs.map enc) (E acc) = some (.nx (E (xs.foldl step acc))) := by
  induction xs generalizing acc with
  | nil => rfl
  | cons x xs ih =>
    obtain ⟨ρ1, h1, ρ2, h2, h3⟩ := h acc x (by simp) h0
    rw [List.map_cons, forGo_cons, h1, Option.bind_some, h2, Option.bind_some]
    show forGo b ts f (xs.map enc) (drop ts ρ2) = _
    rw [h3]
    exact ih (fun acc y hy => h acc y (by simp [hy])) (fun acc y hy => hI acc y (by simp [hy])) _ (hI acc x (by simp) h0)
/-- a comprehension without a test -/
theorem lcGo_map {α : Type} {b : SB} {fe : SE} {ρ : Rho} {enc : α → D} {g : α → D} (xs : List α) (h : ∀ x, x ∈ xs → ∃ ρ1, b (enc x) ρ = some ρ1 ∧ ∃ r, fe ρ1 = some r ∧ r.stab = some (g x)) : lcGo b bYes fe ρ (xs.map enc) = some (xs.map g) := by
  induction xs with
  | nil => rfl
  | cons x xs ih =>
    obtain ⟨ρ1, h1, r, h2, h3⟩ := h x (by simp)
    rw [List.map_cons]
    unfold lcGo
    rw [h1, Option.bind_some]
    show (Option.some true).bind _ = _
    rw [Option.bind_some, if_pos rfl, h2, Option.bind_some, h3, Option.bind_some, ih fun y hy => h y (by simp [hy])]
    rfl
/-- with a test -/
theorem lcGo_filter {α : Type} {b : SB} {fc : ST} {fe : SE} {ρ : Rho} {enc : α → D} {p : α → Bool} {g : α → D} (xs : List α) (h : ∀ x, x ∈ xs → ∃ ρ1, b (enc x) ρ = some ρ1 ∧ fc ρ1 = some (p x) ∧ (p x = true → ∃ r, fe ρ1 = some r ∧ r.stab = some (g x))) :
    lcGo b fc fe ρ (xs.map enc) = some ((xs.filter p).map g) := by
  induction xs with
  | nil => rfl
  | cons x xs ih =>
    obtain ⟨ρ1, h1, h2, h3⟩ := h x (by simp)
    have ih := ih fun y hy => h y (by simp [hy])
    rw [List.map_cons]
    unfold lcGo
    rw [h1, Option.bind_some, h2, Option.bind_some]
    cases hp : p x with
    | true =>
      obtain ⟨r, h4, h5⟩ := h3 hp
      rw [if_pos rfl, h4, Option.bind_some, h5, Option.bind_some, ih, List.filter_cons, if_pos hp]
      rfl
    | false =>
      rw [if_neg Bool.false_ne_true, ih, List.filter_cons, if_neg (by rw [hp]; decide)]
theorem rgD_map (n : Nat) : rgD 0 n = (List.range n).map fun i => PyData.int (i : Nat) := by
  unfold rgD
  congr 1
  funext i
  rw [Int.zero_add]
/-- the promise at the law's entry -/
theorem law_sp {K : PySem.W.Frag} {H : Hp} {a : Addr} {ns : List Int} {f : List D → Option D} {E : XK} (h : f [scrD ns] = some (.bool true)) (hS : SqL K H a (ns.map V.int)) : spD K f [.ref a] H (fun v _ => v = .bl true) E := by
  refine ⟨fun _ => False, [scrD ns], .bool true, fun _ h => h.elim, .cons (.scr ?_) .nil, h, fun v H' e q => by cases q; rfl⟩
  exact Evl.ex_l (fun b o e => by rw [msk_not (fun h => h)]; exact e) hS
end DL

/-! text EV2 -/
set_option Elab.async false
set_option linter.all false
set_option maxRecDepth 100000
set_option maxHeartbeats 4000000
set_option autoImplicit false
/-! loops by what has been gone through -/
namespace DL
open PySem L2
/-- one turn of a loop -/
def turn (b : SB) (ts : List Nat) (f : SS) (d : D) (ρ : Rho) : Option Out := (b d ρ).bind fun ρ1 => (f ρ1).bind fun o => match o with
  | .nx ρ2 => some (.nx (drop ts ρ2))
  | .ct ρ2 => some (.nx (drop ts ρ2))
  | .bk ρ2 => some (.bk (drop ts ρ2))
  | .rt d => some (.rt d)
  | .ex n => some (.ex n)
theorem forGo_turn (b : SB) (ts : List Nat) (f : SS) (d : D) (ds : List D) (ρ : Rho) : forGo b ts f (d :: ds) ρ = (turn b ts f d ρ).bind fun o => match o with
  | .nx ρ2 => forGo b ts f ds ρ2
  | .bk ρ2 => some (.nx ρ2)
  | .rt d => some (.rt d)
  | .ex n => some (.ex n)
  | .ct ρ2 => some (.ct ρ2) := by
  rw [forGo_cons]
  unfold turn
  cases b d ρ with
  | none => rfl
  | some ρ1 =>
    show Option.bind (f ρ1) _ = Option.bind (Option.bind (f ρ1) _) _
    cases f ρ1 with
    | none => rfl
    | some o => cases o <;> rfl
/-! statements one by one -/
theorem seq_nx {f g : SS} {ρ ρ' : Rho} {o : Option Out} (h : f ρ = some (.nx ρ')) (k : g ρ' = o) : sSeq f g ρ = o := by
  rw [sSeq_ap, h]; exact k
theorem seq_rt {f g : SS} {ρ : Rho} {d : D} (h : f ρ = some (.rt d)) : sSeq f g ρ = some (.rt d) := by
  rw [sSeq_ap, h]; rfl
theorem run_rt {n k : Nat} {f : SS} {ds : List D} {d : D} (hl : ds.length = k) (h : f (ds.map (fun d => some (Ent.val d)) ++ List.replicate (n - k) none) = some (.rt d)) : runF n k f ds = some d := by
  rw [runF_ap, if_pos hl, h]; rfl
theorem for_go {fi : SI} {b : SB} {ts : List Nat} {f : SS} {ρ : Rho} {ds : List D} {o : Option Out} (h : fi ρ = some ds) (k : forGo b ts f ds (drop ts ρ) = o) : sFor fi b ts f ρ = o := by
  rw [sFor_ap, h]; exact k
theorem turn_nx {b : SB} {ts : List Nat} {f : SS} {d : D} {ρ ρ1 ρ2 ρ3 : Rho} (h : b d ρ = some ρ1) (k : f ρ1 = some (.nx ρ2)) (e : drop ts ρ2 = ρ3) : turn b ts f d ρ = some (.nx ρ3) := by
  unfold turn; rw [h, Option.bind_some, k, ← e]; rfl
theorem turn_of {b : SB} {ts : List Nat} {f : SS} {d : D} {ρ ρ1 : Rho} {o : Option Out} (h : b d ρ = some ρ1) (k : ((f ρ1).bind fun o => match o with
  | .nx ρ2 => some (.nx (drop ts ρ2))
  | .ct ρ2 => some (.nx (drop ts ρ2))
  | .bk ρ2 => some (.bk (drop ts ρ2))
  | .rt d => some (.rt d)
  | .ex n => some (.ex n)) = o) : turn b ts f d ρ = o := by
  unfold turn; rw [h, Option.bind_some]; exact k
theorem if_t {c : ST} {f g : SS} {ρ : Rho} {o : Option Out} (h : c ρ = some true) (k : f ρ = o) : sIf c f g ρ = o := by
  rw [sIf_ap, h]; exact k
theorem if_f {c : ST} {f g : SS} {ρ : Rho} {o : Option Out} (h : c ρ = some false) (k : g ρ = o) : sIf c f g ρ = o := by
  rw [sIf_ap, h]; exact k
section
variable {α : Type} {b : SB} {ts : List Nat} {f : SS} {E : List α → Rho} {enc : α → D}
theorem forGo_preG (full : List α) : ∀ (xs done : List α), full = done ++ xs → (∀ pre x post, full = pre ++ x :: post → turn b ts f (enc x) (E pre) = some (.nx (E (pre ++ [x])))) →
    forGo b ts f (xs.map enc) (E done) = some (.nx (E full))
  | [], done, e, h => by rw [List.append_nil] at e; rw [e]; rfl
  | x :: xs, done, e, h => by
    have go := forGo_preG full xs (done ++ [x]) (by rw [e]; simp) h
    rw [List.map_cons, forGo_turn, h done x xs e, Option.bind_some]
    exact go
/-- E tells the names' values by what has been gone through -/
theorem forGo_pre (E : List α → Rho) (xs : List α) (h : ∀ pre x post, xs = pre ++ x :: post → turn b ts f (enc x) (E pre) = some (.nx (E (pre ++ [x])))) :
    forGo b ts f (xs.map enc) (E []) = some (.nx (E xs)) := forGo_preG xs xs [] rfl h
theorem forGo_retG (p : α → Bool) (d : α → D) (full : List α) : ∀ (xs done : List α), full = done ++ xs → done.all p = true → (∀ pre x post, full = pre ++ x :: post → pre.all p = true → turn b ts f (enc x) (E pre) = some (if p x = true then .nx (E (pre ++ [x])) else .rt (d x))) →
    forGo b ts f (xs.map enc) (E done) = match xs.find? (fun x => !p x) with | none => some (.nx (E full)) | some x => some (.rt (d x))
  | [], done, e, ha, h => by rw [List.append_nil] at e; rw [e]; rfl
  | x :: xs, done, e, ha, h => by
    have h1 := h done x xs e ha
    rw [List.map_cons, forGo_turn, h1, Option.bind_some, List.find?_cons]
    cases hp : p x with
    | true =>
      have go := forGo_retG p d full xs (done ++ [x]) (by rw [e]; simp) (by simp [List.all_append, ha, hp]) h
      simpa using go
    | false => simp
/-- a loop that may return: it does at the first where p fails -/
theorem forGo_find (E : List α → Rho) (p : α → Bool) (d : α → D) (xs : List α) (h : ∀ pre x post, xs = pre ++ x :: post → pre.all p = true → turn b ts f (enc x) (E pre) = some (if p x = true then .nx (E (pre ++ [x])) else .rt (d x))) :
    forGo b ts f (xs.map enc) (E []) = match xs.find? (fun x => !p x) with | none => some (.nx (E xs)) | some x => some (.rt (d x)) := forGo_retG p d xs xs [] rfl rfl h
theorem forGo_ret (E : List α → Rho) (p : α → Bool) (d : D) (xs : List α) (h : ∀ pre x post, xs = pre ++ x :: post → pre.all p = true → turn b ts f (enc x) (E pre) = some (if p x = true then .nx (E (pre ++ [x])) else .rt d)) :
    forGo b ts f (xs.map enc) (E []) = some (if xs.all p = true then .nx (E xs) else .rt d) := by
  rw [forGo_find E p (fun _ => d) xs h]
  cases e : xs.find? (fun x => !p x) with
  | none =>
    rw [List.find?_eq_none] at e
    rw [if_pos]
    rw [List.all_eq_true]
    intro x hx
    simpa using e x hx
  | some x =>
    have h1 := List.find?_some e
    have h2 := List.mem_of_find?_eq_some e
    rw [if_neg]
    intro ha
    have := List.all_eq_true.mp ha x h2
    rw [this] at h1
    cases h1
/-- a comprehension -/
theorem lcGo_mapE {b : SB} {fe : SE} {ρ : Rho} {enc : α → D} {g : α → D} (xs : List α) (h : ∀ x, x ∈ xs → ((b (enc x) ρ).bind fun ρ1 => (fe ρ1).bind Rs.stab) = some (g x)) : lcGo b bYes fe ρ (xs.map enc) = some (xs.map g) := lcGo_map xs fun x hx => by
  have q := h x hx
  obtain ⟨ρ1, h1, q⟩ := Option.bind_eq_some_iff.mp q
  obtain ⟨r, h2, h3⟩ := Option.bind_eq_some_iff.mp q
  exact ⟨ρ1, h1, r, h2, h3⟩
theorem lcGo_filterE {b : SB} {fc : ST} {fe : SE} {ρ : Rho} {enc : α → D} {p : α → Bool} {g : α → D} (xs : List α) (h : ∀ x, x ∈ xs → ((b (enc x) ρ).bind fc) = some (p x) ∧ (p x = true → ((b (enc x) ρ).bind fun ρ1 => (fe ρ1).bind Rs.stab) = some (g x))) :
    lcGo b fc fe ρ (xs.map enc) = some ((xs.filter p).map g) := lcGo_filter xs fun x hx => by
  obtain ⟨q1, q2⟩ := h x hx
  obtain ⟨ρ1, h1, q⟩ := Option.bind_eq_some_iff.mp q1
  refine ⟨ρ1, h1, q, fun hp => ?_⟩
  have q3 := q2 hp
  rw [h1, Option.bind_some] at q3
  obtain ⟨r, h2, h3⟩ := Option.bind_eq_some_iff.mp q3
  exact ⟨r, h2, h3⟩
theorem split_lt {xs pre post : List α} {x : α} (h : xs = pre ++ x :: post) : pre.length < xs.length := by rw [h]; simp
theorem split_mem {xs pre post : List α} {x : α} (h : xs = pre ++ x :: post) : x ∈ xs := by rw [h]; simp
theorem split_range {n x : Nat} {pre post : List Nat} (h : List.range n = pre ++ x :: post) : x = pre.length ∧ pre = List.range x ∧ x < n := by
  have hl := congrArg List.length h
  simp at hl
  have hx : x = pre.length := by
    have : (List.range n)[pre.length]? = some x := by rw [h]; simp
    rw [List.getElem?_range (by omega)] at this
    exact (Option.some.inj this).symm
  refine ⟨hx, ?_, by omega⟩
  have : (List.range n).take pre.length = pre := by rw [h]; simp
  rw [← this, List.take_range, Nat.min_eq_left (by omega), hx]
end
end DL

/-! text TH -/
set_option Elab.async false
set_option linter.all false
set_option autoImplicit false
/-! machines: the plain theory -/
namespace TH
abbrev Mach := List (Bool × List Nat)
def stM (m : Mach) (s : Nat) : Bool × List Nat := m.getD s (false, [])
def stepM (m : Mach) (s a : Nat) : Nat := (stM m s).2.getD a 0
def runM (m : Mach) (s : Nat) (w : List Nat) : Nat := w.foldl (stepM m) s
def goodM (m : Mach) (s : Nat) : Bool := (stM m s).1
def hasM (m : Mach) (w : List Nat) : Bool := goodM m (runM m 0 w)
/-- a machine of k letters -/
structure WF (m : Mach) (k : Nat) : Prop where
  ne : 0 < m.length
  wide : ∀ q ∈ m, q.2.length = k
  lt : ∀ q ∈ m, ∀ t ∈ q.2, t < m.length
def Wd (k : Nat) (w : List Nat) : Prop := ∀ a ∈ w, a < k
theorem Wd.nil {k : Nat} : Wd k [] := fun a h => by cases h
theorem Wd.cons {k a : Nat} {w : List Nat} (h : a < k) (hw : Wd k w) : Wd k (a :: w) := fun b hb => by
  rcases List.mem_cons.mp hb with e | e
  · rw [e]; exact h
  · exact hw b e
theorem Wd.head {k a : Nat} {w : List Nat} (h : Wd k (a :: w)) : a < k := h a (by simp)
theorem Wd.tail {k a : Nat} {w : List Nat} (h : Wd k (a :: w)) : Wd k w := fun b hb => h b (by simp [hb])
theorem Wd.append {k : Nat} {u v : List Nat} (h : Wd k u) (h' : Wd k v) : Wd k (u ++ v) := fun b hb => by
  rcases List.mem_append.mp hb with e | e
  · exact h b e
  · exact h' b e
section
variable {m : Mach} {k : Nat}
theorem stM_of {s : Nat} (hs : s < m.length) : stM m s = m[s] := by simp [stM, hs]
theorem stM_mem {s : Nat} (hs : s < m.length) : stM m s ∈ m := by rw [stM_of hs]; exact List.getElem_mem hs
theorem WF.len (h : WF m k) {s : Nat} (hs : s < m.length) : (stM m s).2.length = k := h.wide _ (stM_mem hs)
theorem getD_mem {l : List Nat} {a : Nat} (h : a < l.length) : l.getD a 0 ∈ l := by
  have : l.getD a 0 = l[a] := by simp [h]
  rw [this]; exact List.getElem_mem h
theorem WF.step_mem (h : WF m k) {s a : Nat} (ha : a < k) (hs : s < m.length) : stepM m s a ∈ (stM m s).2 := getD_mem (by rw [h.len hs]; exact ha)
theorem WF.step_lt (h : WF m k) {s a : Nat} (ha : a < k) (hs : s < m.length) : stepM m s a < m.length := h.lt _ (stM_mem hs) _ (h.step_mem ha hs)
theorem runM_nil (s : Nat) : runM m s [] = s := rfl
theorem runM_cons (s a : Nat) (w : List Nat) : runM m s (a :: w) = runM m (stepM m s a) w := rfl
theorem runM_append (s : Nat) (u v : List Nat) : runM m s (u ++ v) = runM m (runM m s u) v := by unfold runM; rw [List.foldl_append]
theorem WF.run_lt (h : WF m k) {w : List Nat} (hw : Wd k w) : ∀ {s : Nat}, s < m.length → runM m s w < m.length := by
  induction w with
  | nil => exact fun hs => hs
  | cons a w ih => exact fun hs => ih hw.tail (h.step_lt hw.head hs)
/-- from s on the same words are had -/
def Eqv (m : Mach) (k s : Nat) (m' : Mach) (t : Nat) : Prop := ∀ w, Wd k w → goodM m (runM m s w) = goodM m' (runM m' t w)
def EqN (m : Mach) (k n s t : Nat) : Prop := ∀ w, Wd k w → w.length ≤ n → goodM m (runM m s w) = goodM m (runM m t w)
theorem Eqv.refl (m : Mach) (k s : Nat) : Eqv m k s m s := fun w _ => rfl
theorem Eqv.symm {m' : Mach} {s t : Nat} (h : Eqv m k s m' t) : Eqv m' k t m s := fun w hw => (h w hw).symm
theorem Eqv.trans {m' m'' : Mach} {s t u : Nat} (h : Eqv m k s m' t) (h' : Eqv m' k t m'' u) : Eqv m k s m'' u := fun w hw => (h w hw).trans (h' w hw)
theorem Eqv.good {m' : Mach} {s t : Nat} (h : Eqv m k s m' t) : goodM m s = goodM m' t := h [] Wd.nil
theorem Eqv.step {m' : Mach} {s t a : Nat} (h : Eqv m k s m' t) (ha : a < k) : Eqv m k (stepM m s a) m' (stepM m' t a) := fun w hw => h (a :: w) (hw.cons ha)
theorem Eqv.run {m' : Mach} {s t : Nat} {w : List Nat} (h : Eqv m k s m' t) (hw : Wd k w) : Eqv m k (runM m s w) m' (runM m' t w) := fun v hv => by
  have := h (w ++ v) (hw.append hv)
  rw [runM_append, runM_append] at this
  exact this
theorem EqN.mono {n n' s t : Nat} (h : EqN m k n' s t) (l : n ≤ n') : EqN m k n s t := fun w hw hl => h w hw (Nat.le_trans hl l)
theorem EqN.zero {s t : Nat} : EqN m k 0 s t ↔ goodM m s = goodM m t := by
  constructor
  · exact fun h => h [] Wd.nil (Nat.le_refl 0)
  · intro h w _ hl
    have : w = [] := List.length_eq_zero_iff.mp (by omega)
    subst this; exact h
theorem EqN.succ {n s t : Nat} : EqN m k (n + 1) s t ↔ EqN m k n s t ∧ ∀ a, a < k → EqN m k n (stepM m s a) (stepM m t a) := by
  constructor
  · intro h
    refine ⟨h.mono (by omega), fun a ha w hw hl => h (a :: w) (hw.cons ha) (by simpa using hl)⟩
  · rintro ⟨h1, h2⟩ w hw hl
    cases w with
    | nil => exact h1 [] Wd.nil (by simp)
    | cons a w => exact h2 a hw.head w hw.tail (by simpa using hl)
theorem Eqv.toN {n s t : Nat} (h : Eqv m k s m t) : EqN m k n s t := fun w hw _ => h w hw
theorem eqv_of_N {s t : Nat} (h : ∀ n, EqN m k n s t) : Eqv m k s m t := fun w hw => h w.length w hw (Nat.le_refl _)
end

/-! ### numbering by signs -/
section
variable {α : Type} [BEq α] [LawfulBEq α]
def numbered (xs : List α) : List Nat := xs.map fun x => xs.idxOf x
theorem numbered_len (xs : List α) : (numbered xs).length = xs.length := by simp [numbered]
theorem numbered_get {xs : List α} {s : Nat} (hs : s < xs.length) : (numbered xs).getD s 0 = xs.idxOf xs[s] := by simp [numbered, hs]
theorem idxOf_le {xs : List α} {s : Nat} (hs : s < xs.length) : xs.idxOf xs[s] ≤ s := by
  induction xs generalizing s with
  | nil => simp at hs
  | cons x xs ih =>
    cases s with
    | zero => simp
    | succ s =>
      rw [List.getElem_cons_succ, List.idxOf_cons]
      have := ih (s := s) (by simpa using hs)
      cases x == xs[s]'(by simpa using hs) with
      | true => exact Nat.zero_le _
      | false => exact Nat.succ_le_succ this
theorem numbered_lt {xs : List α} {s : Nat} (hs : s < xs.length) : (numbered xs).getD s 0 < xs.length := by
  rw [numbered_get hs]; exact Nat.lt_of_le_of_lt (idxOf_le hs) hs
theorem numbered_le {xs : List α} {s : Nat} (hs : s < xs.length) : (numbered xs).getD s 0 ≤ s := by
  rw [numbered_get hs]; exact idxOf_le hs
theorem numbered_val {xs : List α} {s : Nat} (hs : s < xs.length) : xs[(numbered xs).getD s 0]'(numbered_lt hs) = xs[s] := by
  have h : xs.idxOf xs[s] < xs.length := Nat.lt_of_le_of_lt (idxOf_le hs) hs
  have : xs[xs.idxOf xs[s]] = xs[s] := List.getElem_idxOf h
  simp only [numbered_get hs]
  exact this
theorem numbered_eq {xs : List α} {s t : Nat} (hs : s < xs.length) (ht : t < xs.length) : (numbered xs).getD s 0 = (numbered xs).getD t 0 ↔ xs[s] = xs[t] := by
  constructor
  · intro h
    rw [← numbered_val hs, ← numbered_val ht]
    simp only [h]
  · intro h
    rw [numbered_get hs, numbered_get ht, h]
end

/-! ### classes -/
def cls0 (m : Mach) : List Nat := numbered (m.map (·.1))
def signs (m : Mach) (c : List Nat) : List (Nat × List Nat) := m.zipIdx.map fun p => (c.getD p.2 0, p.1.2.map fun t => c.getD t 0)
def clsStep (m : Mach) (c : List Nat) : List Nat := numbered (signs m c)
def clsLoop (m : Mach) : Nat → List Nat → List Nat
  | 0, c => c
  | n + 1, c => if clsStep m c = c then c else clsLoop m n (clsStep m c)
def cls (m : Mach) : List Nat := clsLoop m m.length (cls0 m)
/-- c tells the classes of R: the least of each -/
structure Rep (c : List Nat) (n : Nat) (R : Nat → Nat → Prop) : Prop where
  len : c.length = n
  le : ∀ s, s < n → c.getD s 0 ≤ s
  eq : ∀ s t, s < n → t < n → (c.getD s 0 = c.getD t 0 ↔ R s t)
  fix : ∀ s, s < n → c.getD (c.getD s 0) 0 = c.getD s 0
theorem Rep.lt {c : List Nat} {n : Nat} {R : Nat → Nat → Prop} (h : Rep c n R) {s : Nat} (hs : s < n) : c.getD s 0 < n := Nat.lt_of_le_of_lt (h.le s hs) hs
theorem Rep.rel {c : List Nat} {n : Nat} {R : Nat → Nat → Prop} (h : Rep c n R) {s : Nat} (hs : s < n) : R (c.getD s 0) s := (h.eq _ _ (h.lt hs) hs).mp (h.fix s hs)
theorem Rep.of_eq {c : List Nat} {n : Nat} {R R' : Nat → Nat → Prop} (h : Rep c n R) (e : ∀ s t, s < n → t < n → (R s t ↔ R' s t)) : Rep c n R' := ⟨h.len, h.le, fun s t hs ht => (h.eq s t hs ht).trans (e s t hs ht), h.fix⟩
theorem rep_numbered {α : Type} [BEq α] [LawfulBEq α] {xs : List α} {n : Nat} (hn : xs.length = n) {R : Nat → Nat → Prop} (h : ∀ s t (hs : s < xs.length) (ht : t < xs.length), xs[s] = xs[t] ↔ R s t) : Rep (numbered xs) n R := by
  subst hn
  refine ⟨numbered_len xs, fun s hs => numbered_le hs, fun s t hs ht => (numbered_eq hs ht).trans (h s t hs ht), fun s hs => ?_⟩
  exact (numbered_eq (numbered_lt hs) hs).mpr (numbered_val hs)
/-- two of the same relation are the same -/
theorem Rep.uniq {c d : List Nat} {n : Nat} {R : Nat → Nat → Prop} (h : Rep c n R) (h' : Rep d n R) : c = d := by
  apply List.ext_getElem (by rw [h.len, h'.len])
  intro i hi hi'
  have hn : i < n := by rw [← h.len]; exact hi
  have e1 : c.getD i 0 = c[i] := by simp [hi]
  have e2 : d.getD i 0 = d[i] := by simp [hi']
  rw [← e1, ← e2]
  have a := h.lt hn
  have b := h'.lt hn
  have p1 : c.getD (d.getD i 0) 0 = c.getD i 0 := (h.eq _ _ b hn).mpr (h'.rel hn)
  have p2 : d.getD (c.getD i 0) 0 = d.getD i 0 := (h'.eq _ _ a hn).mpr (h.rel hn)
  have q1 := h.le _ b
  have q2 := h'.le _ a
  omega
section
variable {m : Mach} {k : Nat}
theorem rep0 : Rep (cls0 m) m.length (EqN m k 0) := rep_numbered (by simp) fun s t hs ht => by
  rw [EqN.zero]
  simp at hs ht
  simp [goodM, stM, hs, ht]
theorem map_getD_eq {k : Nat} {l l' : List Nat} (hl : l.length = k) (hl' : l'.length = k) (f : Nat → Nat) : l.map f = l'.map f ↔ ∀ a, a < k → f (l.getD a 0) = f (l'.getD a 0) := by
  constructor
  · intro h a ha
    have h1 : (l.map f)[a]? = (l'.map f)[a]? := by rw [h]
    rw [List.getElem?_map, List.getElem?_map, List.getElem?_eq_getElem (by omega), List.getElem?_eq_getElem (by omega)] at h1
    have e1 : l.getD a 0 = l[a]'(by omega) := by simp [hl, ha]
    have e2 : l'.getD a 0 = l'[a]'(by omega) := by simp [hl', ha]
    rw [e1, e2]
    simpa using h1
  · intro h
    apply List.ext_getElem (by simp [hl, hl'])
    intro i hi hi'
    simp at hi hi'
    have := h i (by omega)
    have e1 : l.getD i 0 = l[i] := by simp [hi]
    have e2 : l'.getD i 0 = l'[i] := by simp [hi']
    rw [e1, e2] at this
    simpa using this
theorem signs_len (c : List Nat) : (signs m c).length = m.length := by simp [signs]
theorem rep_step (h : WF m k) {c : List Nat} {n : Nat} (r : Rep c m.length (EqN m k n)) : Rep (clsStep m c) m.length (EqN m k (n + 1)) := rep_numbered (signs_len c) fun s t hs ht => by
  rw [signs_len] at hs ht
  rw [EqN.succ]
  simp only [signs, List.getElem_map, List.getElem_zipIdx, Nat.zero_add, Prod.mk.injEq]
  refine and_congr (r.eq s t hs ht) ?_
  rw [map_getD_eq (k := k) (h.wide _ (List.getElem_mem hs)) (h.wide _ (List.getElem_mem ht))]
  refine forall_congr' fun a => forall_congr' fun ha => ?_
  have e1 : (m[s]).2.getD a 0 = stepM m s a := by unfold stepM; rw [stM_of hs]
  have e2 : (m[t]).2.getD a 0 = stepM m t a := by unfold stepM; rw [stM_of ht]
  rw [e1, e2]
  exact r.eq _ _ (h.step_lt ha hs) (h.step_lt ha ht)
/-- once they stand still -/
theorem eqN_still (h : WF m k) {n : Nat} (e : ∀ s t, s < m.length → t < m.length → EqN m k n s t → EqN m k (n + 1) s t) : ∀ j, ∀ s t, s < m.length → t < m.length → EqN m k n s t → EqN m k (n + j) s t := by
  intro j
  induction j with
  | zero => exact fun s t _ _ h => h
  | succ j ih =>
    intro s t hs ht hst
    have h1 := EqN.succ.mp (e s t hs ht hst)
    exact EqN.succ.mpr ⟨ih s t hs ht hst, fun a ha => ih _ _ (h.step_lt ha hs) (h.step_lt ha ht) (h1.2 a ha)⟩
theorem eqv_still (h : WF m k) {n : Nat} (e : ∀ s t, s < m.length → t < m.length → EqN m k n s t → EqN m k (n + 1) s t) {s t : Nat} (hs : s < m.length) (ht : t < m.length) : EqN m k n s t ↔ Eqv m k s m t := by
  refine ⟨fun q => eqv_of_N fun j => ?_, fun q => q.toN⟩
  exact (eqN_still h e j s t hs ht q).mono (by omega)
def reps (c : List Nat) (n : Nat) : List Nat := (List.range n).filter fun s => c.getD s 0 == s
theorem reps_sub (h : WF m k) {c d : List Nat} {n : Nat} (r : Rep c m.length (EqN m k n)) (r' : Rep d m.length (EqN m k (n + 1))) {s : Nat} (hs : s < m.length) (e : c.getD s 0 = s) : d.getD s 0 = s := by
  have h1 := r'.rel hs
  have h2 := (r.eq _ _ (r'.lt hs) hs).mpr (h1.mono (by omega))
  have h3 := r.le _ (r'.lt hs)
  have h4 := r'.le s hs
  omega
theorem reps_same (h : WF m k) {c d : List Nat} {n : Nat} (r : Rep c m.length (EqN m k n)) (r' : Rep d m.length (EqN m k (n + 1))) (e : ∀ s, s < m.length → d.getD s 0 = s → c.getD s 0 = s) : d = c := by
  apply List.ext_getElem (by rw [r.len, r'.len])
  intro i hi hi'
  have hn : i < m.length := by rw [← r.len]; exact hi'
  have e1 : c.getD i 0 = c[i] := by simp [hi']
  have e2 : d.getD i 0 = d[i] := by simp [hi]
  rw [← e1, ← e2]
  have h1 := e _ (r'.lt hn) (r'.fix i hn)
  rw [← h1]
  exact (r.eq _ _ (r'.lt hn) hn).mpr ((r'.rel hn).mono (by omega))
theorem filter_lt {n : Nat} {p q : Nat → Bool} (hpq : ∀ s, s < n → p s = true → q s = true) {x : Nat} (hx : x < n) (hq : q x = true) (hp : p x = false) : ((List.range n).filter p).length < ((List.range n).filter q).length := by
  rw [← List.countP_eq_length_filter, ← List.countP_eq_length_filter]
  induction n with
  | zero => omega
  | succ n ih =>
    rw [List.range_succ, List.countP_append, List.countP_append, List.countP_singleton, List.countP_singleton]
    by_cases e : x = n
    · subst e
      have := List.countP_mono_left (l := List.range x) (p := p) (q := q) fun y hy => hpq y (by have := List.mem_range.mp hy; omega)
      rw [hp, hq]
      simp
      omega
    · have := ih (fun s hs => hpq s (by omega)) (by omega)
      have h2 := hpq n (by omega)
      cases hpn : p n with
      | false => simp; omega
      | true => rw [h2 hpn]; simp; omega
/-- the loop comes to the classes of Eqv, and stands still there -/
theorem clsLoop_ok (h : WF m k) : ∀ (f : Nat) (c : List Nat) (n : Nat), Rep c m.length (EqN m k n) → m.length < f + (reps c m.length).length → ∃ j, Rep (clsLoop m f c) m.length (EqN m k (n + j)) ∧ clsStep m (clsLoop m f c) = clsLoop m f c ∧ j ≤ f := by
  intro f
  induction f with
  | zero =>
    intro c n r hf
    have : (reps c m.length).length ≤ m.length := by
      unfold reps
      have := List.length_filter_le (fun s => c.getD s 0 == s) (List.range m.length)
      simpa using this
    omega
  | succ f ih =>
    intro c n r hf
    unfold clsLoop
    split
    · rename_i e
      exact ⟨0, r, e, by omega⟩
    · rename_i e
      have r' := rep_step h r
      have lt : (reps c m.length).length < (reps (clsStep m c) m.length).length := by
        refine Classical.byContradiction fun q => e (reps_same h r r' fun s hs hd => ?_)
        refine Classical.byContradiction fun q' => q ?_
        exact filter_lt (fun s hs hc => by simpa using reps_sub h r r' hs (by simpa using hc)) hs (by simpa using hd) (by simpa using q')
      obtain ⟨j, h1, h2, h3⟩ := ih (clsStep m c) (n + 1) r' (by omega)
      exact ⟨j + 1, by rw [show n + (j + 1) = n + 1 + j by omega]; exact h1, h2, by omega⟩
theorem reps0_pos (h : WF m k) {c : List Nat} {R : Nat → Nat → Prop} (r : Rep c m.length R) : 0 < (reps c m.length).length := by
  have h0 := r.le 0 h.ne
  have : 0 ∈ reps c m.length := by
    unfold reps
    rw [List.mem_filter]
    exact ⟨List.mem_range.mpr h.ne, by simp; simpa using h0⟩
  exact List.length_pos_of_mem this
theorem cls_ok (h : WF m k) : ∃ j, j ≤ m.length ∧ Rep (cls m) m.length (EqN m k j) ∧ clsStep m (cls m) = cls m := by
  obtain ⟨j, h1, h2, h3⟩ := clsLoop_ok h m.length (cls0 m) 0 rep0 (by have := reps0_pos h (rep0 (m := m) (k := k)); omega)
  exact ⟨j, h3, by rw [Nat.zero_add] at h1; exact h1, h2⟩
theorem still_of (h : WF m k) {c : List Nat} {n : Nat} (r : Rep c m.length (EqN m k n)) (e : clsStep m c = c) {s t : Nat} (hs : s < m.length) (ht : t < m.length) : EqN m k n s t ↔ Eqv m k s m t := by
  refine eqv_still h (fun s t hs ht q => ?_) hs ht
  have r' := rep_step h r
  rw [e] at r'
  exact (r'.eq s t hs ht).mp ((r.eq s t hs ht).mpr q)
theorem cls_rep (h : WF m k) : Rep (cls m) m.length (fun s t => Eqv m k s m t) := by
  obtain ⟨j, _, r, e⟩ := cls_ok h
  exact r.of_eq fun s t hs ht => still_of h r e hs ht
/-- words up to as many letters as there are states tell all -/
theorem eqN_all (h : WF m k) {s t : Nat} (hs : s < m.length) (ht : t < m.length) : EqN m k m.length s t ↔ Eqv m k s m t := by
  obtain ⟨j, hj, r, e⟩ := cls_ok h
  exact ⟨fun q => (still_of h r e hs ht).mp (q.mono hj), fun q => q.toN⟩
end

/-! ### merged -/
def mapM (f : Nat → Nat) (m : Mach) : Mach := m.map fun q => (q.1, q.2.map f)
def merged (m : Mach) : Mach := mapM (fun t => (cls m).getD t 0) m
section
variable {m : Mach} {k : Nat}
theorem mapM_len (f : Nat → Nat) : (mapM f m).length = m.length := by simp [mapM]
theorem mapM_st (f : Nat → Nat) {s : Nat} (hs : s < m.length) : stM (mapM f m) s = ((stM m s).1, (stM m s).2.map f) := by
  rw [stM_of (by rw [mapM_len]; exact hs), stM_of hs]
  simp [mapM]
theorem mapM_good (f : Nat → Nat) {s : Nat} (hs : s < m.length) : goodM (mapM f m) s = goodM m s := by unfold goodM; rw [mapM_st f hs]
theorem mapM_step (h : WF m k) (f : Nat → Nat) {s a : Nat} (hs : s < m.length) (ha : a < k) : stepM (mapM f m) s a = f (stepM m s a) := by
  unfold stepM
  rw [mapM_st f hs]
  have := h.len hs
  simp [this, ha]
theorem mapM_wf (h : WF m k) {f : Nat → Nat} (hf : ∀ t, t < m.length → f t < m.length) : WF (mapM f m) k where
  ne := by rw [mapM_len]; exact h.ne
  wide := fun q hq => by
    simp only [mapM, List.mem_map] at hq
    obtain ⟨p, hp, rfl⟩ := hq
    simpa using h.wide p hp
  lt := fun q hq t ht => by
    rw [mapM_len]
    simp only [mapM, List.mem_map] at hq
    obtain ⟨p, hp, rfl⟩ := hq
    simp only [List.mem_map] at ht
    obtain ⟨u, hu, rfl⟩ := ht
    exact hf u (h.lt p hp u hu)
theorem merged_wf (h : WF m k) : WF (merged m) k := mapM_wf h fun t ht => (cls_rep h).lt ht
theorem merged_len : (merged m).length = m.length := mapM_len _
theorem merged_eqv (h : WF m k) {s : Nat} (hs : s < m.length) : Eqv (merged m) k s m s := by
  have r := cls_rep h
  intro w hw
  have key : ∀ (w : List Nat), Wd k w → ∀ s t, s < m.length → t < m.length → Eqv m k s m t → goodM (merged m) (runM (merged m) s w) = goodM m (runM m t w) := by
    intro w
    induction w with
    | nil => exact fun _ s t hs ht q => (mapM_good _ hs).trans q.good
    | cons a w ih =>
      intro hw s t hs ht q
      rw [runM_cons, runM_cons]
      have e : stepM (merged m) s a = (cls m).getD (stepM m s a) 0 := mapM_step h _ hs hw.head
      rw [e]
      refine ih hw.tail _ _ (r.lt (h.step_lt hw.head hs)) (h.step_lt hw.head ht) ?_
      exact (r.rel (h.step_lt hw.head hs)).trans (q.step hw.head)
  exact key w hw s s hs hs (Eqv.refl m k s)
/-- a state that stands for its class -/
def Fix (m : Mach) (s : Nat) : Prop := (cls m).getD s 0 = s
theorem fix0 (h : WF m k) : Fix m 0 := by
  have := (cls_rep h).le 0 h.ne
  unfold Fix; omega
theorem fix_step (h : WF m k) {s a : Nat} (hs : s < m.length) (ha : a < k) : Fix m (stepM (merged m) s a) := by
  have e : stepM (merged m) s a = (cls m).getD (stepM m s a) 0 := mapM_step h _ hs ha
  unfold Fix
  rw [e]
  exact (cls_rep h).fix _ (h.step_lt ha hs)
theorem fix_eq (h : WF m k) {s t : Nat} (hs : s < m.length) (ht : t < m.length) (fs : Fix m s) (ft : Fix m t) (e : Eqv m k s m t) : s = t := by
  have := ((cls_rep h).eq s t hs ht).mpr e
  unfold Fix at fs ft
  omega
end

/-! ### the order in which states are come to -/
def ins (o : List Nat) (ss : List Nat) : List Nat := ss.foldl (fun o s => if s ∈ o then o else o ++ [s]) o
def bfsGo (m : Mach) : Nat → Nat → List Nat → List Nat
  | 0, _, o => o
  | f + 1, at_, o => if at_ < o.length then bfsGo m f (at_ + 1) (ins o (stM m (o.getD at_ 0)).2) else o
def bfs (m : Mach) : List Nat := bfsGo m (m.length + 1) 0 [0]
theorem ins_nil (o : List Nat) : ins o [] = o := rfl
theorem ins_cons (o : List Nat) (s : Nat) (ss : List Nat) : ins o (s :: ss) = ins (if s ∈ o then o else o ++ [s]) ss := rfl
theorem ins_pre : ∀ (ss o : List Nat), ∃ l, ins o ss = o ++ l
  | [], o => ⟨[], by simp [ins_nil]⟩
  | s :: ss, o => by
    rw [ins_cons]
    split
    · exact ins_pre ss o
    · obtain ⟨l, h⟩ := ins_pre ss (o ++ [s])
      exact ⟨s :: l, by rw [h]; simp⟩
theorem ins_mem {x : Nat} : ∀ {ss o : List Nat}, x ∈ ins o ss ↔ x ∈ o ∨ x ∈ ss
  | [], o => by simp [ins_nil]
  | s :: ss, o => by
    rw [ins_cons, ins_mem (ss := ss)]
    by_cases h : s ∈ o
    · rw [if_pos h, List.mem_cons]
      constructor
      · rintro (q | q)
        · exact .inl q
        · exact .inr (.inr q)
      · rintro (q | q | q)
        · exact .inl q
        · subst q; exact .inl h
        · exact .inr q
    · rw [if_neg h, List.mem_append, List.mem_singleton, List.mem_cons]
      constructor
      · rintro ((q | q) | q)
        · exact .inl q
        · exact .inr (.inl q)
        · exact .inr (.inr q)
      · rintro (q | q | q)
        · exact .inl (.inl q)
        · exact .inl (.inr q)
        · exact .inr q
theorem ins_nodup : ∀ {ss o : List Nat}, o.Nodup → (ins o ss).Nodup
  | [], o, h => h
  | s :: ss, o, h => by
    rw [ins_cons]
    apply ins_nodup
    split
    · exact h
    · rename_i q
      rw [List.nodup_append]
      refine ⟨h, by simp, fun a ha b hb => ?_⟩
      rw [List.mem_singleton] at hb
      subst hb
      intro e; subst e; exact q ha
theorem nodup_le : ∀ {n : Nat} {o : List Nat}, o.Nodup → (∀ x ∈ o, x < n) → o.length ≤ n
  | 0, o, _, hl => by
    cases o with
    | nil => simp
    | cons a o => exact absurd (hl a (by simp)) (by omega)
  | n + 1, o, hn, hl => by
    have h1 := nodup_le (n := n) (o := o.erase n) (hn.erase n) fun x hx => by
      have := (List.Nodup.mem_erase_iff hn).mp hx
      have := hl x this.2
      omega
    have h2 : o.length ≤ (o.erase n).length + 1 := by
      by_cases q : n ∈ o
      · have := List.length_erase_of_mem q
        omega
      · rw [List.erase_of_not_mem q]; omega
    omega
/-- what stands in the order, all through -/
structure Ord (m : Mach) (o : List Nat) : Prop where
  nd : o.Nodup
  lt : ∀ x ∈ o, x < m.length
  hd : o[0]? = some 0
theorem Ord.ins {m : Mach} {k : Nat} (h : WF m k) {o : List Nat} (r : Ord m o) {s : Nat} (hs : s < m.length) : Ord m (ins o (stM m s).2) := by
  refine ⟨ins_nodup r.nd, fun x hx => ?_, ?_⟩
  · rcases ins_mem.mp hx with q | q
    · exact r.lt x q
    · exact h.lt _ (stM_mem hs) x q
  · obtain ⟨l, e⟩ := ins_pre (stM m s).2 o
    rw [e]
    have := r.hd
    rw [List.getElem?_append_left (by cases o with | nil => simp at this | cons => simp)]
    exact this
/-- all that are gone through have their steps in -/
def Closed (m : Mach) (o : List Nat) (n : Nat) : Prop := ∀ i, i < n → ∀ s, o[i]? = some s → ∀ t ∈ (stM m s).2, t ∈ o
theorem getD_of {o : List Nat} {i : Nat} (h : i < o.length) : o[i]? = some (o.getD i 0) := by simp [h]
theorem bfsGo_ok {m : Mach} {k : Nat} (h : WF m k) : ∀ (f at_ : Nat) (o : List Nat), Ord m o → Closed m o at_ → at_ ≤ o.length → m.length < f + at_ → Ord m (bfsGo m f at_ o) ∧ Closed m (bfsGo m f at_ o) (bfsGo m f at_ o).length := by
  intro f
  induction f with
  | zero =>
    intro at_ o r c hl hf
    have := nodup_le r.nd r.lt
    omega
  | succ f ih =>
    intro at_ o r c hl hf
    unfold bfsGo
    split
    · rename_i hlt
      have hs : o.getD at_ 0 < m.length := r.lt _ (by have := getD_of hlt; exact List.mem_of_getElem? this)
      obtain ⟨l, e⟩ := ins_pre (stM m (o.getD at_ 0)).2 o
      refine ih (at_ + 1) _ (r.ins h hs) (fun i hi s hsi t ht => ?_) ?_ (by omega)
      · have hi' : i < o.length := by omega
        have hso : o[i]? = some s := by
          rw [e, List.getElem?_append_left hi'] at hsi
          exact hsi
        by_cases q : i = at_
        · subst q
          rw [getD_of hlt] at hso
          cases hso
          exact ins_mem.mpr (.inr ht)
        · exact ins_mem.mpr (.inl (c i (by omega) s hso t ht))
      · rw [e, List.length_append]; omega
    · exact ⟨r, fun i hi => c i (by omega)⟩
theorem ord0 {m : Mach} {k : Nat} (h : WF m k) : Ord m [0] := ⟨by simp, by simpa using h.ne, rfl⟩
theorem bfs_ok {m : Mach} {k : Nat} (h : WF m k) : Ord m (bfs m) ∧ Closed m (bfs m) (bfs m).length := bfsGo_ok h _ 0 [0] (ord0 h) (fun i hi => by omega) (by simp) (by omega)
/-- two orders side by side -/
inductive All2 (R : Nat → Nat → Prop) : List Nat → List Nat → Prop
  | nil : All2 R [] []
  | cons {a b : Nat} {l l' : List Nat} : R a b → All2 R l l' → All2 R (a :: l) (b :: l')
theorem All2.length {R : Nat → Nat → Prop} : ∀ {l l' : List Nat}, All2 R l l' → l.length = l'.length
  | _, _, .nil => rfl
  | _, _, .cons _ h => congrArg (· + 1) h.length
theorem All2.get {R : Nat → Nat → Prop} : ∀ {l l' : List Nat} {i : Nat}, All2 R l l' → i < l.length → R (l.getD i 0) (l'.getD i 0)
  | _, _, _, .nil, h => by simp at h
  | _, _, 0, .cons h _, _ => h
  | _, _, i + 1, .cons _ t, h => by simpa using All2.get (i := i) t (by simpa using h)
theorem All2.snoc {R : Nat → Nat → Prop} {a b : Nat} (r : R a b) : ∀ {l l' : List Nat}, All2 R l l' → All2 R (l ++ [a]) (l' ++ [b])
  | _, _, .nil => .cons r .nil
  | _, _, .cons h t => .cons h (t.snoc r)
theorem All2.of {R : Nat → Nat → Prop} : ∀ {l l' : List Nat}, l.length = l'.length → (∀ i, i < l.length → R (l.getD i 0) (l'.getD i 0)) → All2 R l l'
  | [], [], _, _ => .nil
  | a :: l, b :: l', e, h => .cons (by simpa using h 0 (by simp)) (All2.of (by simpa using e) fun i hi => by simpa using h (i + 1) (by simpa using hi))
  | [], _ :: _, e, _ => by simp at e
  | _ :: _, [], e, _ => by simp at e
/-- R is one to one on D, D' -/
def One (R : Nat → Nat → Prop) : Prop := ∀ s s' t t', R s s' → R t t' → (s = t ↔ s' = t')
theorem All2.mem {R : Nat → Nat → Prop} (u : One R) {a b : Nat} (r : R a b) : ∀ {l l' : List Nat}, All2 R l l' → (a ∈ l ↔ b ∈ l')
  | _, _, .nil => by simp
  | _, _, .cons h t => by
    rw [List.mem_cons, List.mem_cons, t.mem u r, u _ _ _ _ r h]
theorem All2.ins {R : Nat → Nat → Prop} (u : One R) : ∀ {ss ss' o o' : List Nat}, All2 R ss ss' → All2 R o o' → All2 R (ins o ss) (ins o' ss')
  | _, _, _, _, .nil, h => h
  | s :: ss, s' :: ss', o, o', .cons r t, h => by
    rw [ins_cons, ins_cons]
    refine All2.ins u t ?_
    by_cases q : s ∈ o
    · rw [if_pos q, if_pos ((h.mem u r).mp q)]; exact h
    · rw [if_neg q, if_neg fun z => q ((h.mem u r).mpr z)]; exact h.snoc r
/-- R goes along -/
structure Sim (m m' : Mach) (R : Nat → Nat → Prop) : Prop where
  one : One R
  st : ∀ s s', R s s' → All2 R (stM m s).2 (stM m' s').2
  gd : ∀ s s', R s s' → goodM m s = goodM m' s'
theorem bfsGo_sim {m m' : Mach} {R : Nat → Nat → Prop} (S : Sim m m' R) : ∀ (f f' at_ : Nat) (o o' : List Nat), All2 R o o' → (bfsGo m f at_ o).length < f + at_ → (bfsGo m' f' at_ o').length < f' + at_ → All2 R (bfsGo m f at_ o) (bfsGo m' f' at_ o') := by
  intro f
  induction f with
  | zero =>
    intro f' at_ o o' h h1 h2
    have h1 : o.length < 0 + at_ := h1
    cases f' with
    | zero => exact h
    | succ f' =>
      unfold bfsGo
      rw [if_neg (by rw [← h.length]; omega)]
      exact h
  | succ f ih =>
    intro f' at_ o o' h h1 h2
    cases f' with
    | zero =>
      have h2 : o'.length < 0 + at_ := h2
      unfold bfsGo
      rw [if_neg (by rw [h.length]; omega)]
      exact h
    | succ f' =>
      unfold bfsGo at h1 h2 ⊢
      by_cases q : at_ < o.length
      · have q' : at_ < o'.length := by rw [← h.length]; exact q
        rw [if_pos q] at h1 ⊢
        rw [if_pos q'] at h2 ⊢
        exact ih f' (at_ + 1) _ _ (All2.ins S.one (S.st _ _ (h.get q)) h) (by omega) (by omega)
      · have q' : ¬ at_ < o'.length := by rw [← h.length]; exact q
        rw [if_neg q, if_neg q']
        exact h
theorem bfs_len {m : Mach} {k : Nat} (h : WF m k) : (bfs m).length ≤ m.length := nodup_le (bfs_ok h).1.nd (bfs_ok h).1.lt
theorem bfs_sim {m m' : Mach} {k k' : Nat} (h : WF m k) (h' : WF m' k') {R : Nat → Nat → Prop} (S : Sim m m' R) (r0 : R 0 0) : All2 R (bfs m) (bfs m') :=
  bfsGo_sim S _ _ 0 _ _ (.cons r0 .nil) (by have := bfs_len h; unfold bfs at this; omega) (by have := bfs_len h'; unfold bfs at this; omega)

/-! ### numbered anew -/
def renum (m : Mach) (o : List Nat) : Mach := o.map fun s => (goodM m s, (stM m s).2.map fun t => o.idxOf t)
def least (m : Mach) : Mach := renum (merged m) (bfs (merged m))
theorem All2.idx {R : Nat → Nat → Prop} (u : One R) {a b : Nat} (r : R a b) : ∀ {l l' : List Nat}, All2 R l l' → l.idxOf a = l'.idxOf b
  | _, _, .nil => rfl
  | x :: l, y :: l', .cons h t => by
    rw [List.idxOf_cons, List.idxOf_cons, t.idx u r]
    have : (x == a) = (y == b) := by
      rw [Bool.eq_iff_iff]
      simpa using u _ _ _ _ h r
    rw [this]
theorem All2.map_eq {R : Nat → Nat → Prop} {α : Type} {f g : Nat → α} (e : ∀ a b, R a b → f a = g b) : ∀ {l l' : List Nat}, All2 R l l' → l.map f = l'.map g
  | _, _, .nil => rfl
  | _, _, .cons h t => by rw [List.map_cons, List.map_cons, e _ _ h, t.map_eq e]
theorem renum_sim {m m' : Mach} {R : Nat → Nat → Prop} (S : Sim m m' R) {o o' : List Nat} (h : All2 R o o') : renum m o = renum m' o' := by
  unfold renum
  refine h.map_eq fun a b r => ?_
  rw [S.gd a b r, (S.st a b r).map_eq (f := fun t => o.idxOf t) (g := fun t => o'.idxOf t) fun x y q => h.idx S.one q]
section
variable {m : Mach} {k : Nat}
theorem idxOf_getD {o : List Nat} (nd : o.Nodup) {i : Nat} (hi : i < o.length) : o.idxOf (o.getD i 0) = i := by
  have : o.getD i 0 = o[i] := by simp [hi]
  rw [this]
  exact nd.idxOf_getElem i hi
theorem getD_idxOf {o : List Nat} {s : Nat} (h : s ∈ o) : o.getD (o.idxOf s) 0 = s := by
  have hl := List.idxOf_lt_length_of_mem h
  have : o.getD (o.idxOf s) 0 = o[o.idxOf s] := by simp [hl]
  rw [this]
  exact List.getElem_idxOf hl
theorem renum_len (m : Mach) (o : List Nat) : (renum m o).length = o.length := by simp [renum]
theorem renum_st {o : List Nat} {i : Nat} (hi : i < o.length) : stM (renum m o) i = (goodM m (o.getD i 0), (stM m (o.getD i 0)).2.map fun t => o.idxOf t) := by
  rw [stM_of (by rw [renum_len]; exact hi)]
  simp [renum, hi]
theorem ord_pos {o : List Nat} (r : Ord m o) : 0 < o.length := by
  have := r.hd
  cases o with
  | nil => simp at this
  | cons => simp
theorem renum_wf (h : WF m k) {o : List Nat} (r : Ord m o) (c : Closed m o o.length) : WF (renum m o) k where
  ne := by rw [renum_len]; exact ord_pos r
  wide := fun q hq => by
    simp only [renum, List.mem_map] at hq
    obtain ⟨s, hs, rfl⟩ := hq
    simpa using h.len (r.lt s hs)
  lt := fun q hq t ht => by
    rw [renum_len]
    simp only [renum, List.mem_map] at hq
    obtain ⟨s, hs, rfl⟩ := hq
    simp only [List.mem_map] at ht
    obtain ⟨u, hu, rfl⟩ := ht
    obtain ⟨i, hi, e⟩ := List.mem_iff_getElem.mp hs
    exact List.idxOf_lt_length_of_mem (c i hi s (by simp [hi, e]) u hu)
/-- the machine numbered anew goes along with the old one -/
theorem renum_goes (h : WF m k) {o : List Nat} (r : Ord m o) (c : Closed m o o.length) : ∀ (w : List Nat), Wd k w → ∀ i, i < o.length → goodM (renum m o) (runM (renum m o) i w) = goodM m (runM m (o.getD i 0) w) := by
  intro w
  induction w with
  | nil =>
    intro _ i hi
    show goodM (renum m o) i = goodM m (o.getD i 0)
    unfold goodM
    rw [renum_st hi]
    rfl
  | cons a w ih =>
    intro hw i hi
    have hs := r.lt (o.getD i 0) (List.mem_of_getElem? (getD_of hi))
    have hm : stepM m (o.getD i 0) a ∈ o := c i hi _ (getD_of hi) _ (h.step_mem hw.head hs)
    have e : stepM (renum m o) i a = o.idxOf (stepM m (o.getD i 0) a) := by
      unfold stepM
      rw [renum_st hi]
      have := h.len hs
      simp only [List.getD_eq_getElem?_getD] at this ⊢
      simp [this, hw.head]
    rw [runM_cons, runM_cons, e, ih hw.tail _ (List.idxOf_lt_length_of_mem hm), getD_idxOf hm]
theorem renum_eqv (h : WF m k) {o : List Nat} (r : Ord m o) (c : Closed m o o.length) {i : Nat} (hi : i < o.length) : Eqv (renum m o) k i m (o.getD i 0) := fun w hw => renum_goes h r c w hw i hi
theorem ord_hd {o : List Nat} (r : Ord m o) : o.getD 0 0 = 0 := by
  have := r.hd
  simp [List.getD_eq_getElem?_getD, this]
theorem least_wf (h : WF m k) : WF (least m) k := by
  have b := bfs_ok (merged_wf h)
  exact renum_wf (merged_wf h) b.1 b.2
theorem least_eqv (h : WF m k) : Eqv (least m) k 0 m 0 := by
  have b := bfs_ok (merged_wf h)
  have := renum_eqv (merged_wf h) b.1 b.2 (ord_pos b.1)
  rw [ord_hd b.1] at this
  exact this.trans (merged_eqv h h.ne)
theorem least_has (h : WF m k) {w : List Nat} (hw : Wd k w) : hasM (least m) w = hasM m w := least_eqv h w hw
/-! the same words, the same least machine -/
theorem wf_all2 {m' : Mach} (h : WF m k) (h' : WF m' k) {R : Nat → Nat → Prop} {s s' : Nat} (hs : s < m.length) (hs' : s' < m'.length) (e : ∀ a, a < k → R (stepM m s a) (stepM m' s' a)) : All2 R (stM m s).2 (stM m' s').2 := by
  refine All2.of (by rw [h.len hs, h'.len hs']) fun i hi => ?_
  rw [h.len hs] at hi
  exact e i hi
theorem least_same {m' : Mach} (h : WF m k) (h' : WF m' k) (e : Eqv m k 0 m' 0) : least m = least m' := by
  have w := merged_wf h
  have w' := merged_wf h'
  let R : Nat → Nat → Prop := fun s s' => s < m.length ∧ s' < m'.length ∧ Fix m s ∧ Fix m' s' ∧ Eqv m k s m' s'
  have S : Sim (merged m) (merged m') R := by
    refine ⟨?_, ?_, ?_⟩
    · rintro s s' t t' ⟨a1, a2, a3, a4, a5⟩ ⟨b1, b2, b3, b4, b5⟩
      constructor
      · intro q; subst q
        exact fix_eq h' a2 b2 a4 b4 (a5.symm.trans b5)
      · intro q; subst q
        exact fix_eq h a1 b1 a3 b3 (a5.trans b5.symm)
    · rintro s s' ⟨a1, a2, a3, a4, a5⟩
      refine wf_all2 w w' (by rw [merged_len]; exact a1) (by rw [merged_len]; exact a2) fun a ha => ?_
      have l1 := w.step_lt ha (show s < (merged m).length by rw [merged_len]; exact a1)
      have l2 := w'.step_lt ha (show s' < (merged m').length by rw [merged_len]; exact a2)
      rw [merged_len] at l1 l2
      refine ⟨l1, l2, fix_step h a1 ha, fix_step h' a2 ha, ?_⟩
      have q := ((merged_eqv h a1).trans (a5.trans (merged_eqv h' a2).symm)).step ha
      exact (merged_eqv h l1).symm.trans (q.trans (merged_eqv h' l2))
    · rintro s s' ⟨a1, a2, a3, a4, a5⟩
      exact (merged_eqv h a1).good.trans (a5.good.trans (merged_eqv h' a2).good.symm)
  exact renum_sim S (bfs_sim w w' S ⟨h.ne, h'.ne, fix0 h, fix0 h', e⟩)
/-! which machines are least -/
structure IsLeast (m : Mach) (k : Nat) : Prop where
  wf : WF m k
  ord : bfs m = List.range m.length
  diff : ∀ s t, s < m.length → t < m.length → Eqv m k s m t → s = t
theorem least_isLeast (h : WF m k) : IsLeast (least m) k := by
  have w := merged_wf h
  have b := bfs_ok w
  have wl := least_wf h
  have ll : (least m).length = (bfs (merged m)).length := renum_len _ _
  have inm : ∀ i, i < (bfs (merged m)).length → (bfs (merged m)).getD i 0 ∈ bfs (merged m) := fun i hi => List.mem_of_getElem? (getD_of hi)
  have lt : ∀ i, i < (bfs (merged m)).length → (bfs (merged m)).getD i 0 < m.length := fun i hi => by
    have := b.1.lt _ (inm i hi)
    rw [merged_len] at this; exact this
  -- all in the order stand for their classes
  let R : Nat → Nat → Prop := fun i s => i < (bfs (merged m)).length ∧ (bfs (merged m)).getD i 0 = s
  have S : Sim (least m) (merged m) R := by
    refine ⟨?_, ?_, ?_⟩
    · rintro i s j t ⟨a1, a2⟩ ⟨b1, b2⟩
      constructor
      · intro q; subst q; rw [← a2, ← b2]
      · intro q; subst q
        rw [← idxOf_getD b.1.nd a1, ← idxOf_getD b.1.nd b1, a2, b2]
    · rintro i s ⟨a1, a2⟩
      subst a2
      refine wf_all2 wl w (by rw [ll]; exact a1) (b.1.lt _ (inm i a1)) fun a ha => ?_
      have hm : stepM (merged m) ((bfs (merged m)).getD i 0) a ∈ bfs (merged m) := b.2 i a1 _ (getD_of a1) _ (w.step_mem ha (b.1.lt _ (inm i a1)))
      have e : stepM (least m) i a = (bfs (merged m)).idxOf (stepM (merged m) ((bfs (merged m)).getD i 0) a) := by
        unfold stepM least
        rw [renum_st a1]
        have := w.len (b.1.lt _ (inm i a1))
        simp only [List.getD_eq_getElem?_getD] at this ⊢
        simp [this, ha]
      rw [e]
      exact ⟨List.idxOf_lt_length_of_mem hm, getD_idxOf hm⟩
    · rintro i s ⟨a1, a2⟩
      subst a2
      unfold goodM least
      rw [renum_st a1]
      rfl
  have A := bfs_sim wl w S ⟨ord_pos b.1, ord_hd b.1⟩
  have fx : ∀ i, i < (bfs (merged m)).length → Fix m ((bfs (merged m)).getD i 0) := by
    -- by a simulation with itself
    have S2 : Sim (merged m) (merged m) (fun s t => s = t ∧ s < m.length ∧ Fix m s) := by
      refine ⟨?_, ?_, ?_⟩
      · rintro s s' t t' ⟨a1, _⟩ ⟨b1, _⟩; rw [a1, b1]
      · rintro s s' ⟨a1, a2, a3⟩
        subst a1
        refine wf_all2 w w (by rw [merged_len]; exact a2) (by rw [merged_len]; exact a2) fun a ha => ?_
        have l1 := w.step_lt ha (show s < (merged m).length by rw [merged_len]; exact a2)
        rw [merged_len] at l1
        exact ⟨rfl, l1, fix_step h a2 ha⟩
      · rintro s s' ⟨a1, _⟩; rw [a1]
    intro i hi
    exact ((bfs_sim w w S2 ⟨rfl, h.ne, fix0 h⟩).get hi).2.2
  refine ⟨wl, ?_, fun i j hi hj e => ?_⟩
  · apply List.ext_getElem
    · rw [A.length, List.length_range, ll]
    · intro i h1 h2
      have q := (A.get h1).2
      have h3 : i < (bfs (merged m)).length := by rw [← A.length]; exact h1
      have q2 := idxOf_getD b.1.nd (A.get h1).1
      rw [q, idxOf_getD b.1.nd h3] at q2
      have e1 : (bfs (least m)).getD i 0 = (bfs (least m))[i] := by simp [h1]
      rw [List.getElem_range, ← e1]
      exact q2.symm
  · rw [ll] at hi hj
    have e1 := (renum_eqv w b.1 b.2 hi).symm.trans (e.trans (renum_eqv w b.1 b.2 hj))
    have e2 := (merged_eqv h (lt i hi)).symm.trans (e1.trans (merged_eqv h (lt j hj)))
    have e3 := fix_eq h (lt i hi) (lt j hj) (fx i hi) (fx j hj) e2
    rw [← idxOf_getD b.1.nd hi, ← idxOf_getD b.1.nd hj, e3]
theorem IsLeast.least (L : IsLeast m k) : least m = m := by
  have r := cls_rep L.wf
  have id : ∀ s, s < m.length → (cls m).getD s 0 = s := fun s hs => L.diff _ _ (r.lt hs) hs (r.rel hs)
  have em : merged m = m := by
    unfold merged mapM
    conv => rhs; rw [← List.map_id m]
    apply List.map_congr_left
    intro q hq
    have : q.2.map (fun t => (cls m).getD t 0) = q.2 := by
      conv => rhs; rw [← List.map_id q.2]
      exact List.map_congr_left fun t ht => id t (L.wf.lt q hq t ht)
    rw [this]; rfl
  unfold TH.least
  rw [em, L.ord]
  apply List.ext_getElem (by simp [renum])
  intro i h1 h2
  have e : stM m i = m[i] := stM_of h2
  have e2 : (stM m i).2.map (fun t => (List.range m.length).idxOf t) = (stM m i).2 := by
    conv => rhs; rw [← List.map_id (stM m i).2]
    refine List.map_congr_left fun t ht => ?_
    have lt := L.wf.lt _ (stM_mem h2) t ht
    have := idxOf_getD (o := List.range m.length) List.nodup_range (i := t) (by simpa using lt)
    simpa [lt] using this
  simp only [renum, List.getElem_map, List.getElem_range]
  rw [e2]
  unfold goodM
  rw [e]
theorem least_least (h : WF m k) : least (least m) = least m := (least_isLeast h).least
theorem isLeast_iff (h : WF m k) : IsLeast m k ↔ least m = m := ⟨fun L => L.least, fun e => by rw [← e]; exact least_isLeast h⟩
end
end TH

/-! text SEM -/
set_option Elab.async false
set_option linter.all false
set_option maxRecDepth 100000
set_option maxHeartbeats 4000000
set_option autoImplicit false
namespace SM
open PySem DL
noncomputable section
/-! ('behind', 0) -/
def behind_L1 : SS := sAsg 3 (eOp gIx (eOp gIx (eOp gIx (eVar 0) (eVar 3)) (eC (.int 1))) (eVar 4))
def s_behind : SS := sSeq (sAsg 3 (eVar 1)) (sSeq (sFor (iSeq (eVar 2)) (bName 4) [4] behind_L1) (sRet (eVar 3)))
def f_behind : List D → Option D := shut 1 (runF 5 3 s_behind)
theorem e_behind : f_behind = runF 5 3 s_behind := shut_eq _ _
/-! ('has', 0) -/
def s_has : SS := sRet (eOp gEq (eOp gIx (eOp gIx (eVar 0) (eCall f_behind (aCons (eVar 0) (aCons (eC (.int 0)) (aCons (eVar 1) (aNil)))))) (eC (.int 0))) (eC (.int 1)))
def f_has : List D → Option D := shut 2 (runF 2 2 s_has)
theorem e_has : f_has = runF 2 2 s_has := shut_eq _ _
/-! ('law_cell_at', 0) -/
def s_law_cell_at : SS := sSeq (sIf (bVal (eOp gLt (eVar 1) (eCb (g1 gLen) (aCons (eVar 0) aNil)))) (sRet (eOp gIx (eVar 0) (eVar 1))) (sNext)) (sRet (eC (.int 0)))
def f_law_cell_at : List D → Option D := shut 3 (runF 2 2 s_law_cell_at)
theorem e_law_cell_at : f_law_cell_at = runF 2 2 s_law_cell_at := shut_eq _ _
/-! ('law_mixed', 0) -/
def s_law_mixed : SS := sSeq (sAsg 2 (eOp gMod (eOp gMulI (eOp gAdd (eOp gAdd (eCall f_law_cell_at (aCons (eVar 0) (aCons (eVar 1) (aNil)))) (eOp gMulI (eC (.int 7919)) (eVar 1))) (eC (.int 1))) (eC (.int 48271))) (eC (.int 2147483647)))) (sRet (eOp gMod (eOp gAdd (eOp gAdd (eOp gMulI (eVar 2) (eVar 2)) (eOp gMulI (eC (.int 7)) (eVar 2))) (eVar 1)) (eC (.int 2147483629))))
def f_law_mixed : List D → Option D := shut 4 (runF 3 2 s_law_mixed)
theorem e_law_mixed : f_law_mixed = runF 3 2 s_law_mixed := shut_eq _ _
/-! ('law_drawn', 0) -/
def s_law_drawn : SS := sSeq (sAsg 2 (eOp gMod (eOp gMulI (eOp gAdd (eOp gAdd (eVar 0) (eOp gMulI (eC (.int 104729)) (eVar 1))) (eC (.int 17))) (eC (.int 69621))) (eC (.int 2147483647)))) (sRet (eOp gMod (eOp gAdd (eOp gAdd (eOp gMulI (eVar 2) (eVar 2)) (eOp gMulI (eC (.int 3)) (eVar 2))) (eVar 1)) (eC (.int 2147483629))))
def f_law_drawn : List D → Option D := shut 5 (runF 3 2 s_law_drawn)
theorem e_law_drawn : f_law_drawn = runF 3 2 s_law_drawn := shut_eq _ _
/-! ('law_machine', 0) -/
def law_machine_E1 : SE := eOp gMod (eCall f_law_drawn (aCons (eVar 0) (aCons (eOp gAdd (eOp gMulI (eC (.int 7)) (eVar 5)) (eVar 7)) (aNil)))) (eVar 3)
def law_machine_L1 : SS := sSeq (sAsg 6 (eCb (g1 gTuple) (aCons (eLc (iRg1 (eVar 1)) [7] (bName 7) bYes law_machine_E1) aNil))) (sApp 4 (eTup (aCons (eOp gMod (eOp gMod (eCall f_law_drawn (aCons (eVar 0) (aCons (eOp gAdd (eOp gMulI (eC (.int 7)) (eVar 5)) (eC (.int 5))) (aNil)))) (eC (.int 3))) (eC (.int 2))) (aCons (eVar 6) (aNil)))))
def s_law_machine : SS := sSeq (sAsg 3 (eOp gAdd (eC (.int 1)) (eOp gMod (eVar 0) (eVar 2)))) (sSeq (sOwn 4 (eLst (aNil))) (sSeq (sFor (iRg1 (eVar 3)) (bName 5) [5, 6] law_machine_L1) (sRet (eCb (g1 gTuple) (aCons (eVar 4) aNil)))))
def f_law_machine : List D → Option D := shut 6 (runF 8 3 s_law_machine)
theorem e_law_machine : f_law_machine = runF 8 3 s_law_machine := shut_eq _ _
/-! ('law_has', 0) -/
def law_has_L1 : SS := sAsg 2 (eOp gIx (eOp gIx (eOp gIx (eVar 0) (eVar 2)) (eC (.int 1))) (eVar 3))
def s_law_has : SS := sSeq (sAsg 2 (eC (.int 0))) (sSeq (sFor (iSeq (eVar 1)) (bName 3) [3] law_has_L1) (sRet (eOp gEq (eOp gIx (eOp gIx (eVar 0) (eVar 2)) (eC (.int 0))) (eC (.int 1)))))
def f_law_has : List D → Option D := shut 7 (runF 4 2 s_law_has)
theorem e_law_has : f_law_has = runF 4 2 s_law_has := shut_eq _ _
/-! ('law', 'k10') -/
def law_k10_E1 : SE := eOp gMod (eCall f_law_drawn (aCons (eVar 4) (aCons (eVar 7) (aNil)))) (eVar 1)
def law_k10_L1 : SS := sAsg 7 (eOp gIx (eOp gIx (eOp gIx (eVar 2) (eVar 7)) (eC (.int 1))) (eVar 8))
def law_k10_L2 : SS := sSeq (sAsg 4 (eCall f_law_drawn (aCons (eCall f_law_mixed (aCons (eVar 0) (aCons (eC (.int 2)) (aNil)))) (aCons (eVar 3) (aNil))))) (sSeq (sAsg 5 (eCb (g1 gTuple) (aCons (eLc (iRg1 (eOp gDiv (eOp gMulI (eOp gMod (eVar 4) (eC (.int 61))) (eOp gMod (eVar 3) (eC (.int 3)))) (eC (.int 2)))) [7] (bName 7) bYes law_k10_E1) aNil))) (sSeq (sAsg 6 (eOp gMod (eOp gDiv (eVar 4) (eC (.int 61))) (eCb (g1 gLen) (aCons (eVar 2) aNil)))) (sSeq (sAsg 7 (eVar 6)) (sSeq (sFor (iSeq (eVar 5)) (bName 8) [8] law_k10_L1) (sSeq (sAsg 9 (eOp gMod (eOp gDiv (eVar 4) (eC (.int 7))) (eOp gAdd (eCb (g1 gLen) (aCons (eVar 5) aNil)) (eC (.int 1))))) (sSeq (sAsg 10 (eCall f_behind (aCons (eVar 2) (aCons (eVar 6) (aCons (eVar 5) (aNil)))))) (sSeq (sIf (bOr (bVal (eIsi "bool" (eVar 10))) (bOr (bVal (eOp gNe (eVar 10) (eVar 7))) (bVal (eOp gNe (eCall f_behind (aCons (eVar 2) (aCons (eVar 6) (aCons (eTup (aNil)) (aNil))))) (eVar 6))))) (sRet (eC (.bool false))) (sNext)) (sSeq (sIf (bVal (eOp gNe (eCall f_behind (aCons (eVar 2) (aCons (eCall f_behind (aCons (eVar 2) (aCons (eVar 6) (aCons (eSl (eVar 5) (oNone) (oSome (eVar 9))) (aNil))))) (aCons (eSl (eVar 5) (oSome (eVar 9)) (oNone)) (aNil))))) (eVar 7))) (sRet (eC (.bool false))) (sNext)) (sSeq (sAsg 11 (eCall f_has (aCons (eVar 2) (aCons (eVar 5) (aNil))))) (sIf (bOr (bNot (bVal (eIsi "bool" (eVar 11)))) (bVal (eOp gNe (eVar 11) (eCall f_law_has (aCons (eVar 2) (aCons (eVar 5) (aNil))))))) (sRet (eC (.bool false))) (sNext)))))))))))
def s_law_k10 : SS := sSeq (sAsg 1 (eOp gAdd (eC (.int 1)) (eOp gMod (eCall f_law_mixed (aCons (eVar 0) (aCons (eC (.int 0)) (aNil)))) (eC (.int 3))))) (sSeq (sAsg 2 (eCall f_law_machine (aCons (eCall f_law_mixed (aCons (eVar 0) (aCons (eC (.int 1)) (aNil)))) (aCons (eVar 1) (aCons (eC (.int 6)) (aNil)))))) (sSeq (sFor (iRg1 (eC (.int 20))) (bName 3) [3, 4, 5, 6, 7, 8, 9, 10, 11] law_k10_L2) (sRet (eC (.bool true)))))
def f_law_k10 : List D → Option D := shut 8 (runF 12 1 s_law_k10)
theorem e_law_k10 : f_law_k10 = runF 12 1 s_law_k10 := shut_eq _ _
end
end SM

/-! text LB -/
set_option Elab.async false
set_option linter.all false
set_option maxRecDepth 100000
set_option maxHeartbeats 4000000
set_option autoImplicit false
/-! what the small defs compute -/
namespace SM
open PySem L2 DL TH
/-! numbers drawn -/
theorem iMod_bd (x : Int) {j : Int} (hj : 0 < j) : 0 ≤ iMod x j ∧ iMod x j < j := by
  rw [iMod_eq]
  exact ⟨Int.emod_nonneg _ (by omega), Int.emod_lt_of_pos _ hj⟩
theorem bd64 {x : Int} (h : 0 ≤ x ∧ x < 2147483647) : (-(2 ^ 64) < x ∧ x < 2 ^ 64) := ⟨by omega, by omega⟩
theorem drawn_ex (n k : Int) : ∃ d : Int, f_law_drawn [.int n, .int k] = some (.int d) ∧ 0 ≤ d ∧ d < 2147483629 := by
  obtain ⟨a, ha, h⟩ : ∃ a : Int, iMod (iMul (n + iMul 104729 k + 17) 69621) 2147483647 = a ∧ 0 ≤ a ∧ a < 2147483647 := ⟨_, rfl, iMod_bd _ (by decide)⟩
  have h2 := iMod_bd (iMul a a + iMul 3 a + k) (show (0 : Int) < 2147483629 by decide)
  refine ⟨_, ?_, h2⟩
  rw [e_law_drawn]
  unfold s_law_drawn
  exact run_rt rfl (seq_nx (by simp [gMulI_ok, gMod_ok, ha]; rfl) (by simp [gMulI_ok (.inl (bd64 h)), gMulI_ok, gMod_ok]))
theorem drawn_fun : ∃ dr : Int → Int → Int, (∀ n k, f_law_drawn [.int n, .int k] = some (.int (dr n k))) ∧ (∀ n k, 0 ≤ dr n k) ∧ ∀ n k, dr n k < 2147483629 :=
  ⟨fun n k => Classical.choose (drawn_ex n k), fun n k => (Classical.choose_spec (drawn_ex n k)).1, fun n k => (Classical.choose_spec (drawn_ex n k)).2.1, fun n k => (Classical.choose_spec (drawn_ex n k)).2.2⟩
theorem cell_ok (ns : List Int) (k : Nat) : f_law_cell_at [scrD ns, .int k] = some (.int (ns.getD k 0)) := by
  rw [e_law_cell_at]
  unfold s_law_cell_at
  simp
  by_cases h : k < ns.length
  · simp [h]
    rw [gIx_scr (List.getElem?_eq_getElem h)]
    simp
  · simp [h]
theorem mixed_ex (ns : List Int) (k : Nat) : ∃ d : Int, f_law_mixed [scrD ns, .int k] = some (.int d) ∧ 0 ≤ d ∧ d < 2147483629 := by
  have hq := cell_ok ns k
  generalize ns.getD k 0 = c at hq
  obtain ⟨a, ha, h⟩ : ∃ a : Int, iMod (iMul (c + iMul 7919 k + 1) 48271) 2147483647 = a ∧ 0 ≤ a ∧ a < 2147483647 := ⟨_, rfl, iMod_bd _ (by decide)⟩
  have h2 := iMod_bd (iMul a a + iMul 7 a + k) (show (0 : Int) < 2147483629 by decide)
  refine ⟨_, ?_, h2⟩
  rw [e_law_mixed]
  unfold s_law_mixed
  exact run_rt rfl (seq_nx (by simp [gMulI_ok, gMod_ok, hq, ha]; rfl) (by simp [gMulI_ok (.inl (bd64 h)), gMulI_ok, gMod_ok]))
theorem mixed_fun (ns : List Int) : ∃ mx : Int → Int, (∀ k, 0 ≤ k → f_law_mixed [scrD ns, .int k] = some (.int (mx k))) ∧ (∀ k, 0 ≤ mx k) ∧ ∀ k, mx k < 2147483629 :=
  ⟨fun k => Classical.choose (mixed_ex ns k.toNat), fun k hk => by
    have := (Classical.choose_spec (mixed_ex ns k.toNat)).1
    refine Eq.trans ?_ this
    rw [Int.toNat_of_nonneg hk], fun k => (Classical.choose_spec (mixed_ex ns k.toNat)).2.1, fun k => (Classical.choose_spec (mixed_ex ns k.toNat)).2.2⟩
/-! machines -/
def bI (b : Bool) : Int := if b then 1 else 0
def encSt (q : Bool × List Nat) : D := .tuple [.int (bI q.1), .tuple (q.2.map fun n => .int (n : Nat))]
def encM (m : Mach) : D := .tuple (m.map encSt)
def encW (w : List Nat) : D := .tuple (w.map fun n => .int (n : Nat))
theorem gIx_enc (m : Mach) (s : Nat) (hs : s < m.length) : gIx (.st (encM m)) (.st (.int s)) = some (.st (encSt (stM m s))) := by
  rw [encM, gIx_tup (n := s) (d := encSt (stM m s))]
  simp [hs, TH.stM]
theorem gIx_good (q : Bool × List Nat) : gIx (.st (encSt q)) (.st (.int 0)) = some (.st (.int (bI q.1))) := rfl
theorem gIx_steps (q : Bool × List Nat) : gIx (.st (encSt q)) (.st (.int 1)) = some (.st (.tuple (q.2.map fun n => .int (n : Nat)))) := rfl
theorem gIx_nats (l : List Nat) (a : Nat) (ha : a < l.length) : gIx (.st (.tuple (l.map fun n => .int (n : Nat)))) (.st (.int a)) = some (.st (.int (l.getD a 0 : Nat))) := by
  rw [gIx_tup (n := a) (d := .int (l.getD a 0 : Nat))]
  simp [ha]
/-- machine[s][1][a] -/
theorem ix3 {m : Mach} {k s a : Nat} (h : WF m k) (ha : a < k) (hs : s < m.length) : ((gIx (.st (encM m)) (.st (.int s))).bind fun x => (gIx x (.st (.int 1))).bind fun y => gIx y (.st (.int a))) = some (.st (.int (stepM m s a : Nat))) := by
  rw [gIx_enc m s hs, Option.bind_some, gIx_steps, Option.bind_some, gIx_nats]
  · rfl
  · have hq : stM m s = m[s] := by simp [hs, TH.stM]
    rw [hq, h.wide m[s] (List.getElem_mem hs)]
    exact ha
/-- the step, the last of the three subscripts -/
theorem gIx_step {m : Mach} {k s a : Nat} (h : WF m k) (ha : a < k) (hs : s < m.length) : gIx (.st (.tuple ((stM m s).2.map fun n => .int (n : Nat)))) (.st (.int a)) = some (.st (.int (stepM m s a : Nat))) := by
  rw [gIx_nats]
  · rfl
  · have hq : stM m s = m[s] := by simp [hs, TH.stM]
    rw [hq, h.wide m[s] (List.getElem_mem hs)]
    exact ha
theorem bI_one (b : Bool) : decide (bI b = 1) = b := by cases b <;> rfl
end SM

/-! text LC -/
set_option Elab.async false
set_option linter.all false
set_option maxRecDepth 100000
set_option maxHeartbeats 4000000
set_option autoImplicit false
namespace SM
open PySem L2 DL TH
/-! reading words -/
theorem behind_ok {m : Mach} {k s : Nat} {w : List Nat} (h : WF m k) (hs : s < m.length) (hw : ∀ a ∈ w, a < k) : f_behind [encM m, .int s, encW w] = some (.int (runM m s w : Nat)) := by
  rw [e_behind]
  unfold s_behind
  simp [encW]
  have key := forGo_fold (b := bName 4) (ts := [4]) (f := behind_L1) (E := fun (t : Nat) => [some (.val (encM m)), some (.val (.int s)), some (.val (encW w)), some (.val (.int t)), none]) (enc := fun n : Nat => .int n) (step := stepM m) (fun t => t < m.length) w
    (fun t a ha ht => ⟨_, rfl, _, by
      unfold behind_L1
      simp [gIx_enc m t ht, gIx_steps, gIx_step h (hw a ha) ht]
      rfl, rfl⟩) (fun t a ha ht => h.step_lt (hw a ha) ht) s hs
  simp [encW] at key
  simp [key]
  rfl
theorem law_has_ok {m : Mach} {k : Nat} {w : List Nat} (h : WF m k) (hw : ∀ a ∈ w, a < k) : f_law_has [encM m, encW w] = some (.bool (hasM m w)) := by
  rw [e_law_has]
  unfold s_law_has
  simp [encW]
  have key := forGo_fold (b := bName 3) (ts := [3]) (f := law_has_L1) (E := fun (t : Nat) => [some (.val (encM m)), some (.val (encW w)), some (.val (.int t)), none]) (enc := fun n : Nat => .int n) (step := stepM m) (fun t => t < m.length) w
    (fun t a ha ht => ⟨_, rfl, _, by
      unfold law_has_L1
      simp [gIx_enc m t ht, gIx_steps, gIx_step h (hw a ha) ht]
      rfl, rfl⟩) (fun t a ha ht => h.step_lt (hw a ha) ht) 0 h.ne
  have hl := h.run_lt hw h.ne
  simp [encW] at key
  simp [key]
  rw [gIx_enc m _ (show List.foldl (stepM m) 0 w < m.length from hl)]
  simp [gIx_good, bI_one]
  rfl
theorem has_ok {m : Mach} {k : Nat} {w : List Nat} (h : WF m k) (hw : ∀ a ∈ w, a < k) : f_has [encM m, encW w] = some (.bool (hasM m w)) := by
  have hl := h.run_lt hw h.ne
  have hb := behind_ok (s := 0) h h.ne hw
  rw [e_has]
  unfold s_has
  simp at hb ⊢
  simp [hb]
  rw [gIx_enc m _ hl]
  simp [gIx_good, bI_one]
  rfl
/-! a machine drawn -/
theorem mod2 (x : Int) : ∃ b : Bool, iMod (iMod x 3) 2 = bI b := by
  have h := iMod_bd (iMod x 3) (show (0 : Int) < 2 by decide)
  generalize iMod (iMod x 3) 2 = y at h
  by_cases e : y = 1
  · exact ⟨true, e⟩
  · exact ⟨false, by unfold bI; simp; omega⟩
theorem wide_ex (x : Int) : ∃ w : Nat, 1 + iMod x 3 = (w : Int) ∧ 1 ≤ w ∧ w ≤ 3 := by
  have h := iMod_bd x (show (0 : Int) < 3 by decide)
  generalize iMod x 3 = y at h
  exact ⟨(1 + y).toNat, by omega, by omega, by omega⟩
theorem mod_ex (x : Int) {n : Nat} (hn : 0 < n) : ∃ y : Nat, iMod x (n : Int) = y ∧ y < n := by
  have h := iMod_bd x (show (0 : Int) < n by omega)
  generalize iMod x (n : Int) = y at h
  exact ⟨y.toNat, by omega, by omega⟩
theorem choose_nat {α : Type} {P : α → Nat → Prop} (h : ∀ a, ∃ n, P a n) : ∃ f : α → Nat, ∀ a, P a (f a) := ⟨fun a => Classical.choose (h a), fun a => Classical.choose_spec (h a)⟩
theorem choose_fn {α β : Type} {P : α → β → Prop} (h : ∀ a, ∃ n, P a n) : ∃ f : α → β, ∀ a, P a (f a) := ⟨fun a => Classical.choose (h a), fun a => Classical.choose_spec (h a)⟩
theorem mach_ex (n : Int) {wide most : Nat} (hw : wide ≤ 1000) (hm : 0 < most) (hm2 : most ≤ 1000) : ∃ m : Mach, f_law_machine [.int n, .int wide, .int most] = some (encM m) ∧ WF m wide ∧ m.length ≤ most := by
  obtain ⟨drawn, drawn_ok, _, _⟩ := drawn_fun
  obtain ⟨c, hcnt, hp, hc⟩ : ∃ c : Nat, (1 : Int) + iMod n most = c ∧ 0 < c ∧ c ≤ most := by
    obtain ⟨y, h1, h2⟩ := mod_ex n hm
    exact ⟨1 + y, by rw [h1]; omega, by omega, by omega⟩
  obtain ⟨g, hg⟩ : ∃ g : Nat → Bool, ∀ k : Nat, iMod (iMod (drawn n (iMul 7 (k : Int) + 5)) 3) 2 = bI (g k) := choose_fn fun k => mod2 _
  obtain ⟨t, ht⟩ : ∃ t : Nat × Nat → Nat, ∀ p : Nat × Nat, iMod (drawn n (iMul 7 (p.1 : Int) + (p.2 : Int))) (c : Int) = (t p : Nat) ∧ t p < c := choose_fn fun p => mod_ex _ hp
  have cp : (0 : Int) < c := by omega
  have mp : (0 : Int) < most := by omega
  refine ⟨(List.range c).map fun k => (g k, (List.range wide).map fun l => t (k, l)), ?_, ?_, by simpa using hc⟩
  · rw [e_law_machine]
    unfold s_law_machine
    simp [gMod_ok mp]
    rw [hcnt]
    rw [i62_nat (by omega)]
    simp [rgD_map]
    have key := forGo_pre (b := bName 5) (ts := [5, 6]) (f := law_machine_L1) (enc := fun k : Nat => .int k)
      (fun (pre : List Nat) => [some (.val (.int n)), some (.val (.int wide)), some (.val (.int most)), some (.val (.int (c : Nat))), some (.own (.list (pre.map fun k => encSt (g k, (List.range wide).map fun l => t (k, l))))), none, none, none])
      (List.range c) fun pre k post h => by
        obtain ⟨h1, h2, h3⟩ := split_range h
        have lc := lcGo_mapE (b := bName 7) (fe := law_machine_E1) (ρ := [some (.val (.int n)), some (.val (.int wide)), some (.val (.int most)), some (.val (.int (c : Nat))), some (.own (.list (pre.map fun k => encSt (g k, (List.range wide).map fun l => t (k, l))))), some (.val (.int k)), none, none])
          (enc := fun l : Nat => .int l) (g := fun l : Nat => PyData.int (t (k, l) : Nat)) (List.range wide) fun l hl => by
          unfold law_machine_E1
          simp [drawn_ok, gMulI_ok, gMod_ok cp, (ht (k, l)).1]
        unfold turn law_machine_L1
        simp
        rw [i62_nat (by omega)]
        simp [rgD_map]
        rw [szb_ok (by omega)]
        simp
        rw [lc]
        simp [drawn_ok, gMulI_ok, gMod_ok]
        rw [szl_ok (by omega)]
        simp [encSt, hg]
    simp at key
    simp [key, encM]
  · refine ⟨by simpa using hp, fun q hq => ?_, fun q hq u hu => ?_⟩
    · simp at hq
      obtain ⟨k, _, rfl⟩ := hq
      simp
    · simp at hq
      obtain ⟨k, _, rfl⟩ := hq
      simp at hu
      obtain ⟨l, _, rfl⟩ := hu
      simpa using (ht (k, l)).2
end SM

/-! text LK10 -/
set_option Elab.async false
set_option linter.all false
set_option maxRecDepth 100000
set_option maxHeartbeats 4000000
set_option autoImplicit false
namespace SM
open PySem L2 DL TH
theorem cutD_take (ds : List D) (n : Nat) : cutD ds none (some (n : Int)) = ds.take n := by
  unfold cutD
  rw [HT.sIx_nat, HT.sIx_none]
  simp [Nat.min_comm, ← List.take_take]
theorem cutD_drop (ds : List D) (n : Nat) : cutD ds (some (n : Int)) none = ds.drop n := by
  unfold cutD
  rw [HT.sIx_nat, HT.sIx_none]
  rw [List.take_of_length_le (by simp)]
  by_cases h : n ≤ ds.length
  · rw [Nat.min_eq_left h]
  · rw [Nat.min_eq_right (by omega), List.drop_length, List.drop_of_length_le (by omega)]
@[simp] theorem gSl_tup (ds : List D) (lo hi : Option Int) : gSl (.st (.tuple ds)) lo hi = some (.st (.tuple (cutD ds lo hi))) := id rfl
@[simp] theorem gSl_lst (ds : List D) (lo hi : Option Int) : gSl (.st (.list ds)) lo hi = some (.fr (.list (cutD ds lo hi))) := id rfl
@[simp] theorem isiB_bool_int (i : Int) : isiB "bool" (.int i) = some false := by show kitB "int" "bool" = some false; decide +kernel
@[simp] theorem isiB_bool_bool (b : Bool) : isiB "bool" (.bool b) = some true := by show kitB "bool" "bool" = some true; decide +kernel
/-- a word drawn -/
theorem word_ex (f : Nat → Int) (wide n : Nat) (hw : 0 < wide) : ∃ w : List Nat, w.length = n ∧ Wd wide w ∧ (List.range n).map (fun k => PyData.int (iMod (f k) wide)) = w.map (fun a => PyData.int (a : Nat)) := by
  obtain ⟨g, hg⟩ : ∃ g : Nat → Nat, ∀ k, iMod (f k) (wide : Int) = (g k : Nat) ∧ g k < wide := choose_fn fun k => mod_ex _ hw
  refine ⟨(List.range n).map g, by simp, fun a ha => ?_, ?_⟩
  · simp at ha
    obtain ⟨k, _, rfl⟩ := ha
    exact (hg k).2
  · rw [List.map_map]
    exact List.map_congr_left fun k _ => by simp only [Function.comp]; rw [(hg k).1]
theorem law_k10_ok (ns : List Int) : f_law_k10 [scrD ns] = some (.bool true) := by
  obtain ⟨drawn, drawn_ok, drawn_nn, drawn_lt⟩ := drawn_fun
  obtain ⟨mixed, mixedI, mixed_nn, mixed_lt⟩ := mixed_fun ns
  obtain ⟨wide, hw, hw1, hw3⟩ := wide_ex (mixed 0)
  obtain ⟨m, h1, h2, h3⟩ := mach_ex (mixed 1) (wide := wide) (most := 6) (by omega) (by omega) (by omega)
  rw [e_law_k10]
  have hwp : (0 : Int) < wide := by omega
  have hmp : (0 : Int) < m.length := by have := h2.ne; omega
  unfold s_law_k10
  simp [mixedI, gMod_ok]
  rw [hw]
  simp at h1
  simp [h1, i62_ok, rgD_map]
  have key := forGo_pre (b := bName 3) (ts := [3, 4, 5, 6, 7, 8, 9, 10, 11]) (f := law_k10_L2) (enc := fun k : Nat => .int k)
      (fun (pre : List Nat) => [some (.val (scrD ns)), some (.val (.int wide)), some (.val (encM m)), none, none, none, none, none, none, none, none, none])
      (List.range 20) fun pre k post h => by
        have hd0 := drawn_nn (mixed 2) k
        have hd1 := drawn_lt (mixed 2) k
        obtain ⟨n, hn⟩ : ∃ n : Nat, drawn (mixed 2) k = n := ⟨(drawn (mixed 2) k).toNat, by omega⟩
        rw [hn] at hd0 hd1
        obtain ⟨c, hc, hc2⟩ : ∃ c : Nat, iDiv (iMul (iMod n 61) (iMod k 3)) 2 = c ∧ c ≤ 60 := by
          obtain ⟨x, hx, hx2⟩ := mod_ex (n : Int) (show 0 < 61 by decide)
          obtain ⟨y, hy, hy2⟩ := mod_ex (k : Int) (show 0 < 3 by decide)
          simp at hx hy
          rw [hx, hy, iMul_eq, iDiv_eq]
          have := Nat.mul_le_mul (show x ≤ 60 by omega) (show y ≤ 2 by omega)
          exact ⟨x * y / 2, by push_cast; rfl, by omega⟩
        obtain ⟨w, hwl, hwd, hwe⟩ := word_ex (fun l => drawn n l) wide c (by omega)
        obtain ⟨s, hs, hs2⟩ : ∃ s : Nat, iMod (iDiv n 61) m.length = s ∧ s < m.length := mod_ex _ h2.ne
        obtain ⟨u, hu, hu2⟩ : ∃ s : Nat, iMod (iDiv n 7) (w.length + 1 : Nat) = s ∧ s < w.length + 1 := mod_ex _ (by omega)
        have lc := lcGo_mapE (b := bName 7) (fe := law_k10_E1) (ρ := [some (.val (scrD ns)), some (.val (.int wide)), some (.val (encM m)), some (.val (.int k)), some (.val (.int n)), none, none, none, none, none, none, none])
          (enc := fun l : Nat => .int l) (g := fun l : Nat => PyData.int (iMod (drawn n l) wide)) (List.range c) fun l hl => by
          unfold law_k10_E1
          simp [drawn_ok, gMod_ok hwp]
        rw [hwe] at lc
        have fl := forGo_fold (b := bName 8) (ts := [8]) (f := law_k10_L1) (E := fun (t : Nat) => [some (.val (scrD ns)), some (.val (.int wide)), some (.val (encM m)), some (.val (.int k)), some (.val (.int n)), some (.val (encW w)), some (.val (.int s)), some (.val (.int t)), none, none, none, none]) (enc := fun n : Nat => .int n) (step := stepM m) (fun t => t < m.length) w
          (fun t a ha ht => ⟨_, rfl, _, by
            unfold law_k10_L1
            simp [gIx_enc m t ht, gIx_steps, gIx_step h2 (hwd a ha) ht]
            rfl, rfl⟩) (fun t a ha ht => h2.step_lt (hwd a ha) ht) s hs2
        have b1 := behind_ok h2 hs2 hwd
        have b2 := behind_ok (w := []) h2 hs2 (fun a ha => by cases ha)
        have b3 := behind_ok (w := w.take u) h2 hs2 (fun a ha => hwd a (List.mem_of_mem_take ha))
        have b4 := behind_ok (w := w.drop u) h2 (h2.run_lt (w := w.take u) (fun a ha => hwd a (List.mem_of_mem_take ha)) hs2) (fun a ha => hwd a (List.mem_of_mem_drop ha))
        have b5 := has_ok h2 hwd
        have b6 := law_has_ok h2 hwd
        rw [← runM_append, List.take_append_drop] at b4
        have hml : gLen (.st (encM m)) = some (.st (.int m.length)) := by simp [encM]
        simp [encW] at b1 b2 b3 b4 b5 b6 fl
        have rr : runM m s w = List.foldl (stepM m) s w := rfl
        have e1 : gMulI (.st (.int (iMod n 61))) (.st (.int (iMod k 3))) = some (.st (.int (iMul (iMod n 61) (iMod k 3)))) := by
          have h := iMod_bd n (show (0 : Int) < 61 by decide)
          generalize iMod n 61 = x at h
          exact gMulI_ok (.inl ⟨by omega, by omega⟩)
        have hu' : iMod (iDiv n 7) ((w.length : Int) + 1) = u := by rw [← hu]; push_cast; rfl
        have wp : (0 : Int) < (w.length : Int) + 1 := by omega
        refine turn_nx rfl (ρ2 := [some (.val (scrD ns)), some (.val (.int wide)), some (.val (encM m)), some (.val (.int k)), some (.val (.int n)), some (.val (encW w)), some (.val (.int s)), some (.val (.int (runM m s w : Nat))), none, some (.val (.int u)), some (.val (.int (runM m s w : Nat))), some (.val (.bool (hasM m w)))]) ?_ rfl
        unfold law_k10_L2
        refine seq_nx (by simp [mixedI, drawn_ok, hn]; rfl) ?_
        refine seq_nx (by simp [gMod_ok, e1, gDiv_ok, hc, i62_nat (show c ≤ 1000000000 by omega), rgD_map, szb_ok (show c ≤ 16777216 by omega), lc]; rfl) ?_
        refine seq_nx (by simp [gDiv_ok, hml, gMod_ok hmp, hs]; rfl) ?_
        refine seq_nx (by simp; rfl) ?_
        refine seq_nx (for_go (by simp; rfl) (by simp [fl]; rfl)) ?_
        refine seq_nx (by simp [gDiv_ok, gMod_ok wp, hu']; rfl) ?_
        refine seq_nx (by simp [b1]; rfl) ?_
        refine seq_nx (if_f (by simp [b2, rr, runM_nil]) rfl) ?_
        refine seq_nx (if_f (by simp [b3, cutD_take, cutD_drop, b4, rr]) rfl) ?_
        refine seq_nx (by simp [b5]; rfl) ?_
        refine if_f (by simp [b6]) ?_
        rfl
  simp [key]
end SM

/-! text W_k10 -/
set_option Elab.async false
set_option linter.all false
set_option maxRecDepth 100000
set_option maxHeartbeats 4000000
namespace Wk10
open PySem L2 SX C8 DL SM
open PyProof.Rows (envOfC)
section
variable {P : Program} {w : World} {K : PySem.W.Frag} {mg : Str → Option Value} {base : Heap}
def topS (i : Nat) : Stmt := PySem.Challenge.pw_wordyard_k10_reading_words.main.body.getD i (.Pass ⟨0, 0, 0, 0⟩)
/-! ### behind -/
abbrev S_behind : Stmt := topS 1
theorem sc_behind : FnScope ["machine", "state", "word", "at", "letter"] ["machine", "state", "word"] (defScope S_behind) := ⟨rfl, rfl, rfl, by decide +kernel, rfl, by decide +kernel, by decide +kernel⟩
theorem ok_behind {f : Addr} {fd : FuncData} (F : L2.Fun K "behind" "behind" S_behind f fd) : FnOk P w K mg base L2.CX0 1 f fd ["machine", "state", "word"] (spD K f_behind) := by
  rw [e_behind]
  have nd := sc_behind.nd
  refine fn_dl F sc_behind rfl rfl fun cdv A outer s H E hr => ?_
  exact ⟨_, dss_cons (ds_asg 3 nd (de_var 1)) (dss_cons (ds_for [4] PassesOwn.never (di_seq (K := K) (de_var 2)) (dg_name 4 nd) (dss_one (ds_asg 3 nd (de_ix (K := K) (de_ix (K := K) (de_ix (K := K) (de_var 0) (de_var 3)) (de_int)) (de_var 4))))) (dss_one (ds_ret (de_var 3))))⟩
/-! ### has -/
abbrev S_has : Stmt := topS 2
theorem sc_has : FnScope ["machine", "word"] ["machine", "word"] (defScope S_has) := ⟨rfl, rfl, rfl, by decide +kernel, rfl, by decide +kernel, by decide +kernel⟩
theorem ok_has {f : Addr} {fd : FuncData} (F : L2.Fun K "has" "has" S_has f fd) (c_behind : Cal P w K mg base 1 "behind" (spD K f_behind) []) : FnOk P w K mg base L2.CX0 2 f fd ["machine", "word"] (spD K f_has) := by
  rw [e_has]
  have nd := sc_has.nd
  refine fn_dl F sc_has rfl rfl fun cdv A outer s H E hr => ?_
  exact ⟨_, dss_one (ds_ret (de_eq (K := K) hr (de_ix (K := K) (de_ix (K := K) (de_var 0) (de_call (K := K) c_behind hr (by decide) (da_cons (de_var 0) (da_cons (de_int) (da_cons (de_var 1) (da_nil)))))) (de_int)) (de_int)))⟩
/-! ### _law_cell_at -/
abbrev S_law_cell_at : Stmt := topS 4
theorem sc_law_cell_at : FnScope ["_law_script", "_law_k"] ["_law_script", "_law_k"] (defScope S_law_cell_at) := ⟨rfl, rfl, rfl, by decide +kernel, rfl, by decide +kernel, by decide +kernel⟩
theorem ok_law_cell_at {f : Addr} {fd : FuncData} (F : L2.Fun K "_law_cell_at" "_law_cell_at" S_law_cell_at f fd) (m_len : mg "len" = none) : FnOk P w K mg base L2.CX0 1 f fd ["_law_script", "_law_k"] (spD K f_law_cell_at) := by
  rw [e_law_cell_at]
  have nd := sc_law_cell_at.nd
  refine fn_dl F sc_law_cell_at rfl rfl fun cdv A outer s H E hr => ?_
  exact ⟨_, dss_cons (ds_if (dt_lt (de_var 1) (de_len (K := K) m_len (de_var 0))) (dss_one (ds_ret (de_ix (K := K) (de_var 0) (de_var 1)))) (dss_nil)) (dss_one (ds_ret (de_int)))⟩
/-! ### _law_mixed -/
abbrev S_law_mixed : Stmt := topS 5
theorem sc_law_mixed : FnScope ["_law_script", "_law_k", "_law_drawn_here"] ["_law_script", "_law_k"] (defScope S_law_mixed) := ⟨rfl, rfl, rfl, by decide +kernel, rfl, by decide +kernel, by decide +kernel⟩
theorem ok_law_mixed {f : Addr} {fd : FuncData} (F : L2.Fun K "_law_mixed" "_law_mixed" S_law_mixed f fd) (c_law_cell_at : Cal P w K mg base 1 "_law_cell_at" (spD K f_law_cell_at) []) : FnOk P w K mg base L2.CX0 2 f fd ["_law_script", "_law_k"] (spD K f_law_mixed) := by
  rw [e_law_mixed]
  have nd := sc_law_mixed.nd
  refine fn_dl F sc_law_mixed rfl rfl fun cdv A outer s H E hr => ?_
  exact ⟨_, dss_cons (ds_asg 2 nd (de_mod (de_mul (de_add (K := K) (de_add (K := K) (de_call (K := K) c_law_cell_at hr (by decide) (da_cons (de_var 0) (da_cons (de_var 1) (da_nil)))) (de_mul (de_int) (de_var 1))) (de_int)) (de_int)) (de_int))) (dss_one (ds_ret (de_mod (de_add (K := K) (de_add (K := K) (de_mul (de_var 2) (de_var 2)) (de_mul (de_int) (de_var 2))) (de_var 1)) (de_int))))⟩
/-! ### _law_drawn -/
abbrev S_law_drawn : Stmt := topS 6
theorem sc_law_drawn : FnScope ["_law_number", "_law_k", "_law_drawn_here"] ["_law_number", "_law_k"] (defScope S_law_drawn) := ⟨rfl, rfl, rfl, by decide +kernel, rfl, by decide +kernel, by decide +kernel⟩
theorem ok_law_drawn {f : Addr} {fd : FuncData} (F : L2.Fun K "_law_drawn" "_law_drawn" S_law_drawn f fd) : FnOk P w K mg base L2.CX0 1 f fd ["_law_number", "_law_k"] (spD K f_law_drawn) := by
  rw [e_law_drawn]
  have nd := sc_law_drawn.nd
  refine fn_dl F sc_law_drawn rfl rfl fun cdv A outer s H E hr => ?_
  exact ⟨_, dss_cons (ds_asg 2 nd (de_mod (de_mul (de_add (K := K) (de_add (K := K) (de_var 0) (de_mul (de_int) (de_var 1))) (de_int)) (de_int)) (de_int))) (dss_one (ds_ret (de_mod (de_add (K := K) (de_add (K := K) (de_mul (de_var 2) (de_var 2)) (de_mul (de_int) (de_var 2))) (de_var 1)) (de_int))))⟩
/-! ### _law_machine -/
abbrev S_law_machine : Stmt := topS 7
theorem sc_law_machine : FnScope ["_law_number", "_law_wide", "_law_most", "_law_count", "_law_states", "_law_k", "_law_steps", "_law_letter"] ["_law_number", "_law_wide", "_law_most"] (defScope S_law_machine) := ⟨rfl, rfl, rfl, by decide +kernel, rfl, by decide +kernel, by decide +kernel⟩
theorem ok_law_machine {f : Addr} {fd : FuncData} (F : L2.Fun K "_law_machine" "_law_machine" S_law_machine f fd) (m_range : mg "range" = none) (m_tuple : mg "tuple" = none) (c_law_drawn : Cal P w K mg base 1 "_law_drawn" (spD K f_law_drawn) []) : FnOk P w K mg base L2.CX0 2 f fd ["_law_number", "_law_wide", "_law_most"] (spD K f_law_machine) := by
  rw [e_law_machine]
  have nd := sc_law_machine.nd
  refine fn_dl F sc_law_machine rfl rfl fun cdv A outer s H E hr => ?_
  exact ⟨_, dss_cons (ds_asg 3 nd (de_add (K := K) (de_int) (de_mod (de_var 0) (de_var 2)))) (dss_cons (ds_own 4 nd (de_lst (da_nil))) (dss_cons (ds_for [5, 6] PassesOwn.never (di_rg1 m_range (de_var 3)) (dg_name 5 nd) (dss_cons (ds_asg 6 nd (de_tuple (K := K) m_tuple (de_lc [("_law_letter", 7)] nd (di_rg1 m_range (de_var 1)) (fun _ _ _ _ _ => dg_name 7 nd) (fun _ _ _ _ _ => dts_nil) (fun _ _ _ _ _ => de_mod (de_call (K := K) c_law_drawn hr (by decide) (da_cons (de_var 0) (da_cons (de_add (K := K) (de_mul (de_int) (de_var 5)) (de_var 7)) (da_nil)))) (de_var 3))))) (dss_one (ds_app (K := K) 4 (de_tup (da_cons (de_mod (de_mod (de_call (K := K) c_law_drawn hr (by decide) (da_cons (de_var 0) (da_cons (de_add (K := K) (de_mul (de_int) (de_var 5)) (de_int)) (da_nil)))) (de_int)) (de_int)) (da_cons (de_var 6) (da_nil)))))))) (dss_one (ds_ret (de_tuple (K := K) m_tuple (de_var 4))))))⟩
/-! ### _law_has -/
abbrev S_law_has : Stmt := topS 8
theorem sc_law_has : FnScope ["_law_machine_here", "_law_word", "_law_at", "_law_letter"] ["_law_machine_here", "_law_word"] (defScope S_law_has) := ⟨rfl, rfl, rfl, by decide +kernel, rfl, by decide +kernel, by decide +kernel⟩
theorem ok_law_has {f : Addr} {fd : FuncData} (F : L2.Fun K "_law_has" "_law_has" S_law_has f fd) : FnOk P w K mg base L2.CX0 1 f fd ["_law_machine_here", "_law_word"] (spD K f_law_has) := by
  rw [e_law_has]
  have nd := sc_law_has.nd
  refine fn_dl F sc_law_has rfl rfl fun cdv A outer s H E hr => ?_
  exact ⟨_, dss_cons (ds_asg 2 nd (de_int)) (dss_cons (ds_for [3] PassesOwn.never (di_seq (K := K) (de_var 1)) (dg_name 3 nd) (dss_one (ds_asg 2 nd (de_ix (K := K) (de_ix (K := K) (de_ix (K := K) (de_var 0) (de_var 2)) (de_int)) (de_var 3))))) (dss_one (ds_ret (de_eq (K := K) hr (de_ix (K := K) (de_ix (K := K) (de_var 0) (de_var 2)) (de_int)) (de_int)))))⟩
/-! ### law -/
abbrev S_law : Stmt := topS 9
theorem sc_law : FnScope ["_law_script", "_law_wide", "_law_machine_here", "_law_k", "_law_number", "_law_word", "_law_start", "_law_at", "_law_letter", "_law_cut_at", "_law_found", "_law_said"] ["_law_script"] (defScope S_law) := ⟨rfl, rfl, rfl, by decide +kernel, rfl, by decide +kernel, by decide +kernel⟩
theorem ok_law {f : Addr} {fd : FuncData} (F : L2.Fun K "law" "law" S_law f fd) (m_range : mg "range" = none) (m_tuple : mg "tuple" = none) (m_len : mg "len" = none) (m_isinstance : mg "isinstance" = none) (m_bool : mg "bool" = none) (c_law_mixed : Cal P w K mg base 2 "_law_mixed" (spD K f_law_mixed) []) (c_law_machine : Cal P w K mg base 2 "_law_machine" (spD K f_law_machine) []) (c_law_drawn : Cal P w K mg base 1 "_law_drawn" (spD K f_law_drawn) []) (c_behind : Cal P w K mg base 1 "behind" (spD K f_behind) []) (c_has : Cal P w K mg base 2 "has" (spD K f_has) []) (c_law_has : Cal P w K mg base 1 "_law_has" (spD K f_law_has) []) : FnOk P w K mg base L2.CX0 3 f fd ["_law_script"] (spD K f_law_k10) := by
  rw [e_law_k10]
  have nd := sc_law.nd
  refine fn_dl F sc_law rfl rfl fun cdv A outer s H E hr => ?_
  exact ⟨_, dss_cons (ds_asg 1 nd (de_add (K := K) (de_int) (de_mod (de_call (K := K) c_law_mixed hr (by decide) (da_cons (de_var 0) (da_cons (de_int) (da_nil)))) (de_int)))) (dss_cons (ds_asg 2 nd (de_call (K := K) c_law_machine hr (by decide) (da_cons (de_call (K := K) c_law_mixed hr (by decide) (da_cons (de_var 0) (da_cons (de_int) (da_nil)))) (da_cons (de_var 1) (da_cons (de_int) (da_nil)))))) (dss_cons (ds_for [3, 4, 5, 6, 7, 8, 9, 10, 11] PassesOwn.never (di_rg1 m_range (de_int)) (dg_name 3 nd) (dss_cons (ds_asg 4 nd (de_call (K := K) c_law_drawn hr (by decide) (da_cons (de_call (K := K) c_law_mixed hr (by decide) (da_cons (de_var 0) (da_cons (de_int) (da_nil)))) (da_cons (de_var 3) (da_nil))))) (dss_cons (ds_asg 5 nd (de_tuple (K := K) m_tuple (de_lc [("_law_at", 7)] nd (di_rg1 m_range (de_div (de_mul (de_mod (de_var 4) (de_int)) (de_mod (de_var 3) (de_int))) (de_int))) (fun _ _ _ _ _ => dg_name 7 nd) (fun _ _ _ _ _ => dts_nil) (fun _ _ _ _ _ => de_mod (de_call (K := K) c_law_drawn hr (by decide) (da_cons (de_var 4) (da_cons (de_var 7) (da_nil)))) (de_var 1))))) (dss_cons (ds_asg 6 nd (de_mod (de_div (de_var 4) (de_int)) (de_len (K := K) m_len (de_var 2)))) (dss_cons (ds_asg 7 nd (de_var 6)) (dss_cons (ds_for [8] PassesOwn.never (di_seq (K := K) (de_var 5)) (dg_name 8 nd) (dss_one (ds_asg 7 nd (de_ix (K := K) (de_ix (K := K) (de_ix (K := K) (de_var 2) (de_var 7)) (de_int)) (de_var 8))))) (dss_cons (ds_asg 9 nd (de_mod (de_div (de_var 4) (de_int)) (de_add (K := K) (de_len (K := K) m_len (de_var 5)) (de_int)))) (dss_cons (ds_asg 10 nd (de_call (K := K) c_behind hr (by decide) (da_cons (de_var 2) (da_cons (de_var 6) (da_cons (de_var 5) (da_nil)))))) (dss_cons (ds_if (DW.dt (dw_or (dt_val (de_isi (K := K) m_isinstance m_bool (de_var 10))) (dw_or (dt_ne (K := K) hr (de_var 10) (de_var 7)) (dw_or1 (dt_ne (K := K) hr (de_call (K := K) c_behind hr (by decide) (da_cons (de_var 2) (da_cons (de_var 6) (da_cons (de_tup (da_nil)) (da_nil))))) (de_var 6)))))) (dss_one (ds_ret (de_bl))) (dss_nil)) (dss_cons (ds_if (dt_ne (K := K) hr (de_call (K := K) c_behind hr (by decide) (da_cons (de_var 2) (da_cons (de_call (K := K) c_behind hr (by decide) (da_cons (de_var 2) (da_cons (de_var 6) (da_cons (de_sl (K := K) (de_var 5) (do_none) (do_some (de_var 9))) (da_nil))))) (da_cons (de_sl (K := K) (de_var 5) (do_some (de_var 9)) (do_none)) (da_nil))))) (de_var 7)) (dss_one (ds_ret (de_bl))) (dss_nil)) (dss_cons (ds_asg 11 nd (de_call (K := K) c_has hr (by decide) (da_cons (de_var 2) (da_cons (de_var 5) (da_nil))))) (dss_one (ds_if (DW.dt (dw_or (dt_not (dt_val (de_isi (K := K) m_isinstance m_bool (de_var 11)))) (dw_or1 (dt_ne (K := K) hr (de_var 11) (de_call (K := K) c_law_has hr (by decide) (da_cons (de_var 2) (da_cons (de_var 5) (da_nil)))))))) (dss_one (ds_ret (de_bl))) (dss_nil)))))))))))))) (dss_one (ds_ret (de_bl)))))⟩
end
theorem all_mk {l : PySem.W.OpenLaw} {w : World} {K : PySem.W.Frag} {h : Heap} {mg : Str → Option Value} {fa : Addr} (X : K.In h) (G : h.Ns mainGlobals mg) (hfa : mg "law" = some (.ref fa)) {f_behind_ : Addr} {od_behind an_behind : Option Addr} {sl_behind : Array (Option Value)} {oc_behind kV_behind dc_behind pm_behind cd_behind ct_behind : Value} {f_has_ : Addr} {od_has an_has : Option Addr} {sl_has : Array (Option Value)} {oc_has kV_has dc_has pm_has cd_has ct_has : Value} {f_law_cell_at_ : Addr} {od_law_cell_at an_law_cell_at : Option Addr} {sl_law_cell_at : Array (Option Value)} {oc_law_cell_at kV_law_cell_at dc_law_cell_at pm_law_cell_at cd_law_cell_at ct_law_cell_at : Value} {f_law_mixed_ : Addr} {od_law_mixed an_law_mixed : Option Addr} {sl_law_mixed : Array (Option Value)} {oc_law_mixed kV_law_mixed dc_law_mixed pm_law_mixed cd_law_mixed ct_law_mixed : Value} {f_law_drawn_ : Addr} {od_law_drawn an_law_drawn : Option Addr} {sl_law_drawn : Array (Option Value)} {oc_law_drawn kV_law_drawn dc_law_drawn pm_law_drawn cd_law_drawn ct_law_drawn : Value} {f_law_machine_ : Addr} {od_law_machine an_law_machine : Option Addr} {sl_law_machine : Array (Option Value)} {oc_law_machine kV_law_machine dc_law_machine pm_law_machine cd_law_machine ct_law_machine : Value} {f_law_has_ : Addr} {od_law_has an_law_has : Option Addr} {sl_law_has : Array (Option Value)} {oc_law_has kV_law_has dc_law_has pm_law_has cd_law_has ct_law_has : Value} {f_law_ : Addr} {od_law an_law : Option Addr} {sl_law : Array (Option Value)} {oc_law kV_law dc_law pm_law cd_law ct_law : Value}
    (a_behind : PySem.W.nsIn K mainGlobals "behind" = some (some (.ref f_behind_)))
    (l_behind : K.lookup f_behind_ = some ⟨oc_behind, od_behind, .func (PySem.W.fnOf "behind" "behind" (defArgs S_behind) (defBody S_behind) (defScope S_behind) .none kV_behind dc_behind pm_behind an_behind cd_behind ct_behind), sl_behind⟩)
    (k_behind : PySem.W.codeIn K cd_behind "behind" = true)
    (q_behind : PySem.W.keepIn K (.ref f_behind_) = true)
    (a_has : PySem.W.nsIn K mainGlobals "has" = some (some (.ref f_has_)))
    (l_has : K.lookup f_has_ = some ⟨oc_has, od_has, .func (PySem.W.fnOf "has" "has" (defArgs S_has) (defBody S_has) (defScope S_has) .none kV_has dc_has pm_has an_has cd_has ct_has), sl_has⟩)
    (k_has : PySem.W.codeIn K cd_has "has" = true)
    (q_has : PySem.W.keepIn K (.ref f_has_) = true)
    (a_law_cell_at : PySem.W.nsIn K mainGlobals "_law_cell_at" = some (some (.ref f_law_cell_at_)))
    (l_law_cell_at : K.lookup f_law_cell_at_ = some ⟨oc_law_cell_at, od_law_cell_at, .func (PySem.W.fnOf "_law_cell_at" "_law_cell_at" (defArgs S_law_cell_at) (defBody S_law_cell_at) (defScope S_law_cell_at) .none kV_law_cell_at dc_law_cell_at pm_law_cell_at an_law_cell_at cd_law_cell_at ct_law_cell_at), sl_law_cell_at⟩)
    (k_law_cell_at : PySem.W.codeIn K cd_law_cell_at "_law_cell_at" = true)
    (q_law_cell_at : PySem.W.keepIn K (.ref f_law_cell_at_) = true)
    (a_law_mixed : PySem.W.nsIn K mainGlobals "_law_mixed" = some (some (.ref f_law_mixed_)))
    (l_law_mixed : K.lookup f_law_mixed_ = some ⟨oc_law_mixed, od_law_mixed, .func (PySem.W.fnOf "_law_mixed" "_law_mixed" (defArgs S_law_mixed) (defBody S_law_mixed) (defScope S_law_mixed) .none kV_law_mixed dc_law_mixed pm_law_mixed an_law_mixed cd_law_mixed ct_law_mixed), sl_law_mixed⟩)
    (k_law_mixed : PySem.W.codeIn K cd_law_mixed "_law_mixed" = true)
    (q_law_mixed : PySem.W.keepIn K (.ref f_law_mixed_) = true)
    (a_law_drawn : PySem.W.nsIn K mainGlobals "_law_drawn" = some (some (.ref f_law_drawn_)))
    (l_law_drawn : K.lookup f_law_drawn_ = some ⟨oc_law_drawn, od_law_drawn, .func (PySem.W.fnOf "_law_drawn" "_law_drawn" (defArgs S_law_drawn) (defBody S_law_drawn) (defScope S_law_drawn) .none kV_law_drawn dc_law_drawn pm_law_drawn an_law_drawn cd_law_drawn ct_law_drawn), sl_law_drawn⟩)
    (k_law_drawn : PySem.W.codeIn K cd_law_drawn "_law_drawn" = true)
    (q_law_drawn : PySem.W.keepIn K (.ref f_law_drawn_) = true)
    (a_law_machine : PySem.W.nsIn K mainGlobals "_law_machine" = some (some (.ref f_law_machine_)))
    (l_law_machine : K.lookup f_law_machine_ = some ⟨oc_law_machine, od_law_machine, .func (PySem.W.fnOf "_law_machine" "_law_machine" (defArgs S_law_machine) (defBody S_law_machine) (defScope S_law_machine) .none kV_law_machine dc_law_machine pm_law_machine an_law_machine cd_law_machine ct_law_machine), sl_law_machine⟩)
    (k_law_machine : PySem.W.codeIn K cd_law_machine "_law_machine" = true)
    (q_law_machine : PySem.W.keepIn K (.ref f_law_machine_) = true)
    (a_law_has : PySem.W.nsIn K mainGlobals "_law_has" = some (some (.ref f_law_has_)))
    (l_law_has : K.lookup f_law_has_ = some ⟨oc_law_has, od_law_has, .func (PySem.W.fnOf "_law_has" "_law_has" (defArgs S_law_has) (defBody S_law_has) (defScope S_law_has) .none kV_law_has dc_law_has pm_law_has an_law_has cd_law_has ct_law_has), sl_law_has⟩)
    (k_law_has : PySem.W.codeIn K cd_law_has "_law_has" = true)
    (q_law_has : PySem.W.keepIn K (.ref f_law_has_) = true)
    (a_law : PySem.W.nsIn K mainGlobals "law" = some (some (.ref f_law_)))
    (l_law : K.lookup f_law_ = some ⟨oc_law, od_law, .func (PySem.W.fnOf "law" "law" (defArgs S_law) (defBody S_law) (defScope S_law) .none kV_law dc_law pm_law an_law cd_law ct_law), sl_law⟩)
    (k_law : PySem.W.codeIn K cd_law "law" = true)
    (q_law : PySem.W.keepIn K (.ref f_law_) = true)
    (z_bool : PySem.W.nsIn K mainGlobals "bool" = some none)
    (z_isinstance : PySem.W.nsIn K mainGlobals "isinstance" = some none)
    (z_len : PySem.W.nsIn K mainGlobals "len" = some none)
    (z_range : PySem.W.nsIn K mainGlobals "range" = some none)
    (z_tuple : PySem.W.nsIn K mainGlobals "tuple" = some none) :
    ∃ fd : FuncData, (∀ (s : Shared) (v : Value), BindsTo s fd ⟨[v], []⟩ [("_law_script", v)]) ∧ ∀ base : Heap, K.In base → base.Ns mainGlobals mg → FnOk l.prog w K mg base L2.CX0 3 fa fd ["_law_script"] (spD K f_law_k10) := by
  have e := hfa.symm.trans (PySem.W.mg_of X G a_law)
  cases e
  refine ⟨PySem.W.fnOf "law" "law" (defArgs S_law) (defBody S_law) (defScope S_law) .none kV_law dc_law pm_law an_law cd_law ct_law, fun s v => .of_eq rfl, fun base _ _ => ?_⟩
  have m_bool := PySem.W.mg_none_of X G z_bool
  have m_isinstance := PySem.W.mg_none_of X G z_isinstance
  have m_len := PySem.W.mg_none_of X G z_len
  have m_range := PySem.W.mg_none_of X G z_range
  have m_tuple := PySem.W.mg_none_of X G z_tuple
  have F_behind := L2.fun_mk (st := S_behind) l_behind k_behind q_behind
  have b_behind := F_behind.binds (ps := ["machine", "state", "word"]) fun _ _ _ _ _ _ us hl => match us, hl with | [_, _, _], _ => rfl
  have c_behind : Cal l.prog w K mg base 1 "behind" (spD K f_behind) [] := cal_of (ok_behind F_behind) (PySem.W.mg_of X G a_behind) F_behind.kp b_behind
  have F_has := L2.fun_mk (st := S_has) l_has k_has q_has
  have b_has := F_has.binds (ps := ["machine", "word"]) fun _ _ _ _ _ _ us hl => match us, hl with | [_, _], _ => rfl
  have c_has : Cal l.prog w K mg base 2 "has" (spD K f_has) [] := cal_of (ok_has F_has c_behind) (PySem.W.mg_of X G a_has) F_has.kp b_has
  have F_law_cell_at := L2.fun_mk (st := S_law_cell_at) l_law_cell_at k_law_cell_at q_law_cell_at
  have b_law_cell_at := F_law_cell_at.binds (ps := ["_law_script", "_law_k"]) fun _ _ _ _ _ _ us hl => match us, hl with | [_, _], _ => rfl
  have c_law_cell_at : Cal l.prog w K mg base 1 "_law_cell_at" (spD K f_law_cell_at) [] := cal_of (ok_law_cell_at F_law_cell_at m_len) (PySem.W.mg_of X G a_law_cell_at) F_law_cell_at.kp b_law_cell_at
  have F_law_mixed := L2.fun_mk (st := S_law_mixed) l_law_mixed k_law_mixed q_law_mixed
  have b_law_mixed := F_law_mixed.binds (ps := ["_law_script", "_law_k"]) fun _ _ _ _ _ _ us hl => match us, hl with | [_, _], _ => rfl
  have c_law_mixed : Cal l.prog w K mg base 2 "_law_mixed" (spD K f_law_mixed) [] := cal_of (ok_law_mixed F_law_mixed c_law_cell_at) (PySem.W.mg_of X G a_law_mixed) F_law_mixed.kp b_law_mixed
  have F_law_drawn := L2.fun_mk (st := S_law_drawn) l_law_drawn k_law_drawn q_law_drawn
  have b_law_drawn := F_law_drawn.binds (ps := ["_law_number", "_law_k"]) fun _ _ _ _ _ _ us hl => match us, hl with | [_, _], _ => rfl
  have c_law_drawn : Cal l.prog w K mg base 1 "_law_drawn" (spD K f_law_drawn) [] := cal_of (ok_law_drawn F_law_drawn) (PySem.W.mg_of X G a_law_drawn) F_law_drawn.kp b_law_drawn
  have F_law_machine := L2.fun_mk (st := S_law_machine) l_law_machine k_law_machine q_law_machine
  have b_law_machine := F_law_machine.binds (ps := ["_law_number", "_law_wide", "_law_most"]) fun _ _ _ _ _ _ us hl => match us, hl with | [_, _, _], _ => rfl
  have c_law_machine : Cal l.prog w K mg base 2 "_law_machine" (spD K f_law_machine) [] := cal_of (ok_law_machine F_law_machine m_range m_tuple c_law_drawn) (PySem.W.mg_of X G a_law_machine) F_law_machine.kp b_law_machine
  have F_law_has := L2.fun_mk (st := S_law_has) l_law_has k_law_has q_law_has
  have b_law_has := F_law_has.binds (ps := ["_law_machine_here", "_law_word"]) fun _ _ _ _ _ _ us hl => match us, hl with | [_, _], _ => rfl
  have c_law_has : Cal l.prog w K mg base 1 "_law_has" (spD K f_law_has) [] := cal_of (ok_law_has F_law_has) (PySem.W.mg_of X G a_law_has) F_law_has.kp b_law_has
  have F_law := L2.fun_mk (st := S_law) l_law k_law q_law
  exact ok_law F_law m_range m_tuple m_len m_isinstance m_bool c_law_mixed c_law_machine c_law_drawn c_behind c_has c_law_has
end Wk10

namespace Wk10
theorem law_holds (ns : List Int) (hl : ns.length ≤ 63) : SM.f_law_k10 [DL.scrD ns] = some (.bool true) := SM.law_k10_ok ns
end Wk10

open PySem PySem.W PyProof.Rows
set_option maxHeartbeats 0 in
theorem PySem.Challenge.cw_wordyard_k10_reading_words_holds : PySem.Challenge.rw_wordyard_k10_reading_words.Holds := by
  w_on; o_law; k_head; (case hw => w_witness2)
  k_fill
  refine L2.walk_of (l := PySem.Challenge.rw_wordyard_k10_reading_words) (n := 63) (k := 3) (x := "_law_script") (CX := fun _ => L2.CX0) (sp := fun w => DL.spD _ SM.f_law_k10) rfl (by decide) rfl ⟨rfl, by decide, by decide⟩ (fun w h Y => PySem.W.kIn_of Y) ?F (fun _ _ a ns hl _ hS => DL.law_sp (Wk10.law_holds ns hl) hS) (fun _ _ _ _ _ h => h)
  case F =>
    intro w mg fa h KX G hmg
    refine' Wk10.all_mk KX G hmg ?a_behind ?l_behind ?k_behind ?q_behind ?a_has ?l_has ?k_has ?q_has ?a_law_cell_at ?l_law_cell_at ?k_law_cell_at ?q_law_cell_at ?a_law_mixed ?l_law_mixed ?k_law_mixed ?q_law_mixed ?a_law_drawn ?l_law_drawn ?k_law_drawn ?q_law_drawn ?a_law_machine ?l_law_machine ?k_law_machine ?q_law_machine ?a_law_has ?l_law_has ?k_law_has ?q_law_has ?a_law ?l_law ?k_law ?q_law ?z_bool ?z_isinstance ?z_len ?z_range ?z_tuple
    (case a_behind => k_is); (case l_behind => k_is); (case k_behind => k_is); (case q_behind => k_is); (case a_has => k_is); (case l_has => k_is); (case k_has => k_is); (case q_has => k_is); (case a_law_cell_at => k_is); (case l_law_cell_at => k_is); (case k_law_cell_at => k_is); (case q_law_cell_at => k_is); (case a_law_mixed => k_is); (case l_law_mixed => k_is); (case k_law_mixed => k_is); (case q_law_mixed => k_is); (case a_law_drawn => k_is); (case l_law_drawn => k_is); (case k_law_drawn => k_is); (case q_law_drawn => k_is); (case a_law_machine => k_is); (case l_law_machine => k_is); (case k_law_machine => k_is); (case q_law_machine => k_is); (case a_law_has => k_is); (case l_law_has => k_is); (case k_law_has => k_is); (case q_law_has => k_is); (case a_law => k_is); (case l_law => k_is); (case k_law => k_is); (case q_law => k_is); (case z_bool => k_is); (case z_isinstance => k_is); (case z_len => k_is); (case z_range => k_is); (case z_tuple => k_is)
