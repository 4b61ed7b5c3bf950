import PyProof.Rows.All
import Wide.All
import OpenK.AllK
import Wide.FinOn
import HandS.ForMost
import HandS.EndBits
import HandS.IsInst
import HandS.More
import HandS.Walk
import HandS.ListItems
import PyProof.NeKinds
import HandS.DeepEq
import HandS.WordsDict
import HandS.Iter
import PySem.Challenge.RW_threeroad_k03_a_tree
set_option Elab.async false
set_option linter.all false
set_option maxRecDepth 100000
set_option maxHeartbeats 4000000
/-! ### the small layer of this claim: a def of the text with its place, its promise as a callee, frames, loops of comprehensions -/
namespace M
open PySem PySem.Spec PyProof.Rows L2

/-! a def of the top: its function object, its name, how its arguments bind -/
structure Def (K : PySem.W.Frag) (mg : Str → Option Value) (x : Str) (st : Stmt) (ps : List Str) : Prop where
  ex : ∃ (f : Addr) (fd : FuncData), Fun K x x st f fd ∧ mg x = some (.ref f) ∧ Binds K fd ps []
/-! a def as its callers see it -/
structure Cal (P : Program) (w : World) (K : PySem.W.Frag) (mg : Str → Option Value) (base : Heap) (CX : CXT) (k : Nat) (x : Str) (ps : List Str) (sp : Sp) : Prop where
  ex : ∃ (f : Addr) (fd : FuncData), FnOk P w K mg base CX k f fd ps sp ∧ mg x = some (.ref f) ∧ PySem.W.keepIn K (.ref f) = true ∧ Binds K fd ps [] ∧ ∃ (oc : Value) (od : Option Addr) (osl : Array (Option Value)), K.lookup f = some ⟨oc, od, .func fd, osl⟩
section
variable {P : Program} {w : World} {K : PySem.W.Frag} {mg : Str → Option Value} {base : Heap}
/-- no exception leaves it -/
theorem Def.ok {x : Str} {st : Stmt} {N ps : List Str} {k : Nat} {sp : Sp} (D : Def K mg x st ps) (S : FnScope N ps (defScope st)) (len : ∀ vs H Q E, sp vs H Q E → vs.length = ps.length)
    (hbody : ∀ (f : Addr) (cdv : Value) (A : Around) (outer : List Env) (s : Shared) (H : Hp) (vs : List V) (Q : VK) (E : XK), Room k (A.deeper (envOfC x (defScope st) s.heap.objs.size f cdv)) → sp vs H Q E →
      ∃ t, PSs (cxOf CX0 P w K mg base N x (defScope st) f cdv A outer s H E).nox (defBody st) t ∧ t { nx := fun _ H' => Q .non H', rt := Q } (start N vs) H) : Cal P w K mg base CX0 (k + 1) x ps sp := by
  obtain ⟨f, fd, F, g, b⟩ := D.ex
  obtain ⟨oc, od, kV, doc, pm, an, cdv, ct, osl, e, lk, _⟩ := F.ex
  exact ⟨f, fd, F.ok S len fun cdv A outer s H vs Q E hr h => hbody f cdv A outer s H vs Q E hr h, g, F.kp, b, oc, od, osl, lk⟩
end
section
variable {X : Cx} {CX : CXT} {k : Nat} {ps : List Str} {sp : Sp} {E : XK}
theorem pe_calC {x : Str} {p pos : Pos} {e : Expr} {es : List Expr} {t : TA} (C : Cal X.prog X.w X.K X.mg X.base CX k x ps sp) (hr : Room k X.A) (hg : Gl X x) (hx : Passes CX X E) (ha : PA X (e :: es) t)
    (hdb : (x == ("__debug__" : Str)) = false := by decide +kernel) (he : starEach (e :: es) X.env = (false, eval e X.env) :: starEach es X.env := by rfl) (hpl : (backTo pos (starEach es X.env)).any (·.1) = false := by rfl) :
    PE X (.Call (.Name x p) (e :: es) [] pos) (tCall sp [] E t) := by
  obtain ⟨f, fd, F, g, kp, b, _⟩ := C.ex
  exact pe_call F hr hg g kp b .nil hx ha hdb he hpl
end

/-! ### frames: what was tracked is as it was -/
section
variable {K : PySem.W.Frag} {H H' H1 H2 : Hp} {p a : Addr} {o u : HO} {xs : List V}
theorem Same.new (h : H p = none) : Same H (upd H p o) := fun b w e => by rw [upd_ne (ne_of_none e h)]; exact e
theorem Same.mut (e : Same H H') (h : H p = none) : Same H (upd H' p o) := fun b w q => by rw [upd_ne (ne_of_none q h)]; exact e b w q
theorem Same.tup (e : Same H H') (h : SqT K H a xs) : SqT K H' a xs := by
  rcases h with (h | ⟨o, h⟩) | h
  · exact .inl (.inl (e _ _ h))
  · exact .inl (.inr ⟨o, e _ _ h⟩)
  · exact .inr h
theorem Same.rd (e : Same H H') (h : Rd H a u) : Rd H' a u := by
  rcases h with h | ⟨o, h⟩
  · exact .inl (e _ _ h)
  · exact .inr ⟨o, e _ _ h⟩
/-- behind the making of an object: the heap a letter -/
theorem new_at {R : Hp → Prop} (hp : H p = none) (h : ∀ H', Same H H' → H' p = some o → R H') : R (upd H p o) := h _ (Same.new hp) upd_same
end

/-! ### tests -/
section
variable {A B : Prop} {p : Prop} [Decidable p]
theorem iteD (h1 : p → A) (h2 : ¬ p → B) : if decide p = true then A else B := by
  by_cases h : p
  · rw [if_pos (decide_eq_true h)]; exact h1 h
  · rw [if_neg (by rw [decide_eq_false h]; exact Bool.false_ne_true)]; exact h2 h
theorem iteN (h1 : ¬ p → A) (h2 : p → B) : if (!decide p) = true then A else B := by
  by_cases h : p
  · rw [if_neg (by rw [decide_eq_true h]; exact Bool.false_ne_true)]; exact h2 h
  · rw [if_pos (by rw [decide_eq_false h]; rfl)]; exact h1 h
theorem iteB {b : Bool} (h1 : b = true → A) (h2 : b = false → B) : if b = true then A else B := by
  cases b with
  | true => rw [if_pos rfl]; exact h1 rfl
  | false => rw [if_neg Bool.false_ne_true]; exact h2 rfl
theorem iteBN {b : Bool} (h1 : b = false → A) (h2 : b = true → B) : if (!b) = true then A else B := by
  cases b with
  | true => exact iteF (h2 rfl)
  | false => exact iteT (h1 rfl)
end

theorem iteSelf {A B : Prop} {x : V} (h : B) : if (!decide (x = x)) = true then A else B := iteNS rfl h
theorem iteSelfT {A B : Prop} {x : V} (h : A) : if decide (x = x) = true then A else B := by rw [if_pos (decide_eq_true rfl)]; exact h
/-! an if without an else, its ways joined: I holds behind both; what follows is a letter in the way through -/
section
variable {p : Prop} [Decidable p] {t u : TS} {D : Ends} {σ : L2.St} {H : Hp}
theorem if_join (I : L2.St → Hp → Prop) (hj : ∀ σ' H', I σ' H' → D.nx σ' H') (ht : p → ∀ N : L2.St → Hp → Prop, (∀ σ' H', I σ' H' → N σ' H') → t { D with nx := N } σ H) (hf : ¬ p → I σ H) : if decide p = true then t D σ H else tNext D σ H :=
  iteD (fun h => ht h D.nx hj) fun h => hj _ _ (hf h)
theorem if_joinB {b : Bool} (I : L2.St → Hp → Prop) (hj : ∀ σ' H', I σ' H' → D.nx σ' H') (ht : b = true → ∀ N : L2.St → Hp → Prop, (∀ σ' H', I σ' H' → N σ' H') → t { D with nx := N } σ H) (hf : b = false → I σ H) : if b = true then t D σ H else tNext D σ H :=
  iteB (fun h => ht h D.nx hj) fun h => hj _ _ (hf h)
/-- .. with an else -/
theorem if_else (I : L2.St → Hp → Prop) (hj : ∀ σ' H', I σ' H' → D.nx σ' H') (ht : p → ∀ N : L2.St → Hp → Prop, (∀ σ' H', I σ' H' → N σ' H') → t { D with nx := N } σ H)
    (hf : ¬ p → ∀ N : L2.St → Hp → Prop, (∀ σ' H', I σ' H' → N σ' H') → u { D with nx := N } σ H) : if decide p = true then t D σ H else u D σ H :=
  iteD (fun h => ht h D.nx hj) fun h => hf h D.nx hj
theorem if_elseB {b : Bool} (I : L2.St → Hp → Prop) (hj : ∀ σ' H', I σ' H' → D.nx σ' H') (ht : b = true → ∀ N : L2.St → Hp → Prop, (∀ σ' H', I σ' H' → N σ' H') → t { D with nx := N } σ H)
    (hf : b = false → ∀ N : L2.St → Hp → Prop, (∀ σ' H', I σ' H' → N σ' H') → u { D with nx := N } σ H) : if b = true then t D σ H else u D σ H :=
  iteB (fun h => ht h D.nx hj) fun h => hf h D.nx hj
/-- a block cut behind a statement -/
theorem seq_join (I : L2.St → Hp → Prop) (ht : ∀ N : L2.St → Hp → Prop, (∀ σ' H', I σ' H' → N σ' H') → t { D with nx := N } σ H) (hu : ∀ σ' H', I σ' H' → u D σ' H') : tSeq t u D σ H := ht (u D) hu
end
/-! and, or as values, their ways joined: R holds of the value -/
section
variable {c : Bool} {tb : TE} {σ : L2.St} {H : Hp} {Q : VK}
theorem and_join (R : V → Hp → Prop) (hq : ∀ v H', R v H' → Q v H') (h1 : c = true → ∀ Q' : VK, (∀ v H', R v H' → Q' v H') → tb σ H Q') (h2 : c = false → R (.bl false) H) : if c = true then tb σ H Q else Q (.bl false) H :=
  iteB (fun h => h1 h Q hq) fun h => hq _ _ (h2 h)
theorem or_join (R : V → Hp → Prop) (hq : ∀ v H', R v H' → Q v H') (h1 : c = false → ∀ Q' : VK, (∀ v H', R v H' → Q' v H') → tb σ H Q') (h2 : c = true → R (.bl true) H) : if c = true then Q (.bl true) H else tb σ H Q :=
  iteB (fun h => hq _ _ (h2 h)) fun h => h1 h Q hq
end
/-! ### sizes -/
theorem sl_of {n : Nat} (h : n ≤ 16777216) : n ≤ sizeLine := by rw [sizeLine_eq]; exact h
theorem sl_lt {n : Nat} (h : n < 16777216) : n < sizeLine := by rw [sizeLine_eq]; exact h

/-! ### operators of this text -/
/-- * of ints that together have fewer than a hundred million bits -/
def CMulV (i j : Int) : Prop := i.natAbs.log2 + j.natAbs.log2 < 100000000
theorem CMulV.ok {i j : Int} (h : CMulV i j) : IntMulOk i j := by
  have b : ∀ x : Int, Builtin.Int.intBits x ≤ x.natAbs.log2 + 1 := fun x => by
    unfold Builtin.Int.intBits
    split <;> omega
  have h1 := b i
  have h2 := b j
  have h3 : i.natAbs.log2 + j.natAbs.log2 < 100000000 := h
  have e : bitsLine = 134217728 := by decide
  unfold IntMulOk
  intro z
  rw [Bool.and_eq_true] at z
  have z2 := z.2
  unfold Builtin.Int.intTooBig at z2
  have z3 := of_decide_eq_true z2
  rw [e] at z3
  omega
section
variable {X : Cx}
theorem op_mulV : OpR X (binaryOp .Mult) (rI CMulV fun i j => .int (i * j)) := opI fun _ _ _ _ _ _ _ hc q => mul_int q hc.ok
end
section
variable {X : Cx}
/-- a text times an int -/
theorem op_mulS : OpR X (binaryOp .Mult) (fun x y H Q => ∃ z i, x = .str z ∧ y = .int i ∧ PySem.MulOk z i ∧ Q (.str (Txt.mul z i)) H) := by
  intro pins s σ H x y v u Q I rx ry h
  obtain ⟨z, i, rfl, rfl, hz, q⟩ := h
  obtain ⟨t, rfl⟩ := rx
  obtain ⟨t', rfl⟩ := ry
  exact SB.mul hz fun t' k => ⟨.str (Txt.mul z i), H, I.tok _, ⟨_, rfl⟩, q⟩
end
/-- an int of at most n bits -/
def Bits (n : Nat) (i : Int) : Prop := i.natAbs < 2 ^ n
theorem Bits.log2 {n : Nat} {i : Int} (h : Bits n i) : i.natAbs.log2 ≤ n := by
  by_cases z : i.natAbs = 0
  · rw [z]; exact Nat.le_trans (by decide) (Nat.zero_le n)
  · exact Nat.le_of_lt ((Nat.log2_lt z).mpr h)
theorem Bits.mul {n m : Nat} {i j : Int} (a : Bits n i) (b : Bits m j) (h : n + m < 100000000) : CMulV i j := by
  have h1 := a.log2
  have h2 := b.log2
  unfold CMulV
  omega
theorem Bits.mono {n m : Nat} {i : Int} (a : Bits n i) (h : n ≤ m) : Bits m i := Nat.lt_of_lt_of_le a (Nat.pow_le_pow_right (by decide) h)
theorem Bits.prod {n m : Nat} {i j : Int} (a : Bits n i) (b : Bits m j) : Bits (n + m) (i * j) := by
  unfold Bits
  rw [Int.natAbs_mul, Nat.pow_add]
  exact Nat.mul_lt_mul'' a b
theorem Bits.add {n m : Nat} {i j : Int} (a : Bits n i) (b : Bits m j) : Bits (n + m + 1) (i + j) := by
  unfold Bits at *
  have h1 : 2 ^ n ≤ 2 ^ (n + m) := Nat.pow_le_pow_right (by decide) (by omega)
  have h2 : 2 ^ m ≤ 2 ^ (n + m) := Nat.pow_le_pow_right (by decide) (by omega)
  have h3 : 2 ^ (n + m + 1) = 2 ^ (n + m) * 2 := by rw [Nat.pow_succ]
  have h4 : (i + j).natAbs ≤ i.natAbs + j.natAbs := Int.natAbs_add_le i j
  omega
theorem ediv_natAbs_le (i : Int) {j : Int} (h : 0 < j) : (i / j).natAbs ≤ i.natAbs := by
  have e := Int.mul_ediv_add_emod i j
  have e1 := Int.emod_nonneg i (show j ≠ 0 by omega)
  have e2 := Int.emod_lt_of_pos i h
  by_cases h0 : 0 ≤ i
  · have z1 : 0 ≤ i / j := Int.ediv_nonneg h0 (by omega)
    have z2 : i / j ≤ i := Int.ediv_le_self j h0
    omega
  · have z1 : i / j < 0 := Int.ediv_neg_of_neg_of_pos (by omega) h
    have h5 : (j - 1) * (i / j + 1) ≤ 0 := Int.mul_nonpos_of_nonneg_of_nonpos (by omega) (by omega)
    have h6 : (j - 1) * (i / j + 1) = j * (i / j) + j - i / j - 1 := by rw [Int.sub_mul, Int.mul_add, Int.mul_one, Int.one_mul]; omega
    omega
theorem Bits.div {n : Nat} {i j : Int} (a : Bits n i) (h : 0 < j) : Bits n (i / j) := Nat.lt_of_le_of_lt (ediv_natAbs_le i h) a
theorem Bits.of {n : Nat} {i : Int} (h1 : -(2 ^ n : Int) < i) (h2 : i < 2 ^ n) : Bits n i := by
  unfold Bits
  have e : ((2 ^ n : Nat) : Int) = (2 : Int) ^ n := by simp
  omega
theorem Bits.small {i : Int} (h1 : -1000000000000 < i) (h2 : i < 1000000000000) : Bits 40 i := by
  unfold Bits
  omega

/-! ### walks over known items -/
section
variable {K : PySem.W.Frag} {a d : Addr} {xs : List V} {o : Obj}
theorem wL : Walk (Itl K a) xs.length (fun H => SqL K H a xs) (YAt xs) := walk_list
theorem wT : Walk (Itt K a) xs.length (fun H => SqT K H a xs) (YAt xs) := walk_tup
theorem wR {lo : Int} {n : Nat} : Walk (Itr lo n) n (fun _ => True) (YAt ((List.range n).map fun i : Nat => V.int (lo + (i : Int)))) :=
  walk_range.mono (fun _ h => h) fun i H x H' hi _ y => ⟨y.1, by rw [y.2, List.getElem?_map, List.getElem?_range hi]; rfl⟩
theorem wS {z : Str} : Walk (Its z) z.cps.size (fun _ => True) (YAt (z.cps.toList.map fun c => V.str ⟨#[c]⟩)) :=
  walk_str.mono (fun _ h => h) fun i H x H' hi _ y => by
    obtain ⟨e, c, hc, rfl⟩ := y
    exact ⟨e, by rw [List.getElem?_map, Array.getElem?_toList, hc]; rfl⟩
theorem wK {kvs : List (Key × V)} : Walk (Itk d o kvs) kvs.length (fun H => H d = some (.frz o (.dK kvs))) (YAt (kvs.map fun kv => kV kv.1)) :=
  walk_keys.mono (fun _ h => h) fun i H x H' hi _ y => by
    obtain ⟨e, k, v, hk, rfl⟩ := y
    exact ⟨e, by rw [List.getElem?_map, hk]; rfl⟩
end
/-! ### comprehensions whose elements change nothing that stood -/
section
variable {J : It} {n : Nat} {G : Hp → Prop} {te : TE} {tt : TT} {vs : List Nat} {σ : L2.St} {H1 : Hp} {D : Addr} {Qd : Hp → Prop} {xs : List V} {j : Nat}
/-- the element by a test, both known -/
theorem lcF (w : Walk J n G (YAt xs)) (hx : xs.length = n) (hG : ∀ H', Same H1 H' → G H') (hD : H1 D = none) (p : V → Bool) (f : V → V) (hn : n ≤ 16777216) (hw : ∀ x, wipe ((wipe σ vs).set j (some x)) vs = wipe σ vs)
    (ht : ∀ x H, x ∈ xs → Same H1 H → ∀ Q2 : Bool → Hp → Prop, (∀ H', Same H H' → Q2 (p x) H') → tt ((wipe σ vs).set j (some x)) H Q2)
    (hs : ∀ x H, x ∈ xs → p x = true → Same H1 H → ∀ Q2 : VK, (∀ H', Same H H' → Q2 (f x) H') → te ((wipe σ vs).set j (some x)) H Q2)
    (hd : ∀ H', Same H1 H' → H' D = some (.lst ((xs.filter p).map f)) → Qd H') :
    ∃ W : Nat → Nat → Hp → Prop, (∃ m, W 0 m (upd H1 D (.lst []))) ∧ ∀ i m H, W i m H →
      (J.stop i H ∧ Qd H) ∨ (J.go i H ∧ ∃ Nx : Hp → Prop, (∀ H', Nx H' → ∃ m', m' < m ∧ W (i + 1) m' H') ∧ ∀ x H', J.yld i H x H' → gName j x (wipe σ vs) H' fun σ2 H2 => wipe σ2 vs = wipe σ vs ∧ tt σ2 H2 fun b H3 =>
        if b = true then te σ2 H3 fun y H4 => ∃ acc, H4 D = some (.lst acc) ∧ acc.length < sizeLine ∧ Nx (upd H4 D (.lst (acc ++ [y]))) else Nx H3) := by
  have tk : ∀ {i : Nat} {x : V}, xs[i]? = some x → xs.take (i + 1) = xs.take i ++ [x] := fun h => by rw [List.take_add_one, h]; rfl
  refine lc_it w (fun i H => Same H1 H ∧ H D = some (.lst (((xs.take i).filter p).map f))) ⟨Same.new hD, by rw [upd_same]; rfl⟩ (fun i H _ q => hG H q.1) ?_ ?_
  · rintro i x H H0 hi ⟨e, hacc⟩ ⟨rfl, hix⟩
    have hx' : x ∈ xs := List.mem_of_getElem? hix
    refine ⟨hw _, ?_⟩
    refine ht x _ hx' e _ fun H' e' => ?_
    refine iteB (fun hp => ?_) fun hp => ?_
    · refine hs x H' hx' hp (e.trans e') _ fun H2 e2 => ?_
      refine ⟨_, e2 _ _ (e' _ _ hacc), sl_lt ?_, Same.mut ((e.trans e').trans e2) hD, ?_⟩
      · have h1 := List.length_filter_le p (xs.take i)
        rw [List.length_map]
        rw [List.length_take] at h1
        omega
      · rw [upd_same, tk hix, List.filter_append, List.map_append]
        simp [hp]
    · refine ⟨e.trans e', ?_⟩
      rw [e' _ _ hacc, tk hix, List.filter_append, List.map_append]
      simp [hp]
  · rintro H ⟨e, hacc⟩
    rw [← hx, List.take_length] at hacc
    exact hd H e hacc
/-- no test, the element known -/
theorem lcM (w : Walk J n G (YAt xs)) (hx : xs.length = n) (hG : ∀ H', Same H1 H' → G H') (hD : H1 D = none) (f : V → V) (hn : n ≤ 16777216) (hw : ∀ x, wipe ((wipe σ vs).set j (some x)) vs = wipe σ vs)
    (hs : ∀ x H, x ∈ xs → Same H1 H → ∀ Q2 : VK, (∀ H', Same H H' → Q2 (f x) H') → te ((wipe σ vs).set j (some x)) H Q2)
    (hd : ∀ H', Same H1 H' → H' D = some (.lst (xs.map f)) → Qd H') :
    ∃ W : Nat → Nat → Hp → Prop, (∃ m, W 0 m (upd H1 D (.lst []))) ∧ ∀ i m H, W i m H →
      (J.stop i H ∧ Qd H) ∨ (J.go i H ∧ ∃ Nx : Hp → Prop, (∀ H', Nx H' → ∃ m', m' < m ∧ W (i + 1) m' H') ∧ ∀ x H', J.yld i H x H' → gName j x (wipe σ vs) H' fun σ2 H2 => wipe σ2 vs = wipe σ vs ∧ tYes σ2 H2 fun b H3 =>
        if b = true then te σ2 H3 fun y H4 => ∃ acc, H4 D = some (.lst acc) ∧ acc.length < sizeLine ∧ Nx (upd H4 D (.lst (acc ++ [y]))) else Nx H3) :=
  lcF w hx hG hD (fun _ => true) f hn hw (fun x H _ _ Q2 q => q H (Same.refl H)) (fun x H h _ => hs x H h) fun H' e h => hd H' e (by rw [h, List.filter_eq_self.mpr fun _ _ => rfl])
/-- no test, of the element at turn i a fact is told -/
theorem lcP (w : Walk J n G (YAt xs)) (hx : xs.length = n) (hG : ∀ H', Same H1 H' → G H') (hD : H1 D = none) (P : V → V → Prop) (hn : n ≤ 16777216) (hw : ∀ x, wipe ((wipe σ vs).set j (some x)) vs = wipe σ vs)
    (hs : ∀ x H, x ∈ xs → Same H1 H → ∀ Q2 : VK, (∀ y H', Same H H' → P x y → Q2 y H') → te ((wipe σ vs).set j (some x)) H Q2)
    (hd : ∀ ys H', Paired P xs ys → Same H1 H' → H' D = some (.lst ys) → Qd H') :
    ∃ W : Nat → Nat → Hp → Prop, (∃ m, W 0 m (upd H1 D (.lst []))) ∧ ∀ i m H, W i m H →
      (J.stop i H ∧ Qd H) ∨ (J.go i H ∧ ∃ Nx : Hp → Prop, (∀ H', Nx H' → ∃ m', m' < m ∧ W (i + 1) m' H') ∧ ∀ x H', J.yld i H x H' → gName j x (wipe σ vs) H' fun σ2 H2 => wipe σ2 vs = wipe σ vs ∧ tYes σ2 H2 fun b H3 =>
        if b = true then te σ2 H3 fun y H4 => ∃ acc, H4 D = some (.lst acc) ∧ acc.length < sizeLine ∧ Nx (upd H4 D (.lst (acc ++ [y]))) else Nx H3) := by
  have tk : ∀ {i : Nat} {x : V}, xs[i]? = some x → xs.take (i + 1) = xs.take i ++ [x] := fun h => by rw [List.take_add_one, h]; rfl
  have pa : ∀ {as bs : List V} {x y : V}, Paired P as bs → P x y → Paired P (as ++ [x]) (bs ++ [y]) := fun {as bs x y} h hp => by
    induction h with
    | nil => exact .cons hp .nil
    | cons a t ih => exact .cons a ih
  refine lc_it w (fun i H => Same H1 H ∧ ∃ ys, H D = some (.lst ys) ∧ Paired P (xs.take i) ys) ⟨Same.new hD, [], upd_same, .nil⟩ (fun i H _ q => hG H q.1) ?_ ?_
  · rintro i x H H0 hi ⟨e, ys, hacc, hp⟩ ⟨rfl, hix⟩
    have hx' : x ∈ xs := List.mem_of_getElem? hix
    refine ⟨hw _, ?_⟩
    show te _ _ _
    refine hs x _ hx' e _ fun y H' e' py => ?_
    have hl : ys.length ≤ i := by
      rw [← hp.length, List.length_take]; omega
    exact ⟨ys, e' _ _ hacc, sl_lt (by omega), Same.mut (e.trans e') hD, ys ++ [y], upd_same, by rw [tk hix]; exact pa hp py⟩
  · rintro H ⟨e, ys, hacc, hp⟩
    rw [← hx, List.take_length] at hp
    exact hd ys H hp e hacc
end
/-- a module's constant -/
theorem pe_globI {X : Cx} {x : Str} {pos : Pos} {i : Int} (hg : Gl X x) (hm : ∃ t, X.mg x = some (.int i t)) (hdb : (x == ("__debug__" : Str)) = false := by decide +kernel) : PE X (.Name x pos) (tC (.int i)) := by
  obtain ⟨t, e⟩ := hm
  exact pe_glob (v := .int i) hg e ⟨t, rfl⟩ hdb
theorem pe_globS {X : Cx} {x z : Str} {pos : Pos} (hg : Gl X x) (hm : ∃ t, X.mg x = some (.str z t)) (hdb : (x == ("__debug__" : Str)) = false := by decide +kernel) : PE X (.Name x pos) (tC (.str z)) := by
  obtain ⟨t, e⟩ := hm
  exact pe_glob (v := .str z) hg e ⟨t, rfl⟩ hdb
/-- a reading in another writing -/
theorem PE.cv {X : Cx} {e : Expr} {t t' : TE} (h : PE X e t') (q : t' = t) : PE X e t := q ▸ h
theorem PG.cv {X : Cx} {e : Expr} {t t' : TG} (h : PG X e t') (q : t' = t) : PG X e t := q ▸ h
theorem PTs.cv {X : Cx} {e : List Expr} {t t' : TT} (h : PTs X e t') (q : t' = t) : PTs X e t := q ▸ h
theorem PSs.cv {X : Cx} {e : List Stmt} {t t' : TS} (h : PSs X e t') (q : t' = t) : PSs X e t := q ▸ h
/-- a promise by cases of how the thing stands -/
theorem PS.or {X : Cx} {st : Stmt} {t u : TS} (h : PS X st t) (h' : PS X st u) : PS X st (fun D σ H => t D σ H ∨ u D σ H) :=
  ⟨fun pins s σ H D I q => by
    rcases q with q | q
    · exact h.run pins s σ H D I q
    · exact h'.run pins s σ H D I q⟩
theorem PE.or {X : Cx} {e : Expr} {t u : TE} (h : PE X e t) (h' : PE X e u) : PE X e (fun σ H Q => t σ H Q ∨ u σ H Q) :=
  ⟨fun pins s σ H Q I q => by
    rcases q with q | q
    · exact h.run pins s σ H Q I q
    · exact h'.run pins s σ H Q I q⟩
end M

namespace M
open PySem PySem.Spec PyProof.Rows L2
/-! ### texts as lists of signs -/
abbrev cl (z : Str) : List Nat := z.cps.toList
theorem cl_inj {a b : Str} (h : cl a = cl b) : a = b := ext_toList h
/-- the text of one sign -/
def c1 (c : Nat) : Str := ⟨#[c]⟩
theorem cl_c1 (c : Nat) : cl (c1 c) = [c] := rfl
theorem cl_app (a b : Str) : cl (a ++ b) = cl a ++ cl b := by
  show (a.cps ++ b.cps).toList = _
  simp
theorem len_cl (z : Str) : z.length = (cl z).length := by
  show z.cps.size = _
  simp
theorem len_app (a b : Str) : (a ++ b).length = a.length + b.length := by
  rw [len_cl, cl_app, List.length_append, ← len_cl, ← len_cl]
theorem len_c1 (c : Nat) : (c1 c).length = 1 := rfl
/-- the signs of a part -/
def sgns : List Nat := cl "abcdefghijklmnopqrstuvwxyzABCDEFGHIJKLMNOPQRSTUVWXYZ0123456789.-_"
theorem sgns_len : sgns.length = 65 := by decide +kernel
/-- the script's cell -/
def cellZ (ns : List Int) (k : Int) : Int := if k < ns.length then ns.getD k.toNat 0 else 0
theorem cellZ_bits {ns : List Int} (h : ∀ z ∈ ns, Bits 1048576 z) (k : Int) : Bits 1048576 (cellZ ns k) := by
  have h0 : Bits 1048576 0 := by unfold Bits; exact Nat.two_pow_pos _
  unfold cellZ
  split
  · rw [List.getD_eq_getElem?_getD]
    cases e : ns[k.toNat]? with
    | none => exact h0
    | some v => exact h v (List.mem_of_getElem? e)
  · exact h0
theorem cell_at {ns : List Int} {k : Int} (h0 : 0 ≤ k) (h : k < ns.length) : atI (ns.map V.int) k = some (.int (cellZ ns k)) := by
  have e : k = ((k.toNat : Nat) : Int) := by omega
  have hl : k.toNat < ns.length := by omega
  have q : (ns.map V.int)[k.toNat]? = some (.int (cellZ ns k)) := by
    rw [List.getElem?_map, List.getElem?_eq_getElem hl]
    unfold cellZ
    rw [if_pos h, List.getD_eq_getElem?_getD, List.getElem?_eq_getElem hl]
    rfl
  have := atI_nat q
  rwa [← e] at this
theorem cell_none {ns : List Int} {k : Int} (h : ¬ k < ns.length) : cellZ ns k = 0 := if_neg h
/-- a sign of a written text at a place within -/
theorem at_in {xs : List Nat} {i : Int} (h0 : 0 ≤ i) (h : i < xs.length) : ∃ c, atI xs i = some c ∧ c ∈ xs := by
  have e : i = ((i.toNat : Nat) : Int) := by omega
  have hl : i.toNat < xs.length := by omega
  refine ⟨xs[i.toNat], ?_, List.getElem_mem _⟩
  have := atI_nat (List.getElem?_eq_getElem hl)
  rwa [← e] at this
theorem at_inV {xs : List V} {i : Int} (h0 : 0 ≤ i) (h : i < xs.length) : ∃ c, atI xs i = some c ∧ c ∈ xs := by
  have e : i = ((i.toNat : Nat) : Int) := by omega
  have hl : i.toNat < xs.length := by omega
  refine ⟨xs[i.toNat], ?_, List.getElem_mem _⟩
  have := atI_nat (List.getElem?_eq_getElem hl)
  rwa [← e] at this
theorem bits_of {ns : List Int} (h : ∀ z ∈ ns, Builtin.Int.intBits z ≤ 1048576) : ∀ z ∈ ns, Bits 1048576 z := fun z hz => by
  have q := h z hz
  unfold Builtin.Int.intBits at q
  unfold Bits
  split at q
  · rename_i h0
    have : z.natAbs = 0 := by simp_all
    rw [this]; exact Nat.two_pow_pos _
  · rename_i h0
    have h1 : z.natAbs ≠ 0 := by
      intro e; apply h0; simp_all
    exact (Nat.log2_lt h1).mp (by omega)
/-! ### values' functions -/
def fS (g : Str → V) : V → V | .str x => g x | _ => .non
def fI (g : Int → V) : V → V | .int x => g x | _ => .non
def pS (g : Str → Bool) : V → Bool | .str x => g x | _ => false
def pI (g : Int → Bool) : V → Bool | .int x => g x | _ => false
theorem fS_map (g : Str → V) (l : List Str) : (l.map V.str).map (fS g) = l.map g := by rw [List.map_map]; rfl
theorem fI_map (g : Int → V) (l : List Int) : (l.map V.int).map (fI g) = l.map g := by rw [List.map_map]; rfl
theorem pS_filter (g : Str → Bool) (l : List Str) : (l.map V.str).filter (pS g) = (l.filter g).map V.str := by rw [List.filter_map]; rfl
theorem pI_filter (g : Int → Bool) (l : List Int) : (l.map V.int).filter (pI g) = (l.filter g).map V.int := by rw [List.filter_map]; rfl
/-! ### slices -/
theorem sIx_of (n d : Nat) {i : Int} (h : 0 ≤ i) : HT.sIx n d (some i) = min i.toNat n := by
  have e : i = ((i.toNat : Nat) : Int) := by omega
  have := HT.sIx_nat n d i.toNat
  rwa [← e] at this
theorem cut_take (xs : List V) {i : Int} (h : 0 ≤ i) : cutV xs none (some i) = xs.take i.toNat := by
  show (xs.drop (HT.sIx xs.length 0 none)).take (HT.sIx xs.length xs.length (some i) - HT.sIx xs.length 0 none) = _
  rw [sIx_of _ _ h, HT.sIx_none, List.drop_zero, Nat.sub_zero]
  by_cases hl : i.toNat ≤ xs.length
  · rw [Nat.min_eq_left hl]
  · rw [Nat.min_eq_right (by omega), List.take_length, List.take_of_length_le (by omega)]
theorem cut_drop (xs : List V) {i : Int} (h : 0 ≤ i) : cutV xs (some i) none = xs.drop i.toNat := by
  show (xs.drop (HT.sIx xs.length 0 (some i))).take (HT.sIx xs.length xs.length none - HT.sIx xs.length 0 (some i)) = _
  rw [sIx_of _ _ h, HT.sIx_none]
  by_cases hl : i.toNat ≤ xs.length
  · rw [Nat.min_eq_left hl, List.take_of_length_le (by rw [List.length_drop]; exact Nat.le_refl _)]
  · rw [Nat.min_eq_right (by omega), List.drop_length, List.take_nil, List.drop_of_length_le (by omega)]
theorem cut_mid (xs : List V) {i j : Int} (h : 0 ≤ i) (h2 : i ≤ j) : cutV xs (some i) (some j) = (xs.drop i.toNat).take (j.toNat - i.toNat) := by
  show (xs.drop (HT.sIx xs.length 0 (some i))).take (HT.sIx xs.length xs.length (some j) - HT.sIx xs.length 0 (some i)) = _
  rw [sIx_of _ _ h, sIx_of _ _ (show 0 ≤ j by omega)]
  by_cases hl : i.toNat ≤ xs.length
  · rw [Nat.min_eq_left hl]
    by_cases hj : j.toNat ≤ xs.length
    · rw [Nat.min_eq_left hj]
    · rw [show min j.toNat xs.length = xs.length by omega, List.take_of_length_le (by rw [List.length_drop]; exact Nat.le_refl _), List.take_of_length_le (by rw [List.length_drop]; omega)]
  · rw [show min j.toNat xs.length = xs.length by omega, show min i.toNat xs.length = xs.length by omega, List.drop_length, List.take_nil, List.drop_of_length_le (by omega), List.take_nil]
theorem cut_last (xs : List V) (h : 0 < xs.length) : cutV xs none (some (-1)) = xs.dropLast := by
  show (xs.drop (HT.sIx xs.length 0 none)).take (HT.sIx xs.length xs.length (some (-1)) - HT.sIx xs.length 0 none) = _
  have e : HT.sIx xs.length xs.length (some (-1)) = xs.length - 1 := by
    show (if (-1 : Int) < 0 then ((-1 : Int) + (xs.length : Int)).toNat else min (-1 : Int).toNat xs.length) = _
    rw [if_pos (by decide)]
    omega
  rw [HT.sIx_none, List.drop_zero, Nat.sub_zero, e, List.dropLast_eq_take]
/-! ### paths -/
def slash : Str := "/"
/-- a part of a path -/
def isPartB (p : Str) : Bool := if p = (".": Str) ∨ p = ("..": Str) then false else (decide (1 ≤ p.length) && decide (p.length ≤ 12)) && (cl p).all fun c => decide (c ∈ sgns)
def partsOf (z : Str) : List Str := Txt.split z slash
def isPathB (z : Str) : Bool := decide ((partsOf z).length ≤ 8) && (partsOf z).all isPartB
theorem part_no {z : Str} (h : z = (".": Str) ∨ z = ("..": Str)) : isPartB z = false := if_pos h
theorem part_yes {z : Str} (h1 : z ≠ (".": Str)) (h2 : z ≠ ("..": Str)) : isPartB z = ((decide (1 ≤ z.length) && decide (z.length ≤ 12)) && (cl z).all fun c => decide (c ∈ sgns)) := if_neg fun h => h.elim h1 h2
/-- the folders above -/
def aboveL (z : Str) : List Str := (List.range ((partsOf z).length - 1)).map fun i => Txt.join slash ((partsOf z).take (i + 1))
/-- l cut at each 47 -/
def cut47 : List Nat → List Nat → List (List Nat)
  | acc, [] => [acc]
  | acc, c :: r => if c = 47 then acc :: cut47 [] r else cut47 (acc ++ [c]) r
theorem spl_cut : ∀ (l acc : List Nat), TL.spl [47] 0 acc l = cut47 acc l
  | [], acc => rfl
  | c :: r, acc => by
    show (if TL.pre [47] (c :: r) = true then acc :: TL.spl [47] 0 [] r else TL.spl [47] 0 (acc ++ [c]) r) = (if c = 47 then acc :: cut47 [] r else cut47 (acc ++ [c]) r)
    have e : TL.pre [47] (c :: r) = decide (c = 47) := by
      show (([c] : List Nat) == [47]) = _
      by_cases h : c = 47
      · subst h; rfl
      · rw [decide_eq_false h]; simp [h]
    rw [e, spl_cut r, spl_cut r]
    by_cases h : c = 47
    · rw [if_pos (decide_eq_true h), if_pos h]
    · rw [if_neg (by rw [decide_eq_false h]; exact Bool.false_ne_true), if_neg h]
theorem slash_cl : cl slash = [47] := by decide +kernel
theorem parts_cut (z : Str) : (partsOf z).map cl = cut47 [] (cl z) := by
  have h := TL.split_spl z slash (by show cl slash ≠ []; rw [slash_cl]; simp) (TL.kind_ok (by decide +kernel))
  have h2 : (partsOf z).map cl = TL.spl (cl slash) 0 [] (cl z) := h
  rw [h2, slash_cl, spl_cut]
theorem cut_len : ∀ (l acc : List Nat) (p : List Nat), p ∈ cut47 acc l → p.length ≤ acc.length + l.length
  | [], acc, p, h => by
    have : p = acc := by simpa [cut47] using h
    subst this; simp
  | c :: r, acc, p, h => by
    unfold cut47 at h
    split at h
    · rcases List.mem_cons.mp h with h | h
      · subst h; simp
      · have := cut_len r [] p h
        simp at this ⊢; omega
    · have := cut_len r (acc ++ [c]) p h
      simp at this ⊢; omega
theorem cut_many : ∀ (l acc : List Nat), (cut47 acc l).length ≤ l.length + 1
  | [], acc => by simp [cut47]
  | c :: r, acc => by
    unfold cut47
    split
    · have := cut_many r []
      simp; omega
    · have := cut_many r (acc ++ [c])
      simp; omega
theorem parts_many (z : Str) : (partsOf z).length ≤ z.length + 1 := by
  have h := cut_many (cl z) []
  rw [← parts_cut, List.length_map, ← len_cl] at h
  exact h
theorem parts_len {z p : Str} (h : p ∈ partsOf z) : p.length ≤ z.length := by
  have h1 : cl p ∈ cut47 [] (cl z) := by rw [← parts_cut]; exact List.mem_map.mpr ⟨p, h, rfl⟩
  have h2 := cut_len _ _ _ h1
  rw [← len_cl, ← len_cl] at h2
  simpa using h2
theorem cut_sum : ∀ (l acc : List Nat), ((cut47 acc l).map List.length).sum + (cut47 acc l).length = acc.length + l.length + 1
  | [], acc => by simp [cut47]
  | c :: r, acc => by
    unfold cut47
    split
    · have := cut_sum r []
      simp at this ⊢; omega
    · have := cut_sum r (acc ++ [c])
      simp at this ⊢; omega
theorem parts_sum (z : Str) : ((partsOf z).map Str.length).sum + (partsOf z).length = z.length + 1 := by
  have h := cut_sum (cl z) []
  rw [← parts_cut, List.length_map, ← len_cl, List.map_map] at h
  have e : (partsOf z).map Str.length = (partsOf z).map (List.length ∘ cl) := List.map_congr_left fun p _ => len_cl p
  rw [e]
  simpa using h
theorem sum_take_le (l : List Nat) : ∀ n, (l.take n).sum ≤ l.sum := fun n => by
  have h := List.take_append_drop n l
  have h2 : l.sum = (l.take n).sum + (l.drop n).sum := by rw [← List.sum_append, h]
  omega
theorem parts_take_sum (z : Str) (n : Nat) : (((partsOf z).take n).map fun x => x.length).sum + ((partsOf z).take n).length * slash.length ≤ z.length + 1 := by
  have h1 := parts_sum z
  have h2 := sum_take_le ((partsOf z).map Str.length) n
  rw [← List.map_take] at h2
  have h3 : ((partsOf z).take n).length ≤ (partsOf z).length := by rw [List.length_take]; omega
  have h4 : slash.length = 1 := by decide +kernel
  have h5 : (((partsOf z).take n).map fun x => x.length).sum = (((partsOf z).take n).map Str.length).sum := rfl
  rw [h4, h5]; omega
/-- the values of a list of texts -/
theorem map_strs (l : List Str) (g : Str → Bool) (f : V → V) (h : ∀ z ∈ l, f (.str z) = .bl (g z)) : (l.map V.str).map f = (l.map g).map V.bl := by
  rw [List.map_map, List.map_map]
  exact List.map_congr_left h
/-! ### texts made sign by sign -/
theorem signs_of {R : Nat → Prop} : ∀ {xs ys : List V}, Paired (fun _ y => ∃ c, y = V.str (c1 c) ∧ R c) xs ys → ∃ zs : List Nat, ys = (zs.map c1).map V.str ∧ zs.length = xs.length ∧ ∀ c ∈ zs, R c
  | _, _, .nil => ⟨[], rfl, rfl, fun _ h => absurd h (by simp)⟩
  | _, _, .cons h t => by
    obtain ⟨c, rfl, hc⟩ := h
    obtain ⟨zs, rfl, hl, hz⟩ := signs_of t
    refine ⟨c :: zs, rfl, by simp [hl], fun d hd => ?_⟩
    rcases List.mem_cons.mp hd with e | e
    · subst e; exact hc
    · exact hz d e
theorem strs_of {R : V → Str → Prop} : ∀ {xs ys : List V}, Paired (fun x y => ∃ c, y = V.str c ∧ R x c) xs ys → ∃ zs : List Str, ys = zs.map V.str ∧ zs.length = xs.length ∧ Paired R xs zs
  | _, _, .nil => ⟨[], rfl, rfl, .nil⟩
  | _, _, .cons h t => by
    obtain ⟨c, rfl, hc⟩ := h
    obtain ⟨zs, rfl, hl, hz⟩ := strs_of t
    exact ⟨c :: zs, rfl, by simp [hl], .cons hc hz⟩
theorem joinL_nil : ∀ l : List (List Nat), TL.joinL [] l = l.flatten
  | [] => rfl
  | [p] => by simp [TL.joinL]
  | p :: q :: r => by
    show p ++ ([] ++ TL.joinL [] (q :: r)) = _
    rw [joinL_nil (q :: r)]
    simp
theorem cl_join (y : Str) (parts : List Str) : cl (Txt.join y parts) = TL.joinL (cl y) (parts.map cl) := by
  rw [TL.join_eq]
  exact TL.tl_join y parts
theorem cl_empty : cl ("" : Str) = [] := by decide +kernel
theorem cl_glue (parts : List Str) : cl (Txt.join "" parts) = (parts.map cl).flatten := by
  rw [cl_join, cl_empty, joinL_nil]
theorem cl_signs (zs : List Nat) : cl (Txt.join "" (zs.map c1)) = zs := by
  rw [cl_glue, List.map_map]
  induction zs with
  | nil => rfl
  | cons a r ih =>
    rw [List.map_cons, List.flatten_cons, ih]
    rfl
theorem sum_signs (zs : List Nat) : ((zs.map c1).map fun x => x.length).sum = zs.length := by
  induction zs with
  | nil => rfl
  | cons a r ih =>
    rw [List.map_cons, List.map_cons, List.sum_cons, ih, List.length_cons]
    have : (c1 a).length = 1 := rfl
    omega
theorem join_room (zs : List Nat) (h : zs.length ≤ 16777000) : ((zs.map c1).map fun x => x.length).sum + (zs.map c1).length * ("" : Str).length ≤ 16777216 := by
  have e : ("" : Str).length = 0 := by decide +kernel
  rw [sum_signs, e]
  omega
/-- * of an int -/
theorem mulOk_small {z : Str} {i : Int} (h1 : 0 ≤ i) (h2 : i < 1000) (h3 : z.length ≤ 1000) : PySem.MulOk z i := by
  have l : z.length * i.toNat ≤ 1000 * 1000 := Nat.mul_le_mul h3 (by omega)
  refine ⟨?_, fun h _ => ?_, fun _ _ => ?_⟩
  · rw [decide_eq_false (by omega), decide_eq_false (by omega)]; rfl
  · have q : (1000 : Int) ≤ (2 ^ 63 - 1) / i := by
      rw [Int.le_ediv_iff_mul_le (by omega)]
      omega
    omega
  · show decide (z.length * i.toNat > sizeLine) = false
    rw [sizeLine_eq]
    exact decide_eq_false (by omega)
/-! ### places in lists -/
theorem ixN_in {n : Nat} {i : Int} (h0 : 0 ≤ i) (h : i < n) : ixN n i = some i.toNat := by
  unfold ixN
  rw [if_pos h0, if_pos h]
theorem at_strs {zs : List Str} {i : Int} (h0 : 0 ≤ i) (h : i < zs.length) : ∃ z, atI (zs.map V.str) i = some (.str z) ∧ z ∈ zs ∧ zs[i.toNat]? = some z := by
  have e : i = ((i.toNat : Nat) : Int) := by omega
  have hl : i.toNat < zs.length := by omega
  have q : (zs.map V.str)[i.toNat]? = some (.str zs[i.toNat]) := by rw [List.getElem?_map, List.getElem?_eq_getElem hl]; rfl
  have := atI_nat q
  rw [← e] at this
  exact ⟨zs[i.toNat], this, List.getElem_mem _, List.getElem?_eq_getElem hl⟩
theorem map_set {α β : Type} (f : α → β) : ∀ (l : List α) (i : Nat) (a : α), (l.set i a).map f = (l.map f).set i (f a)
  | [], _, _ => rfl
  | _ :: _, 0, _ => rfl
  | _ :: r, i + 1, a => congrArg _ (map_set f r i a)
theorem mem_set {α : Type} {l : List α} {i : Nat} {a b : α} (h : b ∈ l.set i a) : b = a ∨ b ∈ l := by
  rcases List.mem_or_eq_of_mem_set h with h | h
  · exact .inr h
  · exact .inl h
theorem join_len (zs : List Str) : (Txt.join slash zs).length ≤ (zs.map fun x => x.length).sum + zs.length * slash.length := by
  have h4 : slash.length = 1 := by decide +kernel
  rw [len_cl, cl_join, slash_cl, h4]
  have h : ∀ l : List Str, (TL.joinL [47] (l.map cl)).length ≤ (l.map fun x => x.length).sum + l.length * 1 := fun l => by
    induction l with
    | nil => simp [TL.joinL]
    | cons x r ih =>
      have ex := len_cl x
      cases r with
      | nil =>
        show (cl x).length ≤ (x.length + 0) + 1 * 1
        omega
      | cons y s =>
        show (cl x ++ ([47] ++ TL.joinL [47] ((y :: s).map cl))).length ≤ (x.length + ((y :: s).map fun x => x.length).sum) + ((y :: s).length + 1) * 1
        rw [List.length_append, List.length_append, ← ex]
        simp only [List.length_cons, List.length_nil] at ih ⊢
        omega
  exact h zs
theorem ixN_last {n : Nat} (h : 0 < n) : ixN n (-1) = some (n - 1) := by
  unfold ixN
  rw [if_neg (by decide), if_pos (by omega)]
  congr 1
  omega
theorem set_last {α : Type} (l : List α) (x y : α) {n : Nat} (h : n = l.length) : (l ++ [x]).set n y = l ++ [y] := by
  subst h
  induction l with
  | nil => rfl
  | cons a r ih => exact congrArg (a :: ·) ih
/-- isinstance's wants of the built-in kinds -/
theorem isB {K : PySem.W.Frag} {H : Hp} {b : Bool} {Q : VK} (q : Q (.bl true) H) : rIsi K [.bl b, .ty "bool"] H Q := ⟨_, _, _, _, _, rfl, .ty _, .base (.bl b), kit_ty (by decide +kernel), q⟩
theorem isL {K : PySem.W.Frag} {H : Hp} {p : Addr} {xs : List V} {Q : VK} (h : H p = some (.lst xs)) (q : Q (.bl true) H) : rIsi K [.ref p, .ty "list"] H Q := ⟨_, _, _, _, _, rfl, .ty _, .base (.lst h), kit_ty (by decide +kernel), q⟩
theorem isS {K : PySem.W.Frag} {H : Hp} {z : Str} {Q : VK} (q : Q (.bl true) H) : rIsi K [.str z, .ty "str"] H Q := ⟨_, _, _, _, _, rfl, .ty _, .base (.str z), kit_ty (by decide +kernel), q⟩
theorem isT {K : PySem.W.Frag} {H : Hp} {p : Addr} {xs : List V} {Q : VK} (h : H p = some (.tup xs)) (q : Q (.bl true) H) : rIsi K [.ref p, .ty "tuple"] H Q := ⟨_, _, _, _, _, rfl, .ty _, .base (.tup h), kit_ty (by decide +kernel), q⟩
theorem isD {K : PySem.W.Frag} {H : Hp} {p : Addr} {xs : List (Key × V)} {Q : VK} (h : H p = some (.dK xs)) (q : Q (.bl true) H) : rIsi K [.ref p, .ty "dict"] H Q := ⟨_, _, _, _, _, rfl, .ty _, .base (.dK h), kit_ty (by decide +kernel), q⟩
theorem isI {K : PySem.W.Frag} {H : Hp} {i : Int} {Q : VK} (q : Q (.bl true) H) : rIsi K [.int i, .ty "int"] H Q := ⟨_, _, _, _, _, rfl, .ty _, .base (.int i), kit_ty (by decide +kernel), q⟩
theorem isIB {K : PySem.W.Frag} {H : Hp} {i : Int} {Q : VK} (q : Q (.bl false) H) : rIsi K [.int i, .ty "bool"] H Q := ⟨_, _, _, _, _, rfl, .ty _, .base (.int i), kit_ty (by decide +kernel), q⟩
end M

namespace M
open PySem PySem.Spec PyProof.Rows L2
/-! ### what lies beneath what -/
/-- q lies beneath p, as the program asks it -/
def beneathB (q p : Str) : Bool := Txt.startswith q (p ++ slash)
theorem cl_slash (p : Str) : cl (p ++ slash) = cl p ++ [47] := by rw [cl_app, slash_cl]
theorem beneath_iff (q p : Str) : beneathB q p = true ↔ ∃ r, cl q = cl p ++ 47 :: r := by
  have hy : TL.tl (p ++ slash) ≠ [] := by
    show cl (p ++ slash) ≠ []
    rw [cl_slash]; simp
  have h1 : beneathB q p = true ↔ TL.pre (cl (p ++ slash)) (cl q) = true := by
    have h := TL.at_iff (x := q) (y := p ++ slash) hy 0
    rw [List.drop_zero] at h
    rw [← show TL.tl (p ++ slash) = cl (p ++ slash) from rfl, ← show TL.tl q = cl q from rfl, ← h]
    show (decide (0 + (p ++ slash).length ≤ q.length) && _) = true ↔ (_ ∧ _)
    rw [Bool.and_eq_true, decide_eq_true_eq]
  rw [h1, cl_slash]
  show ((cl q).take (cl p ++ [47]).length == cl p ++ [47]) = true ↔ _
  rw [beq_iff_eq]
  constructor
  · intro h
    refine ⟨(cl q).drop (cl p ++ [47]).length, ?_⟩
    have e := List.take_append_drop (cl p ++ [47]).length (cl q)
    rw [h] at e
    generalize (cl q).drop (cl p ++ [47]).length = d at e
    rw [← e]; simp
  · rintro ⟨r, h⟩
    have e : cl q = (cl p ++ [47]) ++ r := by rw [h]; simp
    rw [e, List.take_left]
theorem cut_app : ∀ (x acc r : List Nat), cut47 acc (x ++ 47 :: r) = cut47 acc x ++ cut47 [] r
  | [], acc, r => by simp [cut47]
  | c :: x, acc, r => by
    show (if c = 47 then acc :: cut47 [] (x ++ 47 :: r) else cut47 (acc ++ [c]) (x ++ 47 :: r)) = (if c = 47 then acc :: cut47 [] x else cut47 (acc ++ [c]) x) ++ cut47 [] r
    split
    · rw [cut_app x [] r]; rfl
    · rw [cut_app x (acc ++ [c]) r]
theorem cut_ne (l acc : List Nat) : cut47 acc l ≠ [] := by
  cases l with
  | nil => simp [cut47]
  | cons c r =>
    unfold cut47
    split
    · simp
    · exact cut_ne r _
theorem joinL_app : ∀ (X Y : List (List Nat)), X ≠ [] → Y ≠ [] → TL.joinL [47] (X ++ Y) = TL.joinL [47] X ++ 47 :: TL.joinL [47] Y
  | [], _, h, _ => absurd rfl h
  | [x], [], _, h => absurd rfl h
  | [x], y :: Y, _, _ => by simp [TL.joinL]
  | x :: y :: X, Y, _, hY => by
    have ih := joinL_app (y :: X) Y (by simp) hY
    show x ++ ([47] ++ TL.joinL [47] (y :: X ++ Y)) = (x ++ ([47] ++ TL.joinL [47] (y :: X))) ++ _
    rw [ih]; simp
theorem joinL_cut : ∀ (l acc : List Nat), TL.joinL [47] (cut47 acc l) = acc ++ l
  | [], acc => by simp [cut47, TL.joinL]
  | c :: r, acc => by
    unfold cut47
    split
    · rename_i h
      subst h
      have := joinL_app [acc] (cut47 [] r) (by simp) (cut_ne _ _)
      rw [show acc :: cut47 [] r = [acc] ++ cut47 [] r from rfl, this, joinL_cut r []]
      simp [TL.joinL]
    · rw [joinL_cut r]; simp
theorem join_parts (z : Str) : Txt.join slash (partsOf z) = z := by
  refine cl_inj ?_
  rw [cl_join, slash_cl, parts_cut, joinL_cut]
  rfl
theorem cl_joinS (ps : List Str) : cl (Txt.join slash ps) = TL.joinL [47] (ps.map cl) := by rw [cl_join, slash_cl]
theorem parts_pos (z : Str) : 0 < (partsOf z).length := by
  have := cut_ne (cl z) []
  rw [← parts_cut] at this
  rcases h : partsOf z with _ | ⟨a, r⟩
  · rw [h] at this; simp at this
  · simp
theorem cl_mapInj : ∀ {a b : List Str}, a.map cl = b.map cl → a = b
  | [], [], _ => rfl
  | [], _ :: _, h => by simp at h
  | _ :: _, [], h => by simp at h
  | x :: a, y :: b, h => by
    rw [List.map_cons, List.map_cons] at h
    injection h with h1 h2
    rw [cl_inj h1, cl_mapInj h2]
theorem mem_above (q p : Str) : p ∈ aboveL q ↔ beneathB q p = true := by
  rw [beneath_iff]
  unfold aboveL
  constructor
  · intro h
    obtain ⟨i, hi, rfl⟩ := List.mem_map.mp h
    have hi := List.mem_range.mp hi
    refine ⟨TL.joinL [47] (((partsOf q).drop (i + 1)).map cl), ?_⟩
    rw [cl_joinS]
    have e : cl q = TL.joinL [47] (((partsOf q).take (i + 1)).map cl ++ ((partsOf q).drop (i + 1)).map cl) := by
      rw [← List.map_append, List.take_append_drop, ← cl_joinS, join_parts]
    rw [e, joinL_app]
    · intro z
      have := congrArg List.length z
      rw [List.length_map, List.length_take, List.length_nil] at this
      omega
    · intro z
      have := congrArg List.length z
      rw [List.length_map, List.length_drop] at this
      simp at this; omega
  · rintro ⟨r, h⟩
    have hp := parts_pos p
    have e : (partsOf q).map cl = (partsOf p).map cl ++ cut47 [] r := by rw [parts_cut, h, cut_app, ← parts_cut]
    have hl := congrArg List.length e
    rw [List.length_map, List.length_append, List.length_map] at hl
    have hc : 0 < (cut47 [] r).length := List.length_pos_iff.mpr (cut_ne _ _)
    have et : (partsOf q).take (partsOf p).length = partsOf p := by
      refine cl_mapInj ?_
      rw [List.map_take, e, List.take_left' (by rw [List.length_map])]
    refine List.mem_map.mpr ⟨(partsOf p).length - 1, List.mem_range.mpr (by omega), ?_⟩
    rw [show (partsOf p).length - 1 + 1 = (partsOf p).length by omega, et, join_parts]
/-- parts without a stroke, joined and cut again -/
theorem cut_free : ∀ (l acc : List Nat), 47 ∉ l → cut47 acc l = [acc ++ l]
  | [], acc, _ => by simp [cut47]
  | c :: r, acc, h => by
    have hc : c ≠ 47 := fun e => h (by rw [e]; exact List.mem_cons_self)
    unfold cut47
    rw [if_neg hc, cut_free r _ fun hm => h (List.mem_cons_of_mem _ hm)]
    simp
theorem cut_joinL : ∀ (X : List (List Nat)), X ≠ [] → (∀ x ∈ X, 47 ∉ x) → cut47 [] (TL.joinL [47] X) = X
  | [], h, _ => absurd rfl h
  | [x], _, h => by
    show cut47 [] x = [x]
    rw [cut_free x [] (h x List.mem_cons_self)]; rfl
  | x :: y :: X, _, h => by
    show cut47 [] (x ++ 47 :: TL.joinL [47] (y :: X)) = _
    rw [cut_app, cut_free x [] (h x List.mem_cons_self), cut_joinL (y :: X) (by simp) fun z hz => h z (List.mem_cons_of_mem _ hz)]
    rfl
theorem parts_join {ps : List Str} (hne : ps ≠ []) (h : ∀ p ∈ ps, 47 ∉ cl p) : partsOf (Txt.join slash ps) = ps := by
  refine cl_mapInj ?_
  rw [parts_cut, cl_joinS]
  refine cut_joinL _ (fun e => hne (List.map_eq_nil_iff.mp e)) fun x hx => ?_
  obtain ⟨p, hp, rfl⟩ := List.mem_map.mp hx
  exact h p hp
/-- one lies beneath the other just where its parts begin so -/
theorem beneath_join {A B : List Str} (hA : A ≠ []) (hB : B ≠ []) (fA : ∀ p ∈ A, 47 ∉ cl p) (fB : ∀ p ∈ B, 47 ∉ cl p) :
    beneathB (Txt.join slash B) (Txt.join slash A) = decide (A.length < B.length ∧ B.take A.length = A) := by
  rw [Bool.eq_iff_iff, beneath_iff, decide_eq_true_eq]
  constructor
  · rintro ⟨r, h⟩
    have e : B.map cl = A.map cl ++ cut47 [] r := by
      have h1 := parts_cut (Txt.join slash B)
      rw [h, cut_app, ← parts_cut, parts_join hA fA, parts_join hB fB] at h1
      exact h1
    have hl := congrArg List.length e
    rw [List.length_map, List.length_append, List.length_map] at hl
    have hc : 0 < (cut47 [] r).length := List.length_pos_iff.mpr (cut_ne _ _)
    refine ⟨by omega, cl_mapInj ?_⟩
    rw [List.map_take, e, List.take_left' (by rw [List.length_map])]
  · rintro ⟨hl, ht⟩
    refine ⟨TL.joinL [47] ((B.drop A.length).map cl), ?_⟩
    have e : B.map cl = A.map cl ++ (B.drop A.length).map cl := by
      rw [← List.map_append]
      congr 1
      conv => lhs; rw [← List.take_append_drop A.length B]
      rw [ht]
    rw [cl_joinS, cl_joinS, e, joinL_app]
    · intro z; exact hA (List.map_eq_nil_iff.mp z)
    · intro z
      have := congrArg List.length z
      rw [List.length_map, List.length_drop] at this
      simp at this; omega
theorem sgns_no47 : 47 ∉ sgns := by decide +kernel
/-! ### lists of texts -/
theorem strs_all {R : Str → Prop} : ∀ {xs ys : List V}, Paired (fun _ y => ∃ c, y = V.str c ∧ R c) xs ys → ∃ zs : List Str, ys = zs.map V.str ∧ zs.length = xs.length ∧ ∀ z ∈ zs, R z
  | _, _, .nil => ⟨[], rfl, rfl, fun _ h => absurd h (by simp)⟩
  | _, _, .cons h t => by
    obtain ⟨c, rfl, hc⟩ := h
    obtain ⟨zs, rfl, hl, hz⟩ := strs_all t
    refine ⟨c :: zs, rfl, by simp [hl], fun d hd => ?_⟩
    rcases List.mem_cons.mp hd with e | e
    · subst e; exact hc
    · exact hz d e
theorem eqV_strs (a b : Str) : eqV (.str a) (.str b) = decide (b = a) := by
  show (a == b) = _
  by_cases h : b = a
  · subst h; simp
  · rw [decide_eq_false h]; exact beq_eq_false_iff_ne.mpr fun q => h q.symm
theorem inV_strs (z : Str) (l : List Str) : inV (.str z) (l.map V.str) = decide (z ∈ l) := by
  show ((l.map V.str).any fun y => eqV y (.str z)) = _
  rw [List.any_map, Bool.eq_iff_iff, List.any_eq_true, decide_eq_true_eq]
  constructor
  · rintro ⟨y, hy, e⟩
    have e : eqV (.str y) (.str z) = true := e
    rw [eqV_strs] at e
    have := of_decide_eq_true e
    subst this; exact hy
  · intro h
    exact ⟨z, h, by show eqV (.str z) (.str z) = true; rw [eqV_strs]; simp⟩
theorem flat_strs (l : List Str) : (l.map V.str).all flatV = true := List.all_eq_true.mpr fun v hv => by
  obtain ⟨z, _, rfl⟩ := List.mem_map.mp hv
  rfl
theorem cutS_sub {z : Str} {lo hi : Option Int} {c : Nat} (h : c ∈ cl (cutS z lo hi)) : c ∈ cl z := by
  have h : c ∈ ((z.cps.toList.drop (HT.sIx z.length 0 lo)).take (HT.sIx z.length z.length hi - HT.sIx z.length 0 lo)) := by simpa [cutS] using h
  exact List.mem_of_mem_drop (List.mem_of_mem_take h)
theorem sum_le {l : List Str} {b : Nat} (h : ∀ z ∈ l, z.length ≤ b) : (l.map fun x => x.length).sum ≤ b * l.length := by
  induction l with
  | nil => simp
  | cons y r ih =>
    have := ih fun z hz => h z (List.mem_cons_of_mem _ hz)
    have := h y List.mem_cons_self
    rw [List.map_cons, List.sum_cons, List.length_cons, Nat.mul_add]; omega
theorem inV_above (p q : Str) : inV (.str p) ((aboveL q).map V.str) = beneathB q p := by
  rw [inV_strs, Bool.eq_iff_iff, decide_eq_true_eq, mem_above]
theorem slash_len : slash.length = 1 := by decide +kernel
end M

/-! ### == and != of things that are equal: lists, tuples, dicts, nested -/
namespace PySem.SeqAt
open AutoSeq1 (wpAny_loadPart')
open MeetsSeq MeetsSeq2 MeetsSeq3
section
variable {prog : Program} {w : World}
theorem m_tupEq (l b : Addr) (items items2 : Array Value) (n n2 : Nat) (dd dd2 : Option Addr) (sl sl2 : Array (Option Value)) (e : Nat → Bool) :
    MeetsIn prog w (Builtin.«tuple.__eq__» ⟨[.ref l, .ref b], []⟩)
      (fun A R s => s.heap.get? l = some { cls := .type "tuple", dict := dd, data := .seq items n, slots := sl } ∧ s.heap.get? b = some { cls := .type "tuple", dict := dd2, data := .seq items2 n2, slots := sl2 } ∧
        (∀ j (h1 : j < items.size) (h2 : j < items2.size), EqP prog w A.in1 s items[j] items2[j] (e j)) ∧
        R (.ok (.ret (.bool ((List.range (min items.size items2.size)).all e && items.size == items2.size)))) s) := by
  intro A R s h
  obtain ⟨hp, g, d, tk, os⟩ := s; obtain ⟨hl, hb, he, h⟩ := h
  have f2 := AutoSeq1.sub_tuple_tuple
  have hZ : (items.toList.zip items2.toList).length = min items.size items2.size := by simp
  wp_walk using wpAny_loadPart' hl, wpAny_loadPart' hb, wpAny_forIn_list _ (fun rest b s' => b.1 = none ∧ s' = ⟨hp, g, d, tk, os⟩ ∧ ∃ i, rest = (items.toList.zip items2.toList).drop i ∧
    R (.ok (.ret (.bool (((List.range (min items.size items2.size)).drop i).all e && items.size == items2.size)))) ⟨hp, g, d, tk, os⟩) _
  case turn =>
    rintro ⟨y, x⟩ rest b s' ⟨hb', rfl, i, hz, hR⟩
    have hlt : i < (items.toList.zip items2.toList).length := by
      rcases Nat.lt_or_ge i (items.toList.zip items2.toList).length with h' | h'
      · exact h'
      · rw [List.drop_of_length_le h'] at hz; cases hz
    have hm : i < min items.size items2.size := hZ ▸ hlt
    have h1 : i < items.size := Nat.lt_of_lt_of_le hm (Nat.min_le_left _ _)
    have h2 : i < items2.size := Nat.lt_of_lt_of_le hm (Nat.min_le_right _ _)
    rw [List.drop_eq_getElem_cons hlt] at hz
    injection hz with hyx hrest
    have hy : y = items[i] := by have := congrArg Prod.fst hyx; simpa using this
    have hx : x = items2[i] := by have := congrArg Prod.snd hyx; simpa using this
    subst hy hx
    have hd : (List.range (min items.size items2.size)).drop i = i :: (List.range (min items.size items2.size)).drop (i + 1) := by simp [List.drop_eq_getElem_cons, hm]
    rw [hd, List.all_cons] at hR
    refine wpAny_bind (he i h1 h2 _ _ ?_)
    cases hy : e i with
    | true =>
      rw [hy] at hR
      wp_walk
      exact ⟨rfl, rfl, i + 1, hrest, by simpa using hR⟩
    | false =>
      rw [hy] at hR
      wp_walk
      simpa using hR
  case fin =>
    rintro ⟨b1, b2⟩ s' ⟨hb', rfl, i, hz, hR⟩
    simp only at hb'
    subst hb'
    have hge : min items.size items2.size ≤ i := by
      rcases Nat.lt_or_ge i (items.toList.zip items2.toList).length with h' | h'
      · rw [List.drop_eq_getElem_cons h'] at hz; cases hz
      · exact hZ ▸ h'
    rw [List.drop_of_length_le (by simpa using hge)] at hR
    wp_walk
    simpa [Builtin.Tuple.tupleCompareSizes] using hR
  case h =>
    exact ⟨rfl, rfl, 0, rfl, by simpa using h⟩
end
end PySem.SeqAt
namespace PySem.SeqAt
open AutoSeq1 (wpAny_loadPart')
open MeetsSeq MeetsSeq2 MeetsSeq3
section
variable {prog : Program} {w : World}
theorem m_tupNe (l b : Addr) (items items2 : Array Value) (n n2 : Nat) (dd dd2 : Option Addr) (sl sl2 : Array (Option Value)) (e : Nat → Bool) :
    MeetsIn prog w (Builtin.«tuple.__ne__» ⟨[.ref l, .ref b], []⟩)
      (fun A R s => s.heap.get? l = some { cls := .type "tuple", dict := dd, data := .seq items n, slots := sl } ∧ s.heap.get? b = some { cls := .type "tuple", dict := dd2, data := .seq items2 n2, slots := sl2 } ∧
        (∀ j (h1 : j < items.size) (h2 : j < items2.size), EqP prog w A.in1 s items[j] items2[j] (e j)) ∧
        R (.ok (.ret (.bool (!((List.range (min items.size items2.size)).all e && items.size == items2.size))))) s) := by
  intro A R s h
  obtain ⟨hp, g, d, tk, os⟩ := s; obtain ⟨hl, hb, he, h⟩ := h
  have f2 := AutoSeq1.sub_tuple_tuple
  have hZ : (items.toList.zip items2.toList).length = min items.size items2.size := by simp
  wp_walk using wpAny_loadPart' hl, wpAny_loadPart' hb, wpAny_forIn_list _ (fun rest b s' => b.1 = none ∧ s' = ⟨hp, g, d, tk, os⟩ ∧ ∃ i, rest = (items.toList.zip items2.toList).drop i ∧
    R (.ok (.ret (.bool (!(((List.range (min items.size items2.size)).drop i).all e && items.size == items2.size))))) ⟨hp, g, d, tk, os⟩) _
  case turn =>
    rintro ⟨y, x⟩ rest b s' ⟨hb', rfl, i, hz, hR⟩
    have hlt : i < (items.toList.zip items2.toList).length := by
      rcases Nat.lt_or_ge i (items.toList.zip items2.toList).length with h' | h'
      · exact h'
      · rw [List.drop_of_length_le h'] at hz; cases hz
    have hm : i < min items.size items2.size := hZ ▸ hlt
    have h1 : i < items.size := Nat.lt_of_lt_of_le hm (Nat.min_le_left _ _)
    have h2 : i < items2.size := Nat.lt_of_lt_of_le hm (Nat.min_le_right _ _)
    rw [List.drop_eq_getElem_cons hlt] at hz
    injection hz with hyx hrest
    have hy : y = items[i] := by have := congrArg Prod.fst hyx; simpa using this
    have hx : x = items2[i] := by have := congrArg Prod.snd hyx; simpa using this
    subst hy hx
    have hd : (List.range (min items.size items2.size)).drop i = i :: (List.range (min items.size items2.size)).drop (i + 1) := by simp [List.drop_eq_getElem_cons, hm]
    rw [hd, List.all_cons] at hR
    refine wpAny_bind (he i h1 h2 _ _ ?_)
    cases hy : e i with
    | true =>
      rw [hy] at hR
      wp_walk
      exact ⟨rfl, rfl, i + 1, hrest, by simpa using hR⟩
    | false =>
      rw [hy] at hR
      wp_walk
      simpa using hR
  case fin =>
    rintro ⟨b1, b2⟩ s' ⟨hb', rfl, i, hz, hR⟩
    simp only at hb'
    subst hb'
    have hge : min items.size items2.size ≤ i := by
      rcases Nat.lt_or_ge i (items.toList.zip items2.toList).length with h' | h'
      · rw [List.drop_eq_getElem_cons h'] at hz; cases hz
      · exact hZ ▸ h'
    rw [List.drop_of_length_le (by simpa using hge)] at hR
    wp_walk
    simpa [Builtin.Tuple.tupleCompareSizes, bne] using hR
  case h =>
    exact ⟨rfl, rfl, 0, rfl, by simpa using h⟩
theorem rcP_tuples {A : Around} {s : Shared} {l b : Addr} {items items2 : Array Value} {e : Nat → Bool} (hl : s.heap.IsTuple l items) (hb : s.heap.IsTuple b items2) (hu : A.units < cLine)
    (he : ∀ j (h1 : j < items.size) (h2 : j < items2.size), EqP prog w A.in1 s items[j] items2[j] (e j)) (E Q : Value → Shared → Prop) (h : Q (.bool ((List.range (min items.size items2.size)).all e && items.size == items2.size)) s) : wpAny (model prog w) A (richCompare .Eq (.ref l) (.ref b)) Q E s := by
  obtain ⟨⟨cls, dd, data, sl⟩, ho, hc, n, hd⟩ := id hl
  obtain ⟨⟨cls2, dd2, data2, sl2⟩, ho2, hc2, n2, hd2⟩ := id hb
  simp only at hc hd hc2 hd2
  subst hc hd hc2 hd2
  have ta : s.TypeIs (.ref l) "tuple" := ⟨_, ho, rfl⟩
  have tb : s.TypeIs (.ref b) "tuple" := ⟨_, ho2, rfl⟩
  exact wpAny_richCompare_same_room (op := .Eq) ta tb F.slot_tuple_eq (call_meetsIn F.slot_tuple_eq ta F.entry_tuple_eq (F.args_tuple_eq_2 _ _) (m_tupEq l b items items2 n n2 dd dd2 sl sl2 e)
    ⟨ho, ho2, he, show Value.bool _ ≠ Value.notImplemented ∧ Q (.bool _) s from ⟨(fun x => nomatch x), h⟩⟩) hu
theorem rcN_tuples {A : Around} {s : Shared} {l b : Addr} {items items2 : Array Value} {e : Nat → Bool} (hl : s.heap.IsTuple l items) (hb : s.heap.IsTuple b items2) (hu : A.units < cLine)
    (he : ∀ j (h1 : j < items.size) (h2 : j < items2.size), EqP prog w A.in1 s items[j] items2[j] (e j)) (E Q : Value → Shared → Prop) (h : Q (.bool (!((List.range (min items.size items2.size)).all e && items.size == items2.size))) s) : wpAny (model prog w) A (richCompare .NotEq (.ref l) (.ref b)) Q E s := by
  obtain ⟨⟨cls, dd, data, sl⟩, ho, hc, n, hd⟩ := id hl
  obtain ⟨⟨cls2, dd2, data2, sl2⟩, ho2, hc2, n2, hd2⟩ := id hb
  simp only at hc hd hc2 hd2
  subst hc hd hc2 hd2
  have ta : s.TypeIs (.ref l) "tuple" := ⟨_, ho, rfl⟩
  have tb : s.TypeIs (.ref b) "tuple" := ⟨_, ho2, rfl⟩
  exact wpAny_richCompare_same_room (op := .NotEq) ta tb F.slot_tuple_ne (call_meetsIn F.slot_tuple_ne ta F.entry_tuple_ne (F.args_tuple_ne_2 _ _) (m_tupNe l b items items2 n n2 dd dd2 sl sl2 e)
    ⟨ho, ho2, he, show Value.bool _ ≠ Value.notImplemented ∧ Q (.bool _) s from ⟨(fun x => nomatch x), h⟩⟩) hu
theorem m_lstNeLoop (l b : Addr) (items items2 : Array Value) (n n2 : Nat) (dd dd2 : Option Addr) (sl sl2 : Array (Option Value)) (hsz : items.size = items2.size) (e : Nat → Bool) (k : Nat) :
    ∀ i : Nat, items.size - i = k → MeetsIn prog w (Builtin.«list.__eq__.loop» ⟨[.ref l, .ref b, rawInt i, rawInt 3], []⟩)
      (fun A R s => s.heap.get? l = some { cls := .type "list", dict := dd, data := .seq items n, slots := sl } ∧ s.heap.get? b = some { cls := .type "list", dict := dd2, data := .seq items2 n2, slots := sl2 } ∧
        (∀ j (h1 : j < items.size) (h2 : j < items2.size), EqP prog w A.in1 s items[j] items2[j] (e j)) ∧
        R (.ok (.ret (.bool (!((List.range items.size).drop i).all e)))) s) := by
  induction k with
  | zero =>
    intro i hk A R s h
    obtain ⟨hp, g, d, tk, os⟩ := s; obtain ⟨hl, hb, he, h⟩ := h
    wp_walk using wpAny_loadPart' hl, wpAny_loadPart' hb
    have hi1 : items[((i : Nat) : Int).toNat]? = none := by simp; omega
    have hi2 : items2[((i : Nat) : Int).toNat]? = none := by simp; omega
    have hd : (List.range items.size).drop i = [] := by simp; omega
    rw [hd] at h
    rw [hi1, hi2]
    wp_walk using wpAny_loadPart' hl, wpAny_loadPart' hb
    show R (.ok (.ret (.bool (items.size != items2.size)))) _
    rw [hsz]
    simpa using h
  | succ k ih =>
    intro i hk A R s h
    obtain ⟨hp, g, d, tk, os⟩ := s; obtain ⟨hl, hb, he, h⟩ := h
    wp_walk using wpAny_loadPart' hl, wpAny_loadPart' hb
    have hlt : i < items.size := by omega
    have hlt2 : i < items2.size := by omega
    have hi1 : items[((i : Nat) : Int).toNat]? = some items[i] := by simp [hlt]
    have hi2 : items2[((i : Nat) : Int).toNat]? = some items2[i] := by simp [hlt2]
    have hd : (List.range items.size).drop i = i :: (List.range items.size).drop (i + 1) := by simp [List.drop_eq_getElem_cons, hlt]
    have hc : ((i : Int) + 1) = ((i + 1 : Nat) : Int) := by push_cast; rfl
    rw [hd, List.all_cons] at h
    rw [hi1, hi2]
    refine wpAny_bind (he i hlt hlt2 _ _ ?_)
    cases hb' : e i with
    | true =>
      rw [hb'] at h
      wp_walk
      rw [hc]
      exact ⟨plainId_quiet plain_eq_loop _, codeAny_builtin entry_eq_loop (by
        rw [Around.under_plainId plain_eq_loop _]
        exact ih (i + 1) (by omega) A R _ ⟨hl, hb, he, by simpa using h⟩)⟩
    | false =>
      rw [hb'] at h
      wp_walk using wpAny_loadPart' hl, wpAny_loadPart' hb
      rw [hi1, hi2]
      wp_walk
      simpa using h
theorem m_lstNe (l b : Addr) (items items2 : Array Value) (n n2 : Nat) (dd dd2 : Option Addr) (sl sl2 : Array (Option Value)) (hsz : items.size = items2.size) (e : Nat → Bool) :
    MeetsIn prog w (Builtin.«list.__ne__» ⟨[.ref l, .ref b], []⟩)
      (fun A R s => s.heap.get? l = some { cls := .type "list", dict := dd, data := .seq items n, slots := sl } ∧ s.heap.get? b = some { cls := .type "list", dict := dd2, data := .seq items2 n2, slots := sl2 } ∧
        (∀ j (h1 : j < items.size) (h2 : j < items2.size), EqP prog w A.in1 s items[j] items2[j] (e j)) ∧
        R (.ok (.ret (.bool (!(List.range items.size).all e)))) s) := by
  intro A R s h
  obtain ⟨hp, g, d, tk, os⟩ := s; obtain ⟨hl, hb, he, h⟩ := h
  have f3 := AutoSeq1.sub_list_list
  have hne : ¬ (items.size != items2.size) = true := by simp [hsz]
  wp_walk using wpAny_loadPart' hl, wpAny_loadPart' hb
  exact ⟨plainId_quiet plain_eq_loop _, codeAny_builtin entry_eq_loop (by
    rw [Around.under_plainId plain_eq_loop _]
    exact m_lstNeLoop l b items items2 n n2 dd dd2 sl sl2 hsz e _ 0 rfl A R _ ⟨hl, hb, he, by simpa using h⟩)⟩
theorem rcN_lists {A : Around} {s : Shared} {l b : Addr} {items items2 : Array Value} {e : Nat → Bool} (hl : s.heap.IsList l items) (hb : s.heap.IsList b items2) (hsz : items.size = items2.size) (hu : A.units < cLine)
    (he : ∀ j (h1 : j < items.size) (h2 : j < items2.size), EqP prog w A.in1 s items[j] items2[j] (e j)) (E Q : Value → Shared → Prop) (h : Q (.bool (!(List.range items.size).all e)) s) : wpAny (model prog w) A (richCompare .NotEq (.ref l) (.ref b)) Q E s := by
  obtain ⟨⟨cls, dd, data, sl⟩, ho, hc, n, hd⟩ := id hl
  obtain ⟨⟨cls2, dd2, data2, sl2⟩, ho2, hc2, n2, hd2⟩ := id hb
  simp only at hc hd hc2 hd2
  subst hc hd hc2 hd2
  have ta : s.TypeIs (.ref l) "list" := ⟨_, ho, rfl⟩
  have tb : s.TypeIs (.ref b) "list" := ⟨_, ho2, rfl⟩
  exact wpAny_richCompare_same_room (op := .NotEq) ta tb F.slot_list_ne (call_meetsIn F.slot_list_ne ta F.entry_list_ne (F.args_list_ne_2 _ _) (m_lstNe l b items items2 n n2 dd dd2 sl sl2 hsz e)
    ⟨ho, ho2, he, show Value.bool _ ≠ Value.notImplemented ∧ Q (.bool _) s from ⟨(fun x => nomatch x), h⟩⟩) hu
end
end PySem.SeqAt
namespace PySem.W
open PySem PySem.Calls PyProof.Rows PyProof.V PySem.Spec
section
variable {prog : Program} {w : World} {K : Type} [DecidableEq K] {knd : KeyKind prog w K} {A : Around} {E : Value → Shared → Prop} {s : Shared}
theorem rcN_dicts {a b : Addr} {ka kb : List (K × Value)} {r : Bool} (ha : (a == sysModules) = false) (hb : (b == sysModules) = false)
    (da : s.heap.DictOf knd a ka) (db : s.heap.DictOf knd b kb) (hu : A.units < cLine) (hits : ka.length = kb.length → KeqHitsP prog w A.in1 s kb ka r) (E Q : Value → Shared → Prop) (h : Q (.bool (!(ka.length == kb.length && r))) s) : wpAny (model prog w) A (richCompare .NotEq (.ref a) (.ref b)) Q E s := by
  refine wpAny_richCompare_same_room (op := .NotEq) da.typeIs db.typeIs PySem.F.slot_dict_ne (wpAny_call_entry PySem.F.slot_dict_ne da.typeIs PySem.F.entry_dict_ne ?_ (PySem.F.args_dict_ne_2 _ _)) hu
  show wpAny _ _ (Builtin.Dict.dictSlotArgs "__ne__" ⟨[.ref a, .ref b], []⟩ >>= _) _ _ s
  refine wpAny_bind ?_
  unfold Builtin.Dict.dictSlotArgs
  refine wpAny_bind (wpAny_notOrdered_dict da.typeIs ?_)
  show wpAny _ _ (pure (Value.ref a, Value.ref b)) _ _ s
  refine wpAny_pure ?_
  refine wpAny_bind (wpAny_isInstance (T := "dict") db.typeIs PySem.F.sub_dict_dict ?_)
  simp only [Bool.not_true, Bool.false_eq_true, if_false]
  refine wpAny_bind (wpAny_pure (wpAny_bind (wpAny_pure ?_)))
  refine wpAny_bind (samePairsP ha hb da db hits ?_)
  refine wpAny_pure ⟨_, rfl, ?_, ?_⟩
  · exact fun x => nomatch x
  · simpa using h
end
end PySem.W
namespace M
open PySem PySem.Spec PyProof.Rows L2
/-- two lists, two tuples of equal items; two dicts of the same keys, their values equal -/
def EqR (K : PySem.W.Frag) (H : Hp) (E : V → V → Prop) (x y : V) : Prop :=
  (∃ a b xs ys, x = .ref a ∧ y = .ref b ∧ SqL K H a xs ∧ SqL K H b ys ∧ Paired E xs ys) ∨
  (∃ a b xs ys, x = .ref a ∧ y = .ref b ∧ SqT K H a xs ∧ SqT K H b ys ∧ Paired E xs ys) ∨
    ∃ a b ks ls, x = .ref a ∧ y = .ref b ∧ Rd H a (.dK ks) ∧ Rd H b (.dK ls) ∧ ks.length = ls.length ∧ ∀ p ∈ ks, ∃ u, valV ls p.1 = some u ∧ E p.2 u
def EqN (K : PySem.W.Frag) (H : Hp) : Nat → V → V → Prop
  | 0 => fun _ _ => False
  | n + 1 => fun x y => (x = y ∧ flatB x = true) ∨ (∃ a, x = .ref a ∧ y = .ref a) ∨ EqR K H (EqN K H n) x y
section
variable {X : Cx} {pins : List (Addr × Obj)} {σ : L2.St} {H : Hp} {s : Shared}
theorem EqR.refs {K : PySem.W.Frag} {F : V → V → Prop} {x y : V} (h : EqR K H F x y) : ∃ a b, x = .ref a ∧ y = .ref b := by
  rcases h with ⟨a, b, _, _, e1, e2, _⟩ | ⟨a, b, _, _, e1, e2, _⟩ | ⟨a, b, _, _, e1, e2, _⟩ <;> exact ⟨a, b, e1, e2⟩
theorem eqR_both (I : Inv X pins σ H s) {A : Around} {F : V → V → Prop} (hu : A.units < cLine) (ih : ∀ x y v u, F x y → RelV x v → RelV y u → SeqAt.EqP X.prog X.w A.in1 s v u true) {x y : V} {v u : Value} (h : EqR X.K H F x y) (rx : RelV x v) (ry : RelV y u)
    (E Q : Value → Shared → Prop) : (Q (.bool true) s → wpAny (model X.prog X.w) A (richCompare .Eq v u) Q E s) ∧ (Q (.bool false) s → wpAny (model X.prog X.w) A (richCompare .NotEq v u) Q E s) := by
  rcases h with ⟨a, b, xs, ys, rfl, rfl, ha, hb, hp⟩ | ⟨a, b, xs, ys, rfl, rfl, ha, hb, hp⟩ | ⟨a, b, ks, ls, rfl, rfl, ha, hb, hl, hp⟩
  · cases (show v = Value.ref a from rx)
    cases (show u = Value.ref b from ry)
    obtain ⟨us, r1, p1, _⟩ := I.list ha
    obtain ⟨ws, r2, p2, _⟩ := I.list hb
    have hsz : us.toArray.size = ws.toArray.size := by
      rw [List.size_toArray, List.size_toArray, ← r1.length, ← r2.length]
      exact Paired.length hp
    have it : ∀ j (h1 : j < us.toArray.size) (h2 : j < ws.toArray.size), SeqAt.EqP X.prog X.w A.in1 s us.toArray[j] ws.toArray[j] true := fun j h1 h2 => by
      have k := items_run ih hp r1 r2 j (by simpa using h1) (by simpa using h2)
      simpa using k
    have al : ((List.range us.toArray.size).all fun _ => true) = true := List.all_eq_true.mpr fun _ _ => rfl
    exact ⟨fun q => SeqAt.rcP_lists (e := fun _ => true) p1.isList p2.isList hsz hu it E Q (by rw [al]; exact q), fun q => SeqAt.rcN_lists (e := fun _ => true) p1.isList p2.isList hsz hu it E Q (by rw [al]; exact q)⟩
  · cases (show v = Value.ref a from rx)
    cases (show u = Value.ref b from ry)
    obtain ⟨us, r1, p1, _⟩ := I.tuple ha
    obtain ⟨ws, r2, p2, _⟩ := I.tuple hb
    have hsz : us.toArray.size = ws.toArray.size := by
      rw [List.size_toArray, List.size_toArray, ← r1.length, ← r2.length]
      exact Paired.length hp
    have it : ∀ j (h1 : j < us.toArray.size) (h2 : j < ws.toArray.size), SeqAt.EqP X.prog X.w A.in1 s us.toArray[j] ws.toArray[j] true := fun j h1 h2 => by
      have k := items_run ih hp r1 r2 j (by simpa using h1) (by simpa using h2)
      simpa using k
    have al : (((List.range (min us.toArray.size ws.toArray.size)).all fun _ => true) && us.toArray.size == ws.toArray.size) = true := by
      rw [hsz]; simp
    exact ⟨fun q => SeqAt.rcP_tuples (e := fun _ => true) p1 p2 hu it E Q (by rw [al]; exact q), fun q => SeqAt.rcN_tuples (e := fun _ => true) p1 p2 hu it E Q (by rw [al]; exact q)⟩
  · cases (show v = Value.ref a from rx)
    cases (show u = Value.ref b from ry)
    obtain ⟨_, ya, va, ra, da⟩ := dk_rd I.hok ha
    obtain ⟨_, yb, vb, rb, db⟩ := dk_rd I.hok hb
    have e : (va.length == vb.length && true) = true := by
      rw [show va.length = vb.length by rw [← ra.length, ← rb.length]; exact hl]; simp
    exact ⟨fun q => PySem.W.rcP_dicts (knd := mixKind X.prog X.w) (r := true) ya yb da db hu (fun _ => hits_run ih rb ra hp) E Q (by rw [e]; exact q), fun q => PySem.W.rcN_dicts (knd := mixKind X.prog X.w) (r := true) ya yb da db hu (fun _ => hits_run ih rb ra hp) E Q (by rw [e]; exact q)⟩
theorem eqN_run (I : Inv X pins σ H s) : ∀ (n : Nat) (A : Around), A.units + n < cLine → ∀ (x y : V) (v u : Value), EqN X.K H n x y → RelV x v → RelV y u → SeqAt.EqP X.prog X.w A s v u true
  | 0, _, _, _, _, _, _, h, _, _ => (show False from h).elim
  | n + 1, A, hu, x, y, v, u, h, rx, ry => by
    rcases h with ⟨rfl, f⟩ | ⟨a, rfl, rfl⟩ | h
    · exact (eqAt_same rx ry f).eqP
    · cases (show v = Value.ref a from rx)
      cases (show u = Value.ref a from ry)
      exact (SeqAt.EqAt.same _).eqP
    · have step := fun E Q => (eqR_both I (A := A) (by omega) (eqN_run I n A.in1 (by show A.units + 1 + n < cLine; omega)) h rx ry E Q).1
      obtain ⟨a, b, rfl, rfl⟩ := h.refs
      cases (show v = Value.ref a from rx)
      cases (show u = Value.ref b from ry)
      by_cases e : a = b
      · subst e
        exact (SeqAt.EqAt.same _).eqP
      · exact SeqAt.eqP_refs e step
end
section
variable {X : Cx}
def rEqT (K : PySem.W.Frag) : R2 := fun x y H Q => EqR K H (EqN K H 8) x y ∧ Q (.bl true) H
def rNeT (K : PySem.W.Frag) : R2 := fun x y H Q => EqR K H (EqN K H 8) x y ∧ Q (.bl false) H
theorem op_eqT (hu : X.A.units + 64 < cLine) : OpR X (compareOp .Eq) (rEqT X.K) := by
  intro pins s σ H x y v u Q I rx ry h
  obtain ⟨h, q⟩ := h
  exact (eqR_both I (A := X.A) (by omega) (eqN_run I 8 X.A.in1 (by show X.A.units + 1 + 8 < cLine; omega)) h rx ry _ _).1 ⟨.bl true, H, I, rfl, q⟩
theorem op_neT (hu : X.A.units + 64 < cLine) : OpR X (compareOp .NotEq) (rNeT X.K) := by
  intro pins s σ H x y v u Q I rx ry h
  obtain ⟨h, q⟩ := h
  exact (eqR_both I (A := X.A) (by omega) (eqN_run I 8 X.A.in1 (by show X.A.units + 1 + 8 < cLine; omega)) h rx ry _ _).2 ⟨.bl false, H, I, rfl, q⟩
end
end M

namespace M
open PySem PySem.Spec PyProof.Rows L2
theorem b01 (b : Bool) : 0 ≤ (if b = true then (1 : Int) else 0) ∧ (if b = true then (1 : Int) else 0) ≤ 1 := by cases b <;> decide
theorem mul_b {k : Int} {b : Bool} (h : Bits 1048576 k) : CMulV k (if b = true then 1 else 0) := Bits.mul (m := 40) h (Bits.small (by have := b01 b; omega) (by have := b01 b; omega)) (by decide)
theorem mul_sb {k : Int} {b : Bool} (h1 : 0 ≤ k) (h2 : k < 1000000) : CMulV k (if b = true then 1 else 0) := Bits.mul (n := 40) (m := 40) (Bits.small (by omega) (by omega)) (Bits.small (by have := b01 b; omega) (by have := b01 b; omega)) (by decide)
theorem at_ints {ns : List Int} {i : Int} (h0 : 0 ≤ i) (h : i < ns.length) : ∃ n, atI (ns.map V.int) i = some (.int n) ∧ n ∈ ns := by
  obtain ⟨v, h1, h2⟩ := at_inV (xs := ns.map V.int) h0 (by rw [List.length_map]; exact h)
  obtain ⟨n, hn, rfl⟩ := List.mem_map.mp h2
  exact ⟨n, h1, hn⟩
theorem at2 {x y : V} (b : Bool) : atI [x, y] (if b = true then (1 : Int) else 0) = some (if b = true then y else x) := by cases b <;> rfl
theorem mul_26 {k : Int} {b : Bool} (h : Bits 1048576 k) : CMulV k (if b = true then 26 else 1) := Bits.mul (m := 40) h (Bits.small (by cases b <;> decide) (by cases b <;> decide)) (by decide)
theorem at2i {i j : Int} (b : Bool) : atI [V.int i, V.int j] (if b = true then (1 : Int) else 0) = some (.int (if b = true then j else i)) := by cases b <;> rfl
theorem if_int (b : Bool) (i j : Int) : (if b = true then V.int i else V.int j) = V.int (if b = true then i else j) := by cases b <;> rfl
theorem mul_le {k : Int} {b : Bool} (h1 : 0 ≤ k) : 0 ≤ k * (if b = true then (1 : Int) else 0) ∧ k * (if b = true then (1 : Int) else 0) ≤ k := by
  cases b
  · show 0 ≤ k * 0 ∧ k * 0 ≤ k
    omega
  · show 0 ≤ k * 1 ∧ k * 1 ≤ k
    omega
def nmAt (s sz : Int) : Int := s / 20 % sz * (if decide (V.int (s / 5 % 4) = V.int 1) = true then 1 else 0)
/-- a text of signs of a part, one to twelve -/
def NameOk (z : Str) : Prop := (∀ c ∈ cl z, c ∈ sgns) ∧ 1 ≤ z.length ∧ z.length ≤ 12
theorem NameOk.part {z : Str} (h : NameOk z) (h1 : z ≠ (".": Str)) (h2 : z ≠ ("..": Str)) : isPartB z = true := by
  rw [part_yes h1 h2, decide_eq_true h.2.1, decide_eq_true h.2.2, Bool.and_self, Bool.true_and, List.all_eq_true]
  exact fun c hc => decide_eq_true (h.1 c hc)
theorem glue_len (zs : List Nat) : (Txt.join "" (zs.map c1)).length = zs.length := by rw [len_cl, cl_signs]
theorem NameOk.signs {zs : List Nat} (h : ∀ c ∈ zs, c ∈ sgns) (h1 : 1 ≤ zs.length) (h2 : zs.length ≤ 12) : NameOk (Txt.join "" (zs.map c1)) := ⟨by rw [cl_signs]; exact h, by rw [glue_len]; exact h1, by rw [glue_len]; exact h2⟩
theorem NameOk.mid {zs : List Nat} {c : Nat} {n sz : Int} (h : ∀ c ∈ zs, c ∈ sgns) (hl : zs.length = 12) (hc : c ∈ sgns) (h0 : 0 ≤ n) (hn : n < sz) (hs : sz ≤ 12) :
    NameOk (Txt.join "" ((zs.take n.toNat).map c1) ++ c1 c ++ Txt.join "" (((zs.drop n.toNat).take ((sz - 1).toNat - n.toNat)).map c1)) := by
  refine ⟨?_, ?_, ?_⟩
  · intro d hd
    rw [cl_app, cl_app, cl_signs, cl_signs, cl_c1, List.mem_append, List.mem_append] at hd
    rcases hd with (hd | hd) | hd
    · exact h d (List.mem_of_mem_take hd)
    · rw [List.mem_singleton.mp hd]; exact hc
    · exact h d (List.mem_of_mem_drop (List.mem_of_mem_take hd))
  all_goals
    rw [len_app, len_app, glue_len, glue_len, len_c1, List.length_take, List.length_take, List.length_drop]
    omega
theorem part_nm {z : Str} (h : isPartB z = true) : NameOk z := by
  by_cases h1 : z = (".": Str) ∨ z = ("..": Str)
  · rw [part_no h1] at h; cases h
  · rw [part_yes (fun e => h1 (.inl e)) (fun e => h1 (.inr e)), Bool.and_eq_true, Bool.and_eq_true, decide_eq_true_eq, decide_eq_true_eq, List.all_eq_true] at h
    exact ⟨fun c hc => of_decide_eq_true (h.2 c hc), h.1.1, h.1.2⟩
theorem part_47 {z : Str} (h : isPartB z = true) : 47 ∉ cl z := fun hc => sgns_no47 ((part_nm h).1 _ hc)
/-- parts joined make a path -/
theorem path_join {ps : List Str} (hne : ps ≠ []) (h : ∀ p ∈ ps, isPartB p = true) (hl : ps.length ≤ 8) : isPathB (Txt.join slash ps) = true := by
  rw [isPathB, parts_join hne fun p hp => part_47 (h p hp), decide_eq_true hl, Bool.true_and, List.all_eq_true]
  exact h
theorem path_len {z : Str} (h : isPathB z = true) : z.length ≤ 103 := by
  rw [isPathB, Bool.and_eq_true, decide_eq_true_eq, List.all_eq_true] at h
  have hs := parts_sum z
  have hb := sum_le (l := partsOf z) (b := 12) fun p hp => (part_nm (h.2 p hp)).2.2
  have : ((partsOf z).map Str.length).sum ≤ 12 * (partsOf z).length := hb
  omega
theorem join_parts_room {ps : List Str} (h : ∀ p ∈ ps, isPartB p = true) (hl : ps.length ≤ 8) : (ps.map fun x => x.length).sum + ps.length * slash.length ≤ 16777216 := by
  have hb := sum_le (l := ps) (b := 12) fun p hp => (part_nm (h p hp)).2.2
  rw [slash_len]; omega
/-- the signs of lines -/
def lineS : Str := " !\"#$&'()*+,-./0123456789:;<=>?@ABCDEFGHIJKLMNOPQRSTUVWXYZ[\\]^_`" ++ "abcdefghijklmnopqrstuvwxyz{|}~\n\t"
theorem lineS_len : (cl lineS).length = 96 := by decide +kernel
theorem lineA_len : (" !\"#$&'()*+,-./0123456789:;<=>?@ABCDEFGHIJKLMNOPQRSTUVWXYZ[\\]^_`" : Str).length + ("abcdefghijklmnopqrstuvwxyz{|}~\n\t" : Str).length ≤ 16777216 := by decide +kernel
theorem lineS_small : lineS.length ≤ sizeLine := sl_of (by rw [len_cl, lineS_len]; decide)
theorem line_at {i : Int} (h0 : 0 ≤ i) (h : i < 96) : ∃ c, atI (cl lineS) i = some c ∧ c ∈ cl lineS := at_in h0 (by rw [lineS_len]; exact h)
theorem log_small {i : Int} (h0 : 0 ≤ i) (h : i < 1000000) : i.natAbs.log2 < 1920 := Nat.lt_of_le_of_lt (Bits.log2 (Bits.small (by omega) (by omega))) (by decide)
theorem tops_part : ∀ i : Fin 200, isPartB (("tops" : Str) ++ Str.ofString (toString ((0 : Int) + ((i.val : Nat) : Int)))) = true := by decide +kernel
theorem tops_len : ∀ i : Fin 200, (("tops" : Str).length + (Str.ofString (toString ((0 : Int) + ((i.val : Nat) : Int)))).length ≤ 20) := by decide +kernel
theorem join2 (a b : Str) : a ++ slash ++ b = Txt.join slash [a, b] := by
  refine cl_inj ?_
  rw [cl_joinS, cl_app, cl_app, slash_cl]
  simp [TL.joinL]
theorem path2 {a b : Str} (ha : isPartB a = true) (hb : isPartB b = true) : isPathB (a ++ slash ++ b) = true := by
  rw [join2]
  refine path_join (by simp) (fun p hp => ?_) (by simp)
  simp only [List.mem_cons, List.mem_nil_iff, or_false] at hp
  rcases hp with e | e
  · subst e; exact ha
  · subst e; exact hb
end M

namespace M
open PySem PySem.Spec PyProof.Rows L2
/-! ### dicts from texts -/
theorem call_lenRd {X : Cx} : CallR X (.builtin "len") (fun xs H Q => ∃ a kvs, xs = [V.ref a] ∧ Rd H a (.dK kvs) ∧ Q (.int kvs.length) H) := by
  intro pins s σ H xs us Q I r h
  obtain ⟨a, kvs, rfl, ha, q⟩ := h
  obtain ⟨u, rfl, ru⟩ := vals1 r
  cases ru
  exact d_len I ha fun t s' I' => ⟨.int kvs.length, H, I', ⟨t, rfl⟩, q⟩
abbrev Tr := List (Str × V)
def kvs (T : Tr) : List (Key × V) := T.map fun p => (.inr p.1, p.2)
abbrev keys (T : Tr) : List Str := T.map (·.1)
theorem kvs_val (T : Tr) (k : Str) : valV (kvs T) (.inr k) = valV T k := by
  induction T with
  | nil => rfl
  | cons p r ih =>
    by_cases e : p.1 = k
    · rw [valV_pos e]; exact valV_pos (p := ((.inr p.1 : Key), p.2)) (by rw [e])
    · rw [valV_neg e, ← ih]; exact valV_neg (p := ((.inr p.1 : Key), p.2)) (fun z => e (Sum.inr.inj z))
theorem kvs_put (T : Tr) (k : Str) (v : V) : putK (kvs T) (.inr k) v = kvs (putK T k v) := by
  have h1 : ((kvs T).any fun kv => decide (kv.1 = .inr k)) = T.any fun kv => decide (kv.1 = k) := by
    rw [valV_any, valV_any, kvs_val]
  unfold putK
  rw [h1]
  split
  · unfold kvs
    rw [List.map_map, List.map_map]
    refine List.map_congr_left fun p _ => ?_
    by_cases e : p.1 = k
    · show (if (Sum.inr p.1 : Key) = .inr k then _ else _) = _
      rw [if_pos (by rw [e])]
      show _ = ((Sum.inr (if p.1 = k then (p.1, v) else p).1 : Key), (if p.1 = k then (p.1, v) else p).2)
      rw [if_pos e]
    · show (if (Sum.inr p.1 : Key) = .inr k then _ else _) = _
      rw [if_neg (fun z => e (Sum.inr.inj z))]
      show _ = ((Sum.inr (if p.1 = k then (p.1, v) else p).1 : Key), (if p.1 = k then (p.1, v) else p).2)
      rw [if_neg e]
  · unfold kvs
    rw [List.map_append]; rfl
theorem kvs_drop (T : Tr) (k : Str) : dropK (kvs T) (.inr k) = kvs (dropK T k) := by
  unfold dropK kvs
  rw [List.filter_map]
  congr 1
  refine List.filter_congr fun p _ => ?_
  show decide ((Sum.inr p.1 : Key) ≠ .inr k) = decide (p.1 ≠ k)
  by_cases e : p.1 = k
  · rw [decide_eq_false (show ¬ ((Sum.inr p.1 : Key) ≠ .inr k) from fun z => z (by rw [e])), decide_eq_false (show ¬ (p.1 ≠ k) from fun z => z e)]
  · rw [decide_eq_true (show (Sum.inr p.1 : Key) ≠ .inr k from fun z => e (Sum.inr.inj z)), decide_eq_true (show p.1 ≠ k from e)]
theorem kvs_len (T : Tr) : (kvs T).length = T.length := List.length_map _
theorem kvs_keys (T : Tr) : ((kvs T).map fun kv => kV kv.1) = (keys T).map V.str := by
  unfold kvs keys
  rw [List.map_map, List.map_map]; rfl
theorem val_mem {T : Tr} {k : Str} {v : V} (h : valV T k = some v) : (k, v) ∈ T := by
  unfold valV at h
  obtain ⟨p, hp, rfl⟩ := Option.map_eq_some_iff.mp h
  have h1 := List.mem_of_find?_eq_some hp
  have h2 := List.find?_some hp
  have h2 : p.1 = k := of_decide_eq_true h2
  rw [← h2]; exact h1
theorem val_some {T : Tr} {k : Str} : (valV T k).isSome = decide (k ∈ keys T) := by
  rw [Bool.eq_iff_iff, decide_eq_true_eq, ← valV_any, List.any_eq_true, List.mem_map]
  constructor
  · rintro ⟨p, hp, e⟩; exact ⟨p, hp, of_decide_eq_true e⟩
  · rintro ⟨p, hp, e⟩; exact ⟨p, hp, decide_eq_true e⟩
theorem val_none {T : Tr} {k : Str} (h : k ∉ keys T) : valV T k = none := by
  have := val_some (T := T) (k := k)
  rw [decide_eq_false h] at this
  cases hv : valV T k with
  | none => rfl
  | some v => rw [hv] at this; cases this
theorem val_of_mem {T : Tr} {k : Str} {v : V} (nd : (keys T).Nodup) (h : (k, v) ∈ T) : valV T k = some v := by
  induction T with
  | nil => cases h
  | cons p r ih =>
    have nd : (p.1 :: keys r).Nodup := nd
    obtain ⟨h1, h2⟩ := List.nodup_cons.mp nd
    rcases List.mem_cons.mp h with e | h
    · subst e; exact valV_pos rfl
    · rw [valV_neg, ih h2 h]
      intro e
      exact h1 (List.mem_map.mpr ⟨_, h, e.symm⟩)
theorem mem_put {T : Tr} {k : Str} {v : V} {p : Str × V} (h : p ∈ putK T k v) : p = (k, v) ∨ (p ∈ T ∧ p.1 ≠ k) := by
  unfold putK at h
  split at h
  · obtain ⟨q, hq, rfl⟩ := List.mem_map.mp h
    by_cases e : q.1 = k
    · rw [if_pos e]; exact .inl (by rw [e])
    · rw [if_neg e]; exact .inr ⟨hq, e⟩
  · rename_i hn
    rcases List.mem_append.mp h with h | h
    · refine .inr ⟨h, fun e => hn (List.any_eq_true.mpr ⟨p, h, decide_eq_true e⟩)⟩
    · exact .inl (List.mem_singleton.mp h)
theorem keys_put (T : Tr) (k : Str) (v : V) : keys (putK T k v) = if k ∈ keys T then keys T else keys T ++ [k] := by
  have h0 := val_some (T := T) (k := k)
  rw [← valV_any] at h0
  unfold putK
  rw [h0]
  by_cases h : k ∈ keys T
  · rw [decide_eq_true h, if_pos rfl, if_pos h]
    unfold keys
    rw [List.map_map]
    refine List.map_congr_left fun p _ => ?_
    show (if p.1 = k then (p.1, v) else p).1 = p.1
    split <;> rfl
  · rw [decide_eq_false h, if_neg (by simp), if_neg h]
    unfold keys
    rw [List.map_append]; rfl
theorem mem_keys_put {T : Tr} {k q : Str} {v : V} : q ∈ keys (putK T k v) ↔ q = k ∨ q ∈ keys T := by
  rw [keys_put]
  split
  · rename_i h
    exact ⟨.inr, fun x => x.elim (fun e => e ▸ h) id⟩
  · rw [List.mem_append, List.mem_singleton]; exact Or.comm
theorem nd_put {T : Tr} {k : Str} {v : V} (h : (keys T).Nodup) : (keys (putK T k v)).Nodup := by
  rw [keys_put]
  split
  · exact h
  · rename_i hn; exact nd_snoc h hn
theorem keys_drop (T : Tr) (k : Str) : keys (dropK T k) = (keys T).filter fun q => decide (q ≠ k) := by
  unfold keys dropK
  rw [List.filter_map]; rfl
theorem mem_keys_drop {T : Tr} {k q : Str} : q ∈ keys (dropK T k) ↔ q ∈ keys T ∧ q ≠ k := by
  rw [keys_drop, List.mem_filter, decide_eq_true_eq]
theorem val_drop (T : Tr) (k j : Str) : valV (dropK T k) j = if j = k then none else valV T j := by
  induction T with
  | nil => rw [show dropK ([] : Tr) k = [] from rfl, valV_nil]; split <;> rfl
  | cons p r ih =>
    by_cases e : p.1 = k
    · rw [dropK_pos e, ih]
      split
      · rfl
      · rename_i hj
        rw [valV_neg (fun z => hj (z.symm.trans e))]
    · rw [dropK_neg e]
      by_cases e2 : p.1 = j
      · rw [valV_pos e2, valV_pos e2, if_neg (fun z => e (e2.trans z))]
      · rw [valV_neg e2, valV_neg e2, ih]
theorem mem_drop {T : Tr} {k : Str} {p : Str × V} (h : p ∈ dropK T k) : p ∈ T := dropK_mem h
theorem nd_drop {T : Tr} {k : Str} (h : (keys T).Nodup) : (keys (dropK T k)).Nodup := nd_dropK h
theorem val_ex {T : Tr} {k : Str} (h : k ∈ keys T) : ∃ v, valV T k = some v := by
  have := val_some (T := T) (k := k)
  rw [decide_eq_true h] at this
  exact Option.isSome_iff_exists.mp this
theorem nd_at {l : List Str} (nd : l.Nodup) {i j : Nat} {p q : Str} (hi : l[i]? = some p) (hj : l[j]? = some q) (h : i ≠ j) : p ≠ q := fun e => by
  subst e
  have hl : i < l.length := by
    rcases Nat.lt_or_ge i l.length with h | h
    · exact h
    · rw [List.getElem?_eq_none h] at hi; cases hi
  exact h ((List.getElem?_inj hl nd).mp (hi.trans hj.symm))
theorem put_len (T : Tr) (k : Str) (v : V) : (putK T k v).length ≤ T.length + 1 := by
  have h := congrArg List.length (keys_put T k v)
  rw [List.length_map] at h
  rw [h]
  split
  · rw [List.length_map]; omega
  · rw [List.length_append, List.length_map]; exact Nat.le_refl _
/-! ### a dict at d, plain -/
def AtD (H : Hp) (d : Addr) (T : Tr) : Prop := H d = some (.dK (kvs T))
def RdD (H : Hp) (d : Addr) (T : Tr) : Prop := Rd H d (.dK (kvs T))
theorem AtD.rd {H : Hp} {d : Addr} {T : Tr} (h : AtD H d T) : RdD H d T := Rd.of h
theorem RdD.get {H : Hp} {d : Addr} {T : Tr} (h : RdD H d T) (k : Str) : DGet H d (.str k) (valV T k) := .inl ⟨_, .inr k, h, rfl, (kvs_val T k).symm⟩
theorem RdD.getS {H : Hp} {d : Addr} {T : Tr} {k : Str} {v : V} (h : RdD H d T) (e : valV T k = some v) : DGet H d (.str k) (some v) := by
  rw [← e]; exact h.get k
theorem AtD.put {H : Hp} {d : Addr} {T : Tr} (h : AtD H d T) (hl : T.length < 16777216) (k : Str) (v : V) : DPut H d (.str k) v (upd H d (.dK (kvs (putK T k v)))) := by
  rw [← kvs_put]
  exact DPut.k (k := .inr k) h (by rw [kvs_len]; exact sl_lt hl)
theorem AtD.pop {H : Hp} {d : Addr} {T : Tr} {k : Str} {v : V} {R : V → Hp → Prop} (h : AtD H d T) (e : valV T k = some v) (q : R v (upd H d (.dK (kvs (dropK T k))))) :
    ∃ ks k' v', H d = some (.dK ks) ∧ V.str k = kV k' ∧ valV ks k' = some v' ∧ R v' (upd H d (.dK (dropK ks k'))) :=
  ⟨_, .inr k, v, h, rfl, by rw [kvs_val]; exact e, by rw [kvs_drop]; exact q⟩
theorem Same.rdd {H H' : Hp} {d : Addr} {T : Tr} (e : Same H H') (h : RdD H d T) : RdD H' d T := Same.rd e h
theorem Same.lock {H : Hp} {d : Addr} {u : HO} {od : Obj} (h : H d = some u) : ∀ b w, b ≠ d → H b = some w → upd H d (.frz od u) b = some w := fun b w n e => by rw [upd_ne n]; exact e
theorem Same.unlock {H H' : Hp} {d : Addr} {u : HO} {od : Obj} (h : H d = some u) (e : Same (upd H d (.frz od u)) H') : Same H (upd H' d u) := fun b w hb => by
  by_cases n : b = d
  · subst n
    rw [upd_same]; rw [h] at hb; exact hb
  · rw [upd_ne n]
    exact e b w (by rw [upd_ne n]; exact hb)
theorem Same.frz {H H' : Hp} {d : Addr} {u : HO} {od : Obj} (e : Same (upd H d (.frz od u)) H') : H' d = some (.frz od u) := e d _ upd_same
theorem rd_frz {H : Hp} {d : Addr} {T : Tr} {od : Obj} (h : H d = some (.frz od (.dK (kvs T)))) : RdD H d T := .inr ⟨od, h⟩
theorem seq_frz {K : PySem.W.Frag} {H : Hp} {d : Addr} {T : Tr} {od : Obj} {a : Addr} {xs : List V} (h : H d = some (.dK (kvs T))) (hs : SqL K H a xs) : SqL K (upd H d (.frz od (.dK (kvs T)))) a xs := by
  have ne : ∀ o, H a = some o → (∀ ks, o ≠ .dK ks) → a ≠ d := fun o ho hn e => by
    subst e; rw [h] at ho; exact hn _ (Option.some.inj ho).symm
  rcases hs with (hs | ⟨o, hs⟩) | hs
  · refine .inl (.inl ?_)
    rw [upd_ne (ne _ hs fun ks => by intro z; cases z)]
    exact hs
  · refine .inl (.inr ⟨o, ?_⟩)
    rw [upd_ne (ne _ hs fun ks => by intro z; cases z)]
    exact hs
  · exact .inr hs
theorem items_eqN {K : PySem.W.Frag} {H : Hp} {n : Nat} {ts : List Addr} {ks : List (Key × V)} (hf : ∀ q ∈ ks, flatB q.2 = true) (h1 : Paired (fun (t : Addr) (q : Key × V) => H t = some (.tup [kV q.1, q.2])) ts ks) :
    ∀ {us : List Addr}, Paired (fun (t : Addr) (q : Key × V) => H t = some (.tup [kV q.1, q.2])) us ks → Paired (EqN K H (n + 2)) (ts.map V.ref) (us.map V.ref) := by
  induction h1 with
  | nil => intro us h2; cases h2; exact .nil
  | @cons t q ts ks h1 _ ih =>
    intro us h2
    cases h2 with
    | @cons u _ us _ h2 r2 =>
      refine .cons (.inr (.inr (.inr (.inl ⟨t, u, _, _, rfl, rfl, SqT.of h1, SqT.of h2, ?_⟩)))) (ih (fun q hq => hf q (List.mem_cons_of_mem _ hq)) r2)
      refine .cons (.inl ⟨rfl, ?_⟩) (.cons (.inl ⟨rfl, hf q List.mem_cons_self⟩) .nil)
      cases q.1 <;> rfl
theorem Same.items {H H' : Hp} {ts : List Addr} {ks : List (Key × V)} (e : Same H H') (h : Paired (fun (t : Addr) (q : Key × V) => H t = some (.tup [kV q.1, q.2])) ts ks) : Paired (fun (t : Addr) (q : Key × V) => H' t = some (.tup [kV q.1, q.2])) ts ks := by
  induction h with
  | nil => exact .nil
  | cons h _ ih => exact .cons (e _ _ h) ih
/-! ### trees -/
/-- paths, each once, with texts -/
structure TreeOk (b : Nat) (G : Tr) : Prop where
  nd : (keys G).Nodup
  path : ∀ p ∈ keys G, isPathB p = true
  str : ∀ p ∈ G, ∃ z, p.2 = .str z
  len : G.length ≤ b
theorem TreeOk.nil : TreeOk 0 [] := ⟨List.nodup_nil, fun _ h => absurd h (by simp), fun _ h => absurd h (by simp), Nat.le_refl _⟩
theorem TreeOk.put {b : Nat} {G : Tr} (h : TreeOk b G) {k z : Str} (hk : isPathB k = true) : TreeOk (b + 1) (putK G k (.str z)) := by
  refine ⟨nd_put h.nd, fun p hp => ?_, fun p hp => ?_, Nat.le_trans (put_len _ _ _) (by have := h.len; omega)⟩
  · rcases mem_keys_put.mp hp with e | hp
    · subst e; exact hk
    · exact h.path p hp
  · rcases mem_put hp with e | hp
    · subst e; exact ⟨z, rfl⟩
    · exact h.str p hp.1
theorem TreeOk.mono {b c : Nat} {G : Tr} (h : TreeOk b G) (hl : b ≤ c) : TreeOk c G := ⟨h.nd, h.path, h.str, Nat.le_trans h.len hl⟩

theorem all_next {α : Type} {l : List α} {f : α → Bool} {j : Nat} {z : α} (h : l[j]? = some z) : (l.take (j + 1)).all f = ((l.take j).all f && f z) := by
  rw [List.take_add_one, h, List.all_append]
  simp
theorem all_kvs {G : Tr} {f : Str → Bool} : ((keys G).take (kvs G).length).all f = (keys G).all f := by
  rw [kvs_len, List.take_of_length_le]
  rw [List.length_map]; exact Nat.le_refl _
def isTreeB (T : Tr) : Bool := (keys T).all fun p => isPathB p && (aboveL p).all fun q => !(valV T q).isSome
/-- no file lies beneath another one -/
def clearB (T : Tr) : Bool := (keys T).all fun p => (keys T).all fun q => !beneathB q p
theorem isTreeB_iff (T : Tr) : isTreeB T = ((keys T).all isPathB && clearB T) := by
  rw [Bool.eq_iff_iff, Bool.and_eq_true]
  unfold isTreeB clearB
  simp only [List.all_eq_true, Bool.and_eq_true, Bool.not_eq_true']
  constructor
  · intro h
    refine ⟨fun p hp => (h p hp).1, fun p hp q hq => ?_⟩
    cases hb : beneathB q p with
    | false => rfl
    | true =>
      have := (h q hq).2 p ((mem_above q p).mpr hb)
      rw [val_some, decide_eq_true hp] at this; cases this
  · rintro ⟨h1, h2⟩ p hp
    refine ⟨h1 p hp, fun q hq => ?_⟩
    rw [val_some]
    refine decide_eq_false fun hk => ?_
    have := h2 q hk p hp
    rw [(mem_above p q).mp hq] at this; cases this
end M

/-! short rows for the readings -/
set_option hygiene false in
local macro_rules | `(tactic| walk_at "len") => `(tactic| (intro vs H Q E h; first | (obtain ⟨rfl, _⟩ := h; rfl) | (obtain ⟨_, rfl, _⟩ := h; rfl) | (obtain ⟨_, _, rfl, _⟩ := h; rfl) | (obtain ⟨_, _, _, rfl, _⟩ := h; rfl) | (obtain ⟨_, _, _, _, rfl, _⟩ := h; rfl) | (obtain ⟨_, _, _, _, _, rfl, _⟩ := h; rfl) | (obtain ⟨_, _, _, _, _, _, rfl, _⟩ := h; rfl) | (obtain ⟨_, _, _, _, _, _, _, rfl, _⟩ := h; rfl) | (obtain ⟨_, _, _, _, _, _, _, _, rfl, _⟩ := h; rfl) | (obtain ⟨_, _, _, _, _, _, _, _, _, rfl, _⟩ := h; rfl) | (obtain ⟨_, _, _, _, _, _, _, _, _, _, rfl, _⟩ := h; rfl) | (obtain ⟨_, _, _, _, _, _, _, _, _, _, _, rfl, _⟩ := h; rfl) | (obtain ⟨_, _, _, _, _, _, _, _, _, _, _, _, rfl, _⟩ := h; rfl)))
-- a list or a tuple that stands
set_option hygiene false in
local macro_rules | `(tactic| walk_at "sq") => `(tactic| first | assumption | exact SqL.of (by assumption) | exact SqT.of (by assumption) | exact Or.inl (by assumption) | exact Or.inr (by assumption) | exact Or.inl (SqL.of (by assumption)) | exact Or.inr (SqT.of (by assumption)) | exact SqL.of upd_same | exact SqT.of upd_same | exact Or.inl (SqL.of upd_same) | exact Or.inr (SqT.of upd_same) | exact Same.seq (Same.new (by assumption)) (by assumption) | exact Or.inl (Same.seq (Same.new (by assumption)) (by assumption)))
set_option hygiene false in
local macro_rules | `(tactic| walk_at "bits") => `(tactic| first | assumption | exact cellZ_bits (by assumption) _ | exact Bits.div (by assumption) (by decide) | exact Bits.div (cellZ_bits (by assumption) _) (by decide) | exact (Bits.small (by omega) (by omega)).mono (by decide))
set_option hygiene false in
local macro_rules | `(tactic| walk_at "mulv") => `(tactic| first
  | exact mul_b (by assumption)
  | exact mul_26 (by assumption)
  | exact mul_sb (by omega) (by omega)
  | exact Bits.mul (Bits.small (by omega) (by omega)) (Bits.small (by omega) (by omega)) (by decide)
  | exact Bits.mul (n := 1048576) (by first | assumption | exact Bits.div (by assumption) (by decide) | exact cellZ_bits (by assumption) _) (Bits.small (by omega) (by omega)) (by decide)
  | exact Bits.mul (m := 1048576) (Bits.small (by omega) (by omega)) (by first | assumption | exact Bits.div (by assumption) (by decide) | exact cellZ_bits (by assumption) _) (by decide))
set_option hygiene false in
local macro_rules | `(tactic| walk_at "go") => `(tactic| repeat (first
  | refine ⟨_, rfl, ?_⟩
  | refine ⟨_, _, rfl, rfl, ⟨by decide, by decide⟩, ?_⟩
  | refine ⟨_, _, rfl, rfl, (by show (0 : Int) < _; first | decide | omega), ?_⟩
  | refine ⟨_, _, rfl, rfl, (by walk_at "mulv"), ?_⟩
  | refine ⟨_, _, rfl, rfl, ?_⟩
  | refine ⟨rfl, ?_⟩
  | refine ⟨_, _, rfl, (show Bits 1048576 _ by walk_at "bits"), (show Bits 1048576 _ by walk_at "bits"), ?_⟩
  | refine iteT ?_
  | refine iteF ?_
  | refine iteSelf ?_
  | refine iteSelfT ?_
  | refine Or.inl ⟨_, rfl, ?_⟩
  | refine Or.inr ⟨_, rfl, ?_⟩
  | refine ⟨⟨_, rfl⟩, ?_⟩
  | refine ⟨_, _, rfl, (show (_ : Prop) by walk_at "sq"), ?_⟩
  | refine ⟨_, _, _, rfl, (show (_ : Prop) by walk_at "sq"), (show (0 : Int) ≤ _ by omega), ?_⟩
  | refine ⟨sl_of (by omega), ?_⟩
  | refine ⟨Or.inl ⟨rfl, _, (show (_ : Prop) by walk_at "sq")⟩, ?_⟩
  | refine ⟨(show -(2 ^ 62 : Int) ≤ _ by omega), (show _ < (2 ^ 62 : Int) by omega), ?_⟩
  | refine ⟨_, _, _, _, true, rfl, .ty _, .base (.bl _), kit_ty (by decide +kernel), ?_⟩
  | refine ⟨_, _, _, _, true, rfl, .ty _, .base (.str _), kit_ty (by decide +kernel), ?_⟩
  | refine ⟨_, _, _, _, true, rfl, .ty _, .base (.int _), kit_ty (by decide +kernel), ?_⟩
  | refine ⟨_, _, _, _, true, rfl, .ty _, .base (.lst (by assumption)), kit_ty (by decide +kernel), ?_⟩
  | refine ⟨_, _, _, _, true, rfl, .ty _, .base (.tup (by assumption)), kit_ty (by decide +kernel), ?_⟩
  | refine ⟨_, _, _, _, true, rfl, .ty _, .base (.dK (by assumption)), kit_ty (by decide +kernel), ?_⟩
  | refine ⟨_, _, _, _, false, rfl, .ty _, .base (.int _), kit_ty (by decide +kernel), ?_⟩
  | refine ⟨by decide, fun p np => ?_⟩
  | refine ⟨sl_of (by simp), fun p np => ?_⟩
  | refine (show ∃ i j, [V.int _, V.int _] = [V.int i, V.int j] ∧ _ from ⟨_, _, rfl, ?_⟩)))
set_option hygiene false in
local macro_rules | `(tactic| walk_at "cv") => `(tactic| (dsimp only [cxOf, Cx.blk, Cx.nox, Cx.wish]; first | done | rfl))

namespace T
open PySem PySem.Spec PyProof.Rows L2 M
def top (i : Nat) : Stmt := PySem.Challenge.pw_threeroad_k03_a_tree.main.body.getD i (.Pass ⟨0, 0, 0, 0⟩)
abbrev s_L_cell_at : Stmt := top 10
abbrev sl_L_cell_at : List Str := ["_law_script", "_law_k"]
abbrev ps_L_cell_at : List Str := ["_law_script", "_law_k"]
theorem scL_cell_at : FnScope sl_L_cell_at ps_L_cell_at (defScope s_L_cell_at) := ⟨rfl, rfl, rfl, by decide +kernel, rfl, by decide +kernel, by decide +kernel⟩
abbrev s_L_sign_by : Stmt := top 11
abbrev sl_L_sign_by : List Str := ["_law_k"]
abbrev ps_L_sign_by : List Str := ["_law_k"]
theorem scL_sign_by : FnScope sl_L_sign_by ps_L_sign_by (defScope s_L_sign_by) := ⟨rfl, rfl, rfl, by decide +kernel, rfl, by decide +kernel, by decide +kernel⟩
abbrev s_is_part : Stmt := top 4
abbrev sl_is_part : List Str := ["part", "sign"]
abbrev ps_is_part : List Str := ["part"]
theorem scis_part : FnScope sl_is_part ps_is_part (defScope s_is_part) := ⟨rfl, rfl, rfl, by decide +kernel, rfl, by decide +kernel, by decide +kernel⟩
abbrev s_is_path : Stmt := top 5
abbrev sl_is_path : List Str := ["text", "parts", "part"]
abbrev ps_is_path : List Str := ["text"]
theorem scis_path : FnScope sl_is_path ps_is_path (defScope s_is_path) := ⟨rfl, rfl, rfl, by decide +kernel, rfl, by decide +kernel, by decide +kernel⟩
abbrev s_above : Stmt := top 6
abbrev sl_above : List Str := ["path", "parts", "many"]
abbrev ps_above : List Str := ["path"]
theorem scabove : FnScope sl_above ps_above (defScope s_above) := ⟨rfl, rfl, rfl, by decide +kernel, rfl, by decide +kernel, by decide +kernel⟩
abbrev s_L_name_by : Stmt := top 12
abbrev sl_L_name_by : List Str := ["_law_k", "_law_shift", "_law_size", "_law_way", "_law_rest", "_law_j", "_law_at", "_law_told", "_law_name"]
abbrev ps_L_name_by : List Str := ["_law_k", "_law_shift"]
theorem scL_name_by : FnScope sl_L_name_by ps_L_name_by (defScope s_L_name_by) := ⟨rfl, rfl, rfl, by decide +kernel, rfl, by decide +kernel, by decide +kernel⟩
abbrev s_L_path_by : Stmt := top 13
abbrev sl_L_path_by : List Str := ["_law_cell", "_law_shift", "_law_depth", "_law_parts", "_law_j"]
abbrev ps_L_path_by : List Str := ["_law_cell", "_law_shift"]
theorem scL_path_by : FnScope sl_L_path_by ps_L_path_by (defScope s_L_path_by) := ⟨rfl, rfl, rfl, by decide +kernel, rfl, by decide +kernel, by decide +kernel⟩
abbrev s_L_line_by : Stmt := top 14
abbrev sl_L_line_by : List Str := ["_law_k", "_law_shift", "_law_some", "_law_sizes", "_law_j"]
abbrev ps_L_line_by : List Str := ["_law_k", "_law_shift"]
theorem scL_line_by : FnScope sl_L_line_by ps_L_line_by (defScope s_L_line_by) := ⟨rfl, rfl, rfl, by decide +kernel, rfl, by decide +kernel, by decide +kernel⟩
abbrev s_is_tree : Stmt := top 8
abbrev sl_is_tree : List Str := ["files", "path", "folder"]
abbrev ps_is_tree : List Str := ["files"]
theorem scis_tree : FnScope sl_is_tree ps_is_tree (defScope s_is_tree) := ⟨rfl, rfl, rfl, by decide +kernel, rfl, by decide +kernel, by decide +kernel⟩
abbrev s_law : Stmt := top 15
abbrev sl_law : List Str := ["_law_script", "_law_shift", "_law_files", "_law_k", "_law_cell", "_law_j", "_law_odd", "_law_wrong", "_law_behind", "_law_many", "_law_path", "_law_due", "_law_other", "_law_kept", "_law_found"]
abbrev ps_law : List Str := ["_law_script"]
theorem sclaw : FnScope sl_law ps_law (defScope s_law) := ⟨rfl, rfl, rfl, by decide +kernel, rfl, by decide +kernel, by decide +kernel⟩
structure Txt (K : PySem.W.Frag) (mg : Str → Option Value) : Prop where
  d_L_cell_at : Def K mg "_law_cell_at" s_L_cell_at ps_L_cell_at
  d_L_sign_by : Def K mg "_law_sign_by" s_L_sign_by ps_L_sign_by
  d_is_part : Def K mg "is_part" s_is_part ps_is_part
  d_is_path : Def K mg "is_path" s_is_path ps_is_path
  d_above : Def K mg "above" s_above ps_above
  d_L_name_by : Def K mg "_law_name_by" s_L_name_by ps_L_name_by
  d_L_path_by : Def K mg "_law_path_by" s_L_path_by ps_L_path_by
  d_L_line_by : Def K mg "_law_line_by" s_L_line_by ps_L_line_by
  d_is_tree : Def K mg "is_tree" s_is_tree ps_is_tree
  d_law : Def K mg "law" s_law ps_law
  n_all : mg "all" = none
  n_bool : mg "bool" = none
  n_int : mg "int" = none
  n_isinstance : mg "isinstance" = none
  n_len : mg "len" = none
  n_list : mg "list" = none
  n_range : mg "range" = none
  n_str : mg "str" = none
  c_MOST_PARTS : ∃ t, mg "MOST_PARTS" = some (.int 8 t)
  c_MOST_SIGNS : ∃ t, mg "MOST_SIGNS" = some (.int 12 t)
  c_SIGNS : ∃ t, mg "SIGNS" = some (.str "abcdefghijklmnopqrstuvwxyzABCDEFGHIJKLMNOPQRSTUVWXYZ0123456789.-_" t)
section
variable {P : Program} {w : World} {K : PySem.W.Frag} {mg : Str → Option Value} {base : Heap}
/-- _law_cell_at: the script's cell, 0 behind its end -/
def spCell (K : PySem.W.Frag) : Sp := fun vs H Q _ => ∃ (a : Addr) (ns : List Int) (k : Int), vs = [.ref a, .int k] ∧ SqL K H a (ns.map V.int) ∧ 0 ≤ k ∧ Q (.int (cellZ ns k)) H
/-- _law_sign_by: a sign of a part -/
def spSign : Sp := fun vs H Q _ => ∃ (k : Int), vs = [.int k] ∧ ∀ c, c ∈ sgns → Q (.str (c1 c)) H
theorem okL_cell_at (T : Txt K mg) : Cal P w K mg base CX0 1 "_law_cell_at" ps_L_cell_at (spCell K) := by
  have sc := scL_cell_at
  refine T.d_L_cell_at.ok sc (by walk_at "len") (fun f cdv A outer s H vs Q E hr h => ?_)
  have hu := hu_of hr
  obtain ⟨a, ns, k, rfl, hS, h0, q⟩ := h
  refine ⟨_, PSs.cv (by exact (pss_cons (ps_if (pt_cmpR op_lt (pv 1) (pe_callB call_len_seq (by rfl) T.n_len (by decide +kernel) (pa_cons (pv 0) pa_nil)) (nomark _)) (pss_one (ps_ret (pe_ix ix_list (pv 0) (pv 1) (fun _ _ => rfl)))) pss_nil)
      (pss_one (ps_ret pe_int)))) (by walk_at "cv"), ?_⟩
  walk_at "go"
  refine iteD (fun hk => ?_) fun hk => ?_
  · rw [List.length_map] at hk
    walk_at "go"
    exact ⟨_, _, _, _, rfl, rfl, hS, cell_at h0 hk, q⟩
  · rw [List.length_map] at hk
    rw [cell_none hk] at q
    exact q
theorem okL_sign_by (T : Txt K mg) : Cal P w K mg base CX0 1 "_law_sign_by" ps_L_sign_by (spSign) := by
  have sc := scL_sign_by
  refine T.d_L_sign_by.ok sc (by walk_at "len") (fun f cdv A outer s H vs Q E hr h => ?_)
  have hu := hu_of hr
  obtain ⟨k, rfl, q⟩ := h
  refine ⟨_, PSs.cv (by exact (pss_one (ps_ret (pe_ix ix_str pe_str (pe_op op_mod (pv 0) pe_int) (fun _ _ => rfl))))) (by walk_at "cv"), ?_⟩
  walk_at "go"
  obtain ⟨c, hc, hm⟩ := at_in (xs := sgns) (i := k % 65) (by omega) (by rw [sgns_len]; omega)
  exact ⟨_, _, _, rfl, rfl, by decide +kernel, hc, q c hm⟩
/-! the program's paths -/
def spPart : Sp := fun vs H Q _ => ∃ (z : Str), vs = [.str z] ∧ z.length ≤ 16777000 ∧ ∀ H', Same H H' → Q (.bl (isPartB z)) H'
def spPath : Sp := fun vs H Q _ => ∃ (z : Str), vs = [.str z] ∧ z.length ≤ 16777000 ∧ ∀ H', Same H H' → Q (.bl (isPathB z)) H'
def spAbove : Sp := fun vs H Q _ => ∃ (z : Str), vs = [.str z] ∧ z.length ≤ 16777000 ∧ ∀ p H', H p = none → Same H H' → H' p = some (.lst ((aboveL z).map V.str)) → Q (.ref p) H'
theorem okis_part (T : Txt K mg) : Cal P w K mg base CX0 1 "is_part" ps_is_part (spPart) := by
  have sc := scis_part
  refine T.d_is_part.ok sc (by walk_at "len") (fun f cdv A outer s H vs Q E hr h => ?_)
  have hu := hu_of hr
  obtain ⟨z, rfl, hz, q⟩ := h
  refine ⟨_, PSs.cv (by exact (pss_cons (ps_if (PW.pt (pw_or (pt_cmpR op_eq (pv 0) pe_str (nomark _)) (pw_or1 (pt_cmpR op_eq (pv 0) pe_str (nomark _))))) (pss_one (ps_ret pe_bl)) pss_nil)
      (pss_one (ps_ret (pe_and (pe_chain op_le op_le pe_int (pe_callB call_len_str (by rfl) T.n_len (by decide +kernel) (pa_cons (pv 0) pa_nil)) (pe_globI (by rfl) T.c_MOST_SIGNS)) (pe_one (pe_callB (cr_all rfl) (by rfl) T.n_all (by decide +kernel) (pa_cons (pe_lc (own := [("sign", 1)]) (g := gName 1) rfl sc.nd (pi_str (pv 0)) (blkOk_by (N := sl_is_part) (sc := defScope s_is_part) (by decide +kernel)) (fun _ _ _ _ _ => (pg_name (i := 1) sc.nd rfl (by first | exact Or.inl rfl | exact Or.inr rfl))) (fun _ _ _ _ _ => pts_nil) (fun _ _ _ _ _ => PE.cv (by exact (pe_cmpR op_in_sign (pv 1) (pe_globS (by rfl) T.c_SIGNS) (by rfl))) (by walk_at "cv"))) pa_nil)))))))) (by walk_at "cv"), ?_⟩
  walk_at "go"
  refine iteD (fun h1 => ?_) fun h1 => ?_
  · walk_at "go"
    have := q H (Same.refl H)
    rwa [part_no (.inl (V.str.inj h1))] at this
  walk_at "go"
  refine iteD (fun h2 => ?_) fun h2 => ?_
  · walk_at "go"
    have := q H (Same.refl H)
    rwa [part_no (.inr (V.str.inj h2))] at this
  walk_at "go"
  have e := part_yes (z := z) (fun e => h1 (congrArg V.str e)) (fun e => h2 (congrArg V.str e))
  refine iteD (fun h3 => ?_) fun h3 => ?_
  · walk_at "go"
    refine iteD (fun h4 => ?_) fun h4 => ?_
    · walk_at "go"
      intro D hD
      refine lcM (j := 1) wS (by simp) (fun _ _ => trivial) hD (fun v => match v with | .str x => .bl (decide ((cl x).headD 0 ∈ sgns)) | _ => .bl false) (by have := len_cl z; show z.length ≤ _; omega) (fun _ => rfl) (fun x H1 hx e1 Q2 k => ?_) fun H' e' hl => ?_
      · obtain ⟨c, hc, rfl⟩ := List.mem_map.mp hx
        walk_at "go"
        exact k H1 (Same.refl _)
      · refine ⟨D, ((cl z).map fun c => decide (c ∈ sgns)), rfl, SqL.of (by rw [hl, List.map_map, List.map_map]; rfl), ?_⟩
        have := q H' e'
        rw [e, decide_eq_true (show 1 ≤ z.length by omega), decide_eq_true (show z.length ≤ 12 by omega)] at this
        rw [List.all_map]
        exact this
    · walk_at "go"
      have := q H (Same.refl H)
      rwa [e, decide_eq_false (show ¬ z.length ≤ 12 by omega), Bool.and_false, Bool.false_and] at this
  · walk_at "go"
    have := q H (Same.refl H)
    rwa [e, decide_eq_false (show ¬ 1 ≤ z.length by omega), Bool.false_and, Bool.false_and] at this
theorem okis_path (T : Txt K mg) : Cal P w K mg base CX0 2 "is_path" ps_is_path (spPath) := by
  have sc := scis_path
  refine T.d_is_path.ok sc (by walk_at "len") (fun f cdv A outer s H vs Q E hr h => ?_)
  have hu := hu_of hr
  obtain ⟨z, rfl, hz, q⟩ := h
  refine ⟨_, PSs.cv (by exact (pss_cons (ps_set (i := 1) sc.nd rfl (Or.inl rfl) (pe_split (pv 0) pe_str))
      (pss_one (ps_ret (pe_and (pe_cmpR op_le (pe_callB call_len_seq (by rfl) T.n_len (by decide +kernel) (pa_cons (pv 1) pa_nil)) (pe_globI (by rfl) T.c_MOST_PARTS) (nomark _)) (pe_one (pe_callB (cr_all rfl) (by rfl) T.n_all (by decide +kernel) (pa_cons (pe_lc (own := [("part", 2)]) (g := gName 2) rfl sc.nd (pi_list (pv 1)) (blkOk_by (N := sl_is_path) (sc := defScope s_is_path) (by decide +kernel)) (fun _ _ _ _ _ => (pg_name (i := 2) sc.nd rfl (by first | exact Or.inl rfl | exact Or.inr rfl))) (fun _ _ _ _ _ => pts_nil) (fun _ _ _ _ _ => PE.cv (by exact (pe_calC (okis_part T) (hr.mono (by decide)) (by rfl) pass0 (pa_cons (pv 2) pa_nil))) (by walk_at "cv"))) pa_nil)))))))) (by walk_at "cv"), ?_⟩
  walk_at "go"
  intro p np
  refine new_at np fun H1 e1 h1 => ?_
  walk_at "go"
  rw [List.length_map]
  refine iteD (fun h2 => ?_) fun h2 => ?_
  · walk_at "go"
    refine ⟨⟨_, SqL.of h1⟩, fun D hD => ?_⟩
    refine lcM (j := 2) wL rfl (fun H' e' => e'.seq (SqL.of h1)) hD (fun v => match v with | .str x => .bl (isPartB x) | _ => .bl false) (by rw [List.length_map]; have := parts_many z; show (partsOf z).length ≤ _; omega) (fun _ => rfl) (fun x H2 hx e2 Q2 k => ?_) fun H' e' hl => ?_
    · obtain ⟨c, hc, rfl⟩ := List.mem_map.mp hx
      walk_at "go"
      exact ⟨by have := parts_len hc; omega, k⟩
    · refine ⟨D, (partsOf z).map isPartB, rfl, SqL.of (by rw [hl, map_strs _ isPartB _ fun _ _ => rfl]; rfl), ?_⟩
      have := q H' (e1.trans e')
      rw [isPathB, decide_eq_true (show (partsOf z).length ≤ 8 from by have h2 : ((partsOf z).length : Int) ≤ 8 := h2; omega)] at this
      rw [List.all_map]
      exact this
  · walk_at "go"
    have := q H1 e1
    rwa [isPathB, decide_eq_false (show ¬ (partsOf z).length ≤ 8 from fun x => h2 (by show ((partsOf z).length : Int) ≤ 8; omega)), Bool.false_and] at this
theorem okabove (T : Txt K mg) : Cal P w K mg base CX0 1 "above" ps_above (spAbove) := by
  have sc := scabove
  refine T.d_above.ok sc (by walk_at "len") (fun f cdv A outer s H vs Q E hr h => ?_)
  have hu := hu_of hr
  obtain ⟨z, rfl, hz, q⟩ := h
  refine ⟨_, PSs.cv (by exact (pss_cons (ps_set (i := 1) sc.nd rfl (Or.inr rfl) (pe_split (pv 0) pe_str))
      (pss_one (ps_ret (pe_lc (own := [("many", 2)]) (g := gName 2) rfl sc.nd (pi_range2 (by rfl) T.n_range (pa_cons pe_int (pa_cons (pe_callB call_len_seq (by rfl) T.n_len (by decide +kernel) (pa_cons (pv 1) pa_nil)) pa_nil))) (blkOk_by (N := sl_above) (sc := defScope s_above) (by decide +kernel)) (fun _ _ _ _ _ => (pg_name (i := 2) sc.nd rfl (by first | exact Or.inl rfl | exact Or.inr rfl))) (fun _ _ _ _ _ => pts_nil) (fun _ _ _ _ _ => PE.cv (by exact (pe_join pe_str (pe_slice sl_list (pv 1) po_none (po_some (pv 2))))) (by walk_at "cv"))))))) (by walk_at "cv"), ?_⟩
  walk_at "go"
  intro p np
  refine new_at np fun H1 e1 h1 => ?_
  walk_at "go"
  rw [List.length_map]
  have hm := parts_many z
  refine ⟨⟨by decide, by decide, (show (-2 ^ 62 : Int) ≤ ((partsOf z).length : Int) by omega), (show ((partsOf z).length : Int) < 2 ^ 62 by omega)⟩, fun D hD => ?_⟩
  refine lcM (j := 2) wR (by rw [List.length_map, List.length_range]) (fun _ _ => trivial) hD (fun v => match v with | .int i => .str (Txt.join slash ((partsOf z).take i.toNat)) | _ => .non) (by show (((partsOf z).length : Int) - 1).toNat ≤ _; omega) (fun _ => rfl) (fun x H2 hx e2 Q2 k => ?_) fun H' e' hl => ?_
  · obtain ⟨i, hi, rfl⟩ := List.mem_map.mp hx
    walk_at "go"
    have hi2 : i < (partsOf z).length - 1 := by
      have := List.mem_range.mp hi
      have : i < (((partsOf z).length : Int) - 1).toNat := this
      omega
    refine ⟨_, _, rfl, SqL.of (e2 _ _ h1), fun s ns => ?_⟩
    rw [cut_take _ (by omega), ← List.map_take]
    refine ⟨_, s, (partsOf z).take ((1 : Int) + (i : Int)).toNat, rfl, rfl, Or.inl (SqL.of upd_same), ?_, ?_⟩
    · exact Nat.le_trans (parts_take_sum z _) (by omega)
    · exact k _ (Same.new ns)
  · refine q D H' ?_ (e1.trans e') ?_
    · exact e1.free hD
    · rw [hl, List.map_map, aboveL, List.map_map]
      refine congrArg (fun l => some (HO.lst l)) ?_
      have e0 : (((Txt.split z "/").map V.str).length : Int) = ((partsOf z).length : Int) := by rw [List.length_map]; rfl
      have e1 : (((partsOf z).length : Int) - 1).toNat = (partsOf z).length - 1 := by omega
      show List.map _ (List.range (((partsOf z).length : Int) - 1).toNat) = _
      rw [e1]
      refine List.map_congr_left fun i _ => ?_
      have ei : ((1 : Int) + (i : Int)).toNat = i + 1 := by omega
      show V.str (Txt.join slash ((partsOf z).take ((1 : Int) + (i : Int)).toNat)) = _
      rw [ei]
      rfl
/-- _law_name_by, _law_path_by, _law_line_by -/
def spName : Sp := fun vs H Q _ => ∃ (k s : Int), vs = [.int k, .int s] ∧ Bits 1048576 k ∧ Bits 1048576 s ∧ ∀ z H', Same H H' → isPartB z = true → Q (.str z) H'
theorem okL_name_by (T : Txt K mg) : Cal P w K mg base CX0 2 "_law_name_by" ps_L_name_by (spName) := by
  have sc := scL_name_by
  refine T.d_L_name_by.ok sc (by walk_at "len") (fun f cdv A outer s H vs Q E hr h => ?_)
  have hu := hu_of hr
  obtain ⟨k, s, rfl, hk, hs, q⟩ := h
  refine ⟨_, PSs.cv (by exact (pss_cons (ps_set (i := 2) sc.nd rfl (Or.inl rfl) pe_int)
      (pss_cons (ps_if (pt_cmpR op_eq (pe_op op_mod (pe_op op_fdiv (pv 1) pe_int) pe_int) pe_int (nomark _)) (pss_one (ps_set (i := 2) sc.nd rfl (Or.inl rfl) (pe_op op_add pe_int (pe_op op_mod (pe_op op_fdiv (pv 1) pe_int) pe_int)))) pss_nil)
      (pss_cons (ps_set (i := 3) sc.nd rfl (Or.inr rfl) (pe_op op_mod (pe_op op_fdiv (pv 1) pe_int) pe_int))
      (pss_cons (ps_setLc (i := 4) rfl sc.nd rfl rfl (sw_true rfl rfl rfl (by decide +kernel)) (pi_range1 (by rfl) T.n_range (pa_cons pe_int pa_nil)) (blkOk_by (own := [("_law_j", 5)]) (N := sl_L_name_by) (sc := defScope s_L_name_by) (by decide +kernel)) (fun _ _ _ _ _ => (pg_name (i := 5) sc.nd rfl (by first | exact Or.inl rfl | exact Or.inr rfl))) (fun _ _ _ _ _ => pts_nil) (fun _ _ _ _ _ => PE.cv (by exact (pe_calC (okL_sign_by T) (hr.mono (by decide)) (by rfl) pass0 (pa_cons (pe_op op_add (pe_op op_add (pe_op op_fdiv (pv 1) pe_int) (pe_op op_mulV pe_int (pv 5))) (pe_op op_mulV (pv 0) (pe_callTy call_int1 (by rfl) T.n_int (by decide +kernel) (pa_cons (pe_cmpR op_eq (pv 3) pe_int (nomark _)) pa_nil)))) pa_nil))) (by walk_at "cv")))
      (pss_cons (ps_set (i := 6) sc.nd rfl (Or.inl rfl) (pe_op op_mulV (pe_op op_mod (pe_op op_fdiv (pv 1) pe_int) (pv 2)) (pe_callTy call_int1 (by rfl) T.n_int (by decide +kernel) (pa_cons (pe_cmpR op_eq (pv 3) pe_int (nomark _)) pa_nil))))
      (pss_cons (ps_set (i := 7) sc.nd rfl (Or.inl rfl) (pe_calC (okL_sign_by T) (hr.mono (by decide)) (by rfl) pass0 (pa_cons (pe_op op_add (pv 1) (pe_op op_mulV (pv 0) (pe_ix ix_list (pe_lst (pa_cons pe_int (pa_cons pe_int pa_nil))) (pe_callTy call_int1 (by rfl) T.n_int (by decide +kernel) (pa_cons (pe_cmpR op_eq (pv 3) pe_int (nomark _)) pa_nil)) (fun _ _ => rfl)))) pa_nil)))
      (pss_cons (ps_set (i := 8) sc.nd rfl (Or.inl rfl) (pe_op op_add_str (pe_op op_add_str (pe_join pe_str (pe_slice sl_list (pv 4) po_none (po_some (pv 6)))) (pv 7)) (pe_join pe_str (pe_slice sl_list (pv 4) (po_some (pv 6)) (po_some (pe_op op_sub (pv 2) pe_int))))))
      (pss_cons (ps_if (pt_cmpR op_eq (pv 3) pe_int (nomark _)) (pss_one (ps_set (i := 8) sc.nd rfl (Or.inl rfl) (pe_join pe_str (pe_slice sl_list (pv 4) po_none (po_some (pe_op op_add pe_int (pe_op op_mod (pe_op op_add (pe_op op_fdiv (pv 1) pe_int) (pv 0)) pe_int))))))) pss_nil)
      (pss_cons (ps_if (PW.pt (pw_or (pt_cmpR op_eq (pv 8) pe_str (nomark _)) (pw_or1 (pt_cmpR op_eq (pv 8) pe_str (nomark _))))) (pss_one (ps_ret pe_str)) pss_nil)
      (pss_one (ps_ret (pv 8))))))))))))) (by walk_at "cv"), ?_⟩
  walk_at "go"
  refine if_join (fun σ H' => H' = H ∧ ∃ (sz : Int), 1 ≤ sz ∧ sz ≤ 12 ∧ σ = [some (.int k), some (.int s), some (.int sz), none, none, none, none, none, none]) ?_ (fun h N hj => ?_) fun h => ⟨rfl, 1, by decide, by decide, rfl⟩
  · rintro σ H' ⟨rfl, sz, h1, h12, rfl⟩
    walk_at "go"
    intro D hD
    refine lcP (j := 5) wR (by rw [List.length_map, List.length_range]) (fun _ _ => trivial) hD (fun _ y => ∃ c, y = V.str (c1 c) ∧ c ∈ sgns) (by decide) (fun _ => rfl) (fun x H2 hx e2 Q2 kk => ?_) fun ys H2 hp e2 hD2 => ?_
    · obtain ⟨i, hi, rfl⟩ := List.mem_map.mp hx
      have hi := List.mem_range.mp hi
      walk_at "go"
      exact fun c hc => kk _ _ (Same.refl _) ⟨c, rfl, hc⟩
    obtain ⟨zs, rfl, hzl, hzs⟩ := signs_of hp
    rw [List.length_map, List.length_range] at hzl
    have hzl : zs.length = 12 := hzl
    have ha : 0 ≤ s / 20 % sz ∧ s / 20 % sz < sz := ⟨Int.emod_nonneg _ (by omega), Int.emod_lt_of_pos _ (by omega)⟩
    walk_at "go"
    have e3 := Same.new (o := HO.lst [V.int 1, V.int 26]) np
    have hp3 : upd H2 p (HO.lst [V.int 1, V.int 26]) p = _ := upd_same
    have hD3 := e3 _ _ hD2
    generalize upd H2 p (HO.lst [V.int 1, V.int 26]) = H3 at e3 hp3 hD3 ⊢
    refine ⟨_, _, _, _, rfl, rfl, SqL.of hp3, at2i _, ?_⟩
    walk_at "go"
    intro c hc
    have hm := mul_le (b := decide (V.int (s / 5 % 4) = V.int 1)) ha.1
    walk_at "go"
    intro p4 n4
    have hn : s / 20 % sz * (if decide (V.int (s / 5 % 4) = V.int 1) = true then 1 else 0) = nmAt s sz := rfl
    have hm2 := hm
    rw [hn] at hm
    rw [cut_take _ hm2.1, hn, ← List.map_take, ← List.map_take]
    have e4 := Same.new (o := HO.lst (((zs.take (nmAt s sz).toNat).map c1).map V.str)) n4
    have hp4 : upd H3 p4 (HO.lst (((zs.take (nmAt s sz).toNat).map c1).map V.str)) p4 = _ := upd_same
    have hD4 := e4 _ _ hD3
    refine ⟨_, _, (zs.take (nmAt s sz).toNat).map c1, rfl, rfl, Or.inl (SqL.of hp4), join_room _ (by rw [List.length_take]; omega), ?_⟩
    generalize upd H3 p4 _ = H4 at e4 hp4 hD4 ⊢
    walk_at "go"
    have l1 := glue_len (zs.take (nmAt s sz).toNat)
    rw [List.length_take] at l1
    refine ⟨sl_of (show (Txt.join "" _).length + (c1 c).length ≤ _ by rw [l1, len_c1]; omega), ?_⟩
    walk_at "go"
    intro p5 n5
    rw [cut_mid _ hm2.1 (show s / 20 % sz * (if decide (V.int (s / 5 % 4) = V.int 1) = true then 1 else 0) ≤ sz - 1 by rw [hn]; omega), hn, ← List.map_drop, ← List.map_drop, ← List.map_take, ← List.map_take]
    have e5 := Same.new (o := HO.lst ((((zs.drop (nmAt s sz).toNat).take ((sz - 1).toNat - (nmAt s sz).toNat)).map c1).map V.str)) n5
    have hp5 : upd H4 p5 (HO.lst ((((zs.drop (nmAt s sz).toNat).take ((sz - 1).toNat - (nmAt s sz).toNat)).map c1).map V.str)) p5 = _ := upd_same
    have hD5 := e5 _ _ hD4
    refine ⟨_, _, ((zs.drop (nmAt s sz).toNat).take ((sz - 1).toNat - (nmAt s sz).toNat)).map c1, rfl, rfl, Or.inl (SqL.of hp5), join_room _ (by rw [List.length_take, List.length_drop]; omega), ?_⟩
    generalize upd H4 p5 _ = H5 at e5 hp5 hD5 ⊢
    have l2 := glue_len ((zs.drop (nmAt s sz).toNat).take ((sz - 1).toNat - (nmAt s sz).toNat))
    rw [List.length_take, List.length_drop] at l2
    refine ⟨_, _, rfl, rfl, sl_of (show (Txt.join "" _ ++ c1 c).length + (Txt.join "" _).length ≤ _ by rw [len_app, l1, l2, len_c1]; omega), ?_⟩
    have nm := NameOk.mid (n := nmAt s sz) (sz := sz) hzs hzl hc hm.1 (by omega) h12
    have hs5 : Same H' H5 := e2.trans (e3.trans (e4.trans e5))
    walk_at "go"
    refine if_join (fun σ H6 => Same H' H6 ∧ ∃ (v4 v6 v7 : Option V) (z : Str), NameOk z ∧ σ = [some (.int k), some (.int s), some (.int sz), some (.int (s / 5 % 4)), v4, none, v6, v7, some (.str z)]) ?_ (fun h N hj => ?_) fun h => ⟨hs5, _, _, _, _, nm, rfl⟩
    · rintro σ H6 ⟨hs6, v4, v6, v7, z, nm, rfl⟩
      walk_at "go"
      refine iteD (fun hz => ?_) fun hz1 => ?_
      · walk_at "go"
        exact q _ _ hs6 (by decide +kernel)
      walk_at "go"
      refine iteD (fun hz => ?_) fun hz2 => ?_
      · walk_at "go"
        exact q _ _ hs6 (by decide +kernel)
      walk_at "go"
      exact q _ _ hs6 (nm.part (fun e => hz1 (congrArg V.str e)) fun e => hz2 (congrArg V.str e))
    walk_at "go"
    intro p6 n6
    rw [cut_take _ (show 0 ≤ 1 + (s / 65 + k) % 12 by omega), ← List.map_take, ← List.map_take]
    refine ⟨_, _, (zs.take (1 + (s / 65 + k) % 12).toNat).map c1, rfl, rfl, Or.inl (SqL.of upd_same), join_room _ (by rw [List.length_take]; omega), ?_⟩
    refine hj _ _ ⟨hs5.trans (Same.new n6), _, _, _, _, NameOk.signs (fun c hc => hzs c (List.mem_of_mem_take hc)) (by rw [List.length_take]; omega) (by rw [List.length_take]; omega), rfl⟩
  · walk_at "go"
    exact hj _ _ ⟨rfl, 1 + s / 195 % 12, by omega, by omega, rfl⟩

def spPathBy : Sp := fun vs H Q _ => ∃ (c s : Int), vs = [.int c, .int s] ∧ Bits 1048576 c ∧ Bits 1048576 s ∧ ∀ z H', Same H H' → isPathB z = true → Q (.str z) H'
theorem okL_path_by (T : Txt K mg) : Cal P w K mg base CX0 3 "_law_path_by" ps_L_path_by (spPathBy) := by
  have sc := scL_path_by
  refine T.d_L_path_by.ok sc (by walk_at "len") (fun f cdv A outer s H vs Q E hr h => ?_)
  have hu := hu_of hr
  obtain ⟨c, s, rfl, hc, hs, q⟩ := h
  refine ⟨_, PSs.cv (by exact (pss_cons (ps_set (i := 2) sc.nd rfl (Or.inl rfl) (pe_ix ix_list (pe_lst (pa_cons pe_int (pa_cons pe_int (pa_cons pe_int (pa_cons pe_int (pa_cons pe_int pa_nil)))))) (pe_op op_mod (pv 0) pe_int) (fun _ _ => rfl)))
      (pss_cons (ps_setLc (i := 3) rfl sc.nd rfl rfl (sw_true rfl rfl rfl (by decide +kernel)) (pi_range1 (by rfl) T.n_range (pa_cons (pv 2) pa_nil)) (blkOk_by (own := [("_law_j", 4)]) (N := sl_L_path_by) (sc := defScope s_L_path_by) (by decide +kernel)) (fun _ _ _ _ _ => (pg_name (i := 4) sc.nd rfl (by first | exact Or.inl rfl | exact Or.inr rfl))) (fun _ _ _ _ _ => pts_nil) (fun _ _ _ _ _ => PE.cv (by exact (pe_calC (okL_name_by T) (hr.mono (by decide)) (by rfl) pass0 (pa_cons (pe_op op_mod (pe_op op_fdiv (pe_op op_fdiv (pv 0) pe_int) (pe_ix ix_list (pe_lst (pa_cons pe_int (pa_cons pe_int (pa_cons pe_int pa_nil)))) (pv 4) (fun _ _ => rfl))) pe_int) (pa_cons (pv 1) pa_nil)))) (by walk_at "cv")))
      (pss_cons (ps_if (pt_cmpR op_eq (pe_op op_mod (pv 1) pe_int) pe_int (nomark _)) (pss_cons (ps_set (i := 3) sc.nd rfl (Or.inl rfl) (pe_op op_cat (pe_lc (own := [("_law_j", 4)]) (g := gName 4) rfl sc.nd (pi_range1 (by rfl) T.n_range (pa_cons (pe_op op_add pe_int (pe_op op_mod (pe_op op_fdiv (pv 1) pe_int) pe_int)) pa_nil)) (blkOk_by (N := sl_L_path_by) (sc := defScope s_L_path_by) (by decide +kernel)) (fun _ _ _ _ _ => (pg_name (i := 4) sc.nd rfl (by first | exact Or.inl rfl | exact Or.inr rfl))) (fun _ _ _ _ _ => pts_nil) (fun _ _ _ _ _ => PE.cv (by exact (pe_calC (okL_name_by T) (hr.mono (by decide)) (by rfl) pass0 (pa_cons (pe_op op_add pe_int (pv 4)) (pa_cons (pv 1) pa_nil)))) (by walk_at "cv"))) (pv 3)))
      (pss_one (ps_if (pt_cmpR op_eq (pe_op op_mod (pv 0) pe_int) pe_int (nomark _)) (pss_one (ps_set (i := 3) sc.nd rfl (Or.inl rfl) (pe_slice sl_list (pv 3) po_none (po_some (pe_op op_add pe_int (pe_op op_mod (pe_op op_fdiv (pv 0) pe_int) (pe_callB call_len_seq (by rfl) T.n_len (by decide +kernel) (pa_cons (pv 3) pa_nil)))))))) pss_nil))) pss_nil)
      (pss_one (ps_ret (pe_join pe_str (pv 3)))))))) (by walk_at "cv"), ?_⟩
  walk_at "go"
  have e1 := Same.new (o := HO.lst [V.int 1, V.int 1, V.int 2, V.int 2, V.int 3]) np
  have hp1 : upd H p (HO.lst [V.int 1, V.int 1, V.int 2, V.int 2, V.int 3]) p = _ := upd_same
  generalize upd H p (HO.lst [V.int 1, V.int 1, V.int 2, V.int 2, V.int 3]) = H1 at e1 hp1 ⊢
  obtain ⟨d, hd, hm⟩ := at_ints (ns := [1, 1, 2, 2, 3]) (i := c % 5) (by omega) (by show c % 5 < 5; omega)
  have hd3 : 1 ≤ d ∧ d ≤ 3 := by simp at hm; omega
  refine ⟨_, _, _, _, rfl, rfl, SqL.of hp1, hd, ?_⟩
  walk_at "go"
  intro D hD
  refine lcP (j := 4) wR (by rw [List.length_map, List.length_range]) (fun _ _ => trivial) hD (fun _ y => ∃ c, y = V.str c ∧ isPartB c = true) (by omega) (fun _ => rfl) (fun x H2 hx e2 Q2 kk => ?_) fun ys H2 hp e2 hD2 => ?_
  · obtain ⟨i, hi, rfl⟩ := List.mem_map.mp hx
    have hi := List.mem_range.mp hi
    walk_at "go"
    have e3 := Same.new (o := HO.lst [V.int 1, V.int 3, V.int 9]) np
    have hp3 : upd H2 p (HO.lst [V.int 1, V.int 3, V.int 9]) p = _ := upd_same
    generalize upd H2 p (HO.lst [V.int 1, V.int 3, V.int 9]) = H3 at e3 hp3 ⊢
    obtain ⟨g, hg, hgm⟩ := at_ints (ns := [1, 3, 9]) (i := 0 + (i : Int)) (by omega) (by show 0 + (i : Int) < 3; omega)
    have hg9 : 1 ≤ g ∧ g ≤ 9 := by simp at hgm; omega
    refine ⟨_, _, _, _, rfl, rfl, SqL.of hp3, hg, ?_⟩
    refine ⟨_, _, rfl, rfl, ⟨by omega, by omega⟩, ?_⟩
    walk_at "go"
    exact fun z H' e hz => kk _ _ (e3.trans e) ⟨z, rfl, hz⟩
  obtain ⟨ps, rfl, hpl, hps⟩ := strs_all hp
  rw [List.length_map, List.length_range] at hpl
  have hs2 := e1.trans e2
  have hne : ps ≠ [] := fun e => by rw [e] at hpl; simp at hpl; omega
  walk_at "go"
  refine if_join (fun σ H6 => Same H H6 ∧ ∃ (v2 : Option V) (p : Addr) (qs : List Str), SqL K H6 p (qs.map V.str) ∧ qs ≠ [] ∧ (∀ z ∈ qs, isPartB z = true) ∧ qs.length ≤ 8 ∧ σ = [some (.int c), some (.int s), v2, some (.ref p), none]) ?_ (fun h N hj => ?_) fun h => ⟨hs2, _, _, ps, SqL.of hD2, hne, hps, by omega, rfl⟩
  · rintro σ H6 ⟨hs6, v2, p6, qs, hp6, hne6, hq6, hl6, rfl⟩
    walk_at "go"
    have room := join_parts_room hq6 hl6
    refine ⟨_, _, qs, rfl, rfl, Or.inl hp6, room, ?_⟩
    exact q _ _ hs6 (path_join hne6 hq6 hl6)
  walk_at "go"
  intro E hE
  refine lcP (j := 4) wR (by rw [List.length_map, List.length_range]) (fun _ _ => trivial) hE (fun _ y => ∃ c, y = V.str c ∧ isPartB c = true) (by omega) (fun _ => rfl) (fun x H2 hx e2 Q2 kk => ?_) fun ys H3 hp3 e3 hE3 => ?_
  · obtain ⟨i, hi, rfl⟩ := List.mem_map.mp hx
    have hi := List.mem_range.mp hi
    walk_at "go"
    exact fun z H' e hz => kk _ _ e ⟨z, rfl, hz⟩
  obtain ⟨as, rfl, hal, has⟩ := strs_all hp3
  rw [List.length_map, List.length_range] at hal
  have hD3 := e3 _ _ hD2
  walk_at "go"
  refine ⟨_, _, _, _, rfl, rfl, hE3, hD3, sl_of (by rw [List.length_map, List.length_map]; omega), fun p4 n4 => ?_⟩
  rw [← List.map_append]
  have e4 := Same.new (o := HO.lst ((as ++ ps).map V.str)) n4
  have hp4 : upd H3 p4 (HO.lst ((as ++ ps).map V.str)) p4 = _ := upd_same
  generalize upd H3 p4 (HO.lst ((as ++ ps).map V.str)) = H4 at e4 hp4 ⊢
  have hs4 := hs2.trans (e3.trans e4)
  have hall : ∀ z ∈ as ++ ps, isPartB z = true := fun z hz => (List.mem_append.mp hz).elim (has z) (hps z)
  have hlen : (as ++ ps).length ≤ 8 := by rw [List.length_append]; omega
  have hpos : 0 < (as ++ ps).length := by rw [List.length_append]; omega
  generalize as ++ ps = bs at hp4 hall hlen hpos
  walk_at "go"
  refine iteD (fun h => ?_) fun h => ?_
  · walk_at "go"
    rw [List.length_map]
    refine ⟨show (0 : Int) < (bs.length : Int) by omega, ?_⟩
    have hm0 : 0 ≤ c / 13 % (bs.length : Int) := Int.emod_nonneg _ (by omega)
    walk_at "go"
    intro p5 n5
    rw [cut_take _ (show 0 ≤ 1 + c / 13 % (bs.length : Int) by omega), ← List.map_take]
    refine hj _ _ ⟨hs4.trans (Same.new n5), _, _, bs.take (1 + c / 13 % (bs.length : Int)).toNat, SqL.of upd_same, fun e => ?_, fun z hz => hall z (List.mem_of_mem_take hz), by rw [List.length_take]; omega, rfl⟩
    have := congrArg List.length e
    rw [List.length_take, List.length_nil] at this
    omega
  · exact hj _ _ ⟨hs4, _, _, bs, SqL.of hp4, List.length_pos_iff.mp hpos, hall, hlen, rfl⟩
def spLineBy : Sp := fun vs H Q _ => ∃ (k s : Int), vs = [.int k, .int s] ∧ Bits 1048576 k ∧ Bits 1048576 s ∧ ∀ z H', Same H H' → z.length ≤ 700 → Q (.str z) H'

theorem okL_line_by (T : Txt K mg) : Cal P w K mg base CX0 1 "_law_line_by" ps_L_line_by (spLineBy) := by
  have sc := scL_line_by
  refine T.d_L_line_by.ok sc (by walk_at "len") (fun f cdv A outer s H vs Q E hr h => ?_)
  have hu := hu_of hr
  obtain ⟨k, s, rfl, hk, hs, q⟩ := h
  refine ⟨_, PSs.cv (by exact (pss_cons (ps_set (i := 2) sc.nd rfl (Or.inr rfl) pe_str)
      (pss_cons (ps_set (i := 2) sc.nd rfl (Or.inr rfl) (pe_op op_add_str (pv 2) pe_str))
      (pss_cons (ps_set (i := 3) sc.nd rfl (Or.inl rfl) (pe_lst (pa_cons pe_int (pa_cons pe_int (pa_cons pe_int (pa_cons (pe_op op_add pe_int (pe_op op_mod (pv 1) pe_int)) pa_nil))))))
      (pss_cons (ps_if (pt_cmpR op_eq (pe_op op_mod (pe_op op_fdiv (pv 1) pe_int) pe_int) pe_int (nomark _)) (pss_one (ps_asg (pe_op op_add pe_int (pe_op op_mod (pe_op op_fdiv (pv 1) pe_int) pe_int)) (pg_sub (pv 3) pe_int set_list))) pss_nil)
      (pss_one (ps_ret (pe_join pe_str (pe_lc (own := [("_law_j", 4)]) (g := gName 4) rfl sc.nd (pi_range1 (by rfl) T.n_range (pa_cons (pe_ix ix_list (pv 3) (pe_op op_mod (pv 0) pe_int) (fun _ _ => rfl)) pa_nil)) (blkOk_by (N := sl_L_line_by) (sc := defScope s_L_line_by) (by decide +kernel)) (fun _ _ _ _ _ => (pg_name (i := 4) sc.nd rfl (by first | exact Or.inl rfl | exact Or.inr rfl))) (fun _ _ _ _ _ => pts_nil) (fun _ _ _ _ _ => PE.cv (by exact (pe_ix ix_str (pv 2) (pe_op op_mod (pe_op op_add (pe_op op_add (pv 1) (pe_op op_mulV pe_int (pv 0))) (pv 4)) pe_int) (fun _ _ => rfl))) (by walk_at "cv"))))))))))) (by walk_at "cv"), ?_⟩
  walk_at "go"
  refine ⟨sl_of lineA_len, ?_⟩
  walk_at "go"
  have e1 := Same.new (o := HO.lst [V.int 0, V.int 1, V.int 2, V.int (3 + s % 60)]) np
  have hp1 : upd H p (HO.lst [V.int 0, V.int 1, V.int 2, V.int (3 + s % 60)]) p = _ := upd_same
  refine if_join (fun σ H6 => Same H H6 ∧ ∃ (a : Int), 0 ≤ a ∧ a ≤ 602 ∧ H6 p = some (.lst ([0, 1, 2, a].map V.int)) ∧ σ = [some (.int k), some (.int s), some (.str lineS), some (.ref p), none]) ?_ (fun h N hj => ?_) fun h => ⟨e1, 3 + s % 60, by omega, by omega, hp1, rfl⟩
  · rintro σ H6 ⟨hs6, a, h0, h6, hp6, rfl⟩
    obtain ⟨n, hn, hm⟩ := at_ints (ns := [0, 1, 2, a]) (i := k % 4) (by omega) (by show k % 4 < 4; omega)
    have hn6 : 0 ≤ n ∧ n ≤ 602 := by simp at hm; omega
    walk_at "go"
    refine ⟨_, _, _, _, rfl, rfl, SqL.of hp6, hn, ?_⟩
    walk_at "go"
    intro D hD
    refine lcP (j := 4) wR (by rw [List.length_map, List.length_range]) (fun _ _ => trivial) hD (fun _ y => ∃ c, y = V.str (c1 c) ∧ c ∈ cl lineS) (by omega) (fun _ => rfl) (fun x H2 hx e2 Q2 kk => ?_) fun ys H2 hp e2 hD2 => ?_
    · obtain ⟨i, hi, rfl⟩ := List.mem_map.mp hx
      walk_at "go"
      obtain ⟨c, hc, hcm⟩ := line_at (i := (s + 5 * k + (0 + (i : Int))) % 96) (by omega) (by omega)
      exact ⟨_, _, _, rfl, rfl, lineS_small, hc, kk _ _ (Same.refl _) ⟨c, rfl, hcm⟩⟩
    obtain ⟨zs, rfl, hzl, hzs⟩ := signs_of hp
    rw [List.length_map, List.length_range] at hzl
    refine ⟨_, _, zs.map c1, rfl, rfl, Or.inl (SqL.of hD2), join_room _ (by omega), ?_⟩
    exact q _ _ (hs6.trans e2) (by show (Txt.join "" (zs.map c1)).length ≤ 700; rw [glue_len]; omega)
  walk_at "go"
  refine ⟨_, _, _, _, rfl, rfl, hp1, rfl, ?_⟩
  exact hj _ _ ⟨Same.mut e1 np, 3 + s / 240 % 600, by omega, by omega, upd_same, rfl⟩
def spIsTree : Sp := fun vs H Q _ => ∃ (d : Addr) (G : Tr), vs = [.ref d] ∧ AtD H d G ∧ G.length ≤ 100000 ∧ (∀ p ∈ keys G, p.length ≤ 16777000) ∧ ∀ H', Same H H' → Q (.bl (isTreeB G)) H'
/-- the first i paths are well -/
def treeTo (G : Tr) (i : Nat) : Bool := ((keys G).take i).all fun p => isPathB p && (aboveL p).all fun q => !(valV G q).isSome
theorem treeTo_next {G : Tr} {i : Nat} {p : Str} (h : (keys G)[i]? = some p) : treeTo G (i + 1) = (treeTo G i && (isPathB p && (aboveL p).all fun q => !(valV G q).isSome)) := by
  unfold treeTo
  rw [List.take_add_one, h, List.all_append]
  simp
theorem treeTo_bad {G : Tr} {i : Nat} {p : Str} (h : (keys G)[i]? = some p) (hb : (isPathB p && (aboveL p).all fun q => !(valV G q).isSome) = false) : isTreeB G = false := by
  unfold isTreeB
  refine List.all_eq_false.mpr ⟨p, List.mem_of_getElem? h, by rw [hb]; simp⟩
theorem okis_tree (T : Txt K mg) : Cal P w K mg base CX0 3 "is_tree" ps_is_tree (spIsTree) := by
  have sc := scis_tree
  refine T.d_is_tree.ok sc (by walk_at "len") (fun f cdv A outer s H vs Q E hr h => ?_)
  have hu := hu_of hr
  obtain ⟨d, G, rfl, hd, hl, hk, q⟩ := h
  refine ⟨_, PSs.cv (by exact (pss_cons (ps_lock (ps_for PassesOwn.never rfl (pi_keys (pv 0)) (pg_name (i := 1) sc.nd rfl (Or.inl rfl)) (pss_cons (ps_if (pt_not (pt_val (pe_calC (okis_path T) (hr.mono (by decide)) (by rfl) pass0 (pa_cons (pv 1) pa_nil)))) (pss_one (ps_ret pe_bl)) pss_nil)
      (pss_one (ps_for PassesOwn.never rfl (pi_list (pe_calC (okabove T) (hr.mono (by decide)) (by rfl) pass0 (pa_cons (pv 1) pa_nil))) (pg_name (i := 2) sc.nd rfl (Or.inl rfl)) (pss_one (ps_if (pt_cmp (pc_din hu (pv 2) (pv 0))) (pss_one (ps_ret pe_bl)) pss_nil)))))))
      (pss_one (ps_ret pe_bl)))) (by walk_at "cv"), ?_⟩
  walk_at "go"
  refine ⟨d, _, hd, trivial, fun od => ?_⟩
  have un : ∀ H', Same (upd H d (.frz od (.dK (kvs G)))) H' → Same H (upd H' d (.dK (kvs G))) := fun H' e => Same.unlock hd e
  have fr : ∀ H', Same (upd H d (.frz od (.dK (kvs G)))) H' → H' d = some (.frz od (.dK (kvs G))) := fun H' e => Same.frz e
  generalize upd H d (.frz od (.dK (kvs G))) = HL at un fr ⊢
  have fr0 := fr HL (Same.refl _)
  walk_at "go"
  refine ⟨d, od, rfl, .inl ⟨kvs G, fr0, ?_⟩⟩
  refine for_it wK (fun i σ H' => Same HL H' ∧ (∃ v1 v2, σ = [some (.ref d), v1, v2]) ∧ treeTo G i = true) ⟨Same.refl _, ⟨_, _, rfl⟩, rfl⟩ (fun i σ H' _ h => fr _ h.1) ?_ ?_
  · rintro i x σ H2 H3 hi ⟨e2, ⟨v1, v2, rfl⟩, ht⟩ ⟨rfl, hx⟩
    rw [kvs_keys, List.getElem?_map] at hx
    rw [kvs_len] at hi
    obtain ⟨p, hp, rfl⟩ := Option.map_eq_some_iff.mp hx
    have hpl := hk p (List.mem_of_getElem? hp)
    walk_at "go"
    refine ⟨hpl, fun H4 e4 => ?_⟩
    have e4 := e2.trans e4
    walk_at "go"
    refine iteBN (fun hb => ?_) fun hb => ?_
    · walk_at "go"
      refine ⟨fr _ e4, ?_⟩
      have hq := q _ (un _ e4)
      rwa [treeTo_bad hp (by rw [hb]; rfl)] at hq
    walk_at "go"
    refine ⟨hpl, fun p5 H5 n5 e5 h5 => ?_⟩
    have e5 := e4.trans e5
    walk_at "go"
    refine ⟨⟨_, SqL.of h5⟩, ?_⟩
    refine for_it wL (fun j σ H' => Same HL H' ∧ H' p5 = some (.lst ((aboveL p).map V.str)) ∧ (∃ v2, σ = [some (.ref d), some (.str p), v2]) ∧ ((aboveL p).take j).all (fun q => !(valV G q).isSome) = true) ⟨e5, h5, ⟨_, rfl⟩, rfl⟩ (fun _ σ H' _ h => SqL.of h.2.1) ?_ ?_
    · rintro j x σ H6 H7 hj ⟨e6, h6, ⟨v2, rfl⟩, ha⟩ ⟨rfl, hx⟩
      rw [List.getElem?_map] at hx
      obtain ⟨z, hz, rfl⟩ := Option.map_eq_some_iff.mp hx
      walk_at "go"
      refine ⟨_, _, rfl, (rd_frz (fr _ e6)).get z, ?_⟩
      walk_at "go"
      refine iteB (fun hv => ?_) fun hv => ?_
      · walk_at "go"
        refine ⟨fr _ e6, ?_⟩
        have hq := q _ (un _ e6)
        rwa [treeTo_bad hp (by rw [hb, Bool.true_and]; exact List.all_eq_false.mpr ⟨z, List.mem_of_getElem? hz, by rw [hv]; simp⟩)] at hq
      · refine ⟨e6, h6, ⟨_, rfl⟩, ?_⟩
        rw [List.take_add_one, hz, List.all_append, ha, Bool.true_and]
        show ((!(valV G z).isSome) && true) = true
        rw [hv]; rfl
    · rintro σ H6 ⟨e6, h6, ⟨v2, rfl⟩, ha⟩
      refine ⟨e6, ⟨_, _, rfl⟩, ?_⟩
      rw [treeTo_next hp, ht, hb]
      rw [List.length_map, List.take_length] at ha
      exact ha
  · rintro σ H2 ⟨e2, ⟨v1, v2, rfl⟩, ht⟩
    rw [kvs_len] at ht
    refine ⟨fr _ e2, ?_⟩
    walk_at "go"
    have hq := q _ (un _ e2)
    have e : isTreeB G = true := by
      unfold treeTo at ht
      rw [show (keys G).take G.length = keys G from List.take_of_length_le (by rw [List.length_map]; exact Nat.le_refl _)] at ht
      exact ht
    rwa [e] at hq
def spLaw (K : PySem.W.Frag) : Sp := fun vs H Q _ => ∃ (a : Addr) (ns : List Int), vs = [.ref a] ∧ SqL K H a (ns.map V.int) ∧ ns.length ≤ 63 ∧ (∀ z ∈ ns, Bits 1048576 z) ∧ ∀ H', Q (.bl true) H'
def wrongL : List Str := ["", "/a", "a/", "a//b", "a/./b", "..", "a b", "a/b+", "abcdefghijklm", "a/b/c/d/e/f/g/h/i"]
theorem wrong_no : ∀ w ∈ wrongL, isPathB w = false ∧ w.length ≤ 200 := by decide +kernel
theorem oklaw (T : Txt K mg) : Cal P w K mg base CX0 4 "law" ps_law (spLaw K) := by
  have sc := sclaw
  refine T.d_law.ok sc (by walk_at "len") (fun f cdv A outer s H vs Q E hr h => ?_)
  have hu := hu_of hr
  obtain ⟨a, ns, rfl, hS, hn, hb, q⟩ := h
  refine ⟨_, PSs.cv (by exact (pss_cons (ps_set (i := 1) sc.nd rfl (Or.inl rfl) (pe_calC (okL_cell_at T) (hr.mono (by decide)) (by rfl) pass0 (pa_cons (pv 0) (pa_cons pe_int pa_nil))))
      (pss_cons (ps_set (i := 2) sc.nd rfl (Or.inl rfl) pe_dnewK)
      (pss_cons (ps_for PassesOwn.never rfl (pi_range1 (by rfl) T.n_range (pa_cons (pe_op op_mod (pe_calC (okL_cell_at T) (hr.mono (by decide)) (by rfl) pass0 (pa_cons (pv 0) (pa_cons pe_int pa_nil))) pe_int) pa_nil)) (pg_name (i := 3) sc.nd rfl (Or.inl rfl)) (pss_cons (ps_set (i := 4) sc.nd rfl (Or.inl rfl) (pe_calC (okL_cell_at T) (hr.mono (by decide)) (by rfl) pass0 (pa_cons (pv 0) (pa_cons (pe_op op_add pe_int (pv 3)) pa_nil))))
      (pss_one (ps_dput hu (pv 2) (pe_calC (okL_path_by T) (hr.mono (by decide)) (by rfl) pass0 (pa_cons (pv 4) (pa_cons (pv 1) pa_nil))) (pe_calC (okL_line_by T) (hr.mono (by decide)) (by rfl) pass0 (pa_cons (pe_op op_fdiv (pv 4) pe_int) (pa_cons (pv 1) pa_nil))) rfl))))
      (pss_cons (ps_if (pt_cmpR op_eq (pe_op op_mod (pe_op op_fdiv (pe_calC (okL_cell_at T) (hr.mono (by decide)) (by rfl) pass0 (pa_cons (pv 0) (pa_cons pe_int pa_nil))) pe_int) pe_int) pe_int (nomark _)) (pss_one (ps_for PassesOwn.never rfl (pi_range1 (by rfl) T.n_range (pa_cons pe_int pa_nil)) (pg_name (i := 5) sc.nd rfl (Or.inl rfl)) (pss_one (ps_dput hu (pv 2) (pe_op op_add_str (pe_op op_add_str (pe_op op_add_str pe_str (pe_callTy call_str_int (by rfl) T.n_str (by decide +kernel) (pa_cons (pv 5) pa_nil))) pe_str) (pe_calC (okL_name_by T) (hr.mono (by decide)) (by rfl) pass0 (pa_cons (pe_op op_mod (pv 5) pe_int) (pa_cons (pv 1) pa_nil)))) (pe_calC (okL_line_by T) (hr.mono (by decide)) (by rfl) pass0 (pa_cons (pe_op op_mod (pv 5) pe_int) (pa_cons (pv 1) pa_nil))) rfl)))) pss_nil)
      (pss_cons (ps_set (i := 6) sc.nd rfl (Or.inl rfl) (pe_calC (okL_cell_at T) (hr.mono (by decide)) (by rfl) pass0 (pa_cons (pv 0) (pa_cons pe_int pa_nil))))
      (pss_cons (ps_if (pt_cmpR op_eq (pe_op op_mod (pv 6) pe_int) pe_int (nomark _)) (pss_cons (ps_set (i := 7) sc.nd rfl (Or.inl rfl) (pe_lst (pa_cons pe_str (pa_cons pe_str (pa_cons pe_str (pa_cons pe_str (pa_cons pe_str (pa_cons pe_str (pa_cons pe_str (pa_cons pe_str (pa_cons pe_str (pa_cons pe_str pa_nil))))))))))))
      (pss_cons (ps_set (i := 8) sc.nd rfl (Or.inl rfl) pe_dnewK)
      (pss_cons (ps_set (i := 9) sc.nd rfl (Or.inl rfl) (pe_op op_mod (pe_op op_fdiv (pv 6) pe_int) (pe_op op_add (pe_callB call_lenRd (by rfl) T.n_len (by decide +kernel) (pa_cons (pv 2) pa_nil)) pe_int)))
      (pss_cons (ps_for PassesOwn.never rfl (pi_list (pe_callTy (call_listD rfl) (by rfl) T.n_list (by decide +kernel) (pa_cons (pv 2) pa_nil))) (pg_name (i := 10) sc.nd rfl (Or.inl rfl)) (pss_one (ps_if (pt_cmpR op_lt (pe_callB call_lenRd (by rfl) T.n_len (by decide +kernel) (pa_cons (pv 8) pa_nil)) (pv 9) (nomark _)) (pss_one (ps_dput hu (pv 8) (pv 10) (pe_dpop1 (pv 2) (pv 10) ⟨rfl, rfl, rfl, rfl⟩) rfl)) pss_nil)))
      (pss_cons (ps_dput hu (pv 2) (pe_ix ix_list (pv 7) (pe_op op_mod (pe_op op_fdiv (pv 6) pe_int) pe_int) (fun _ _ => rfl)) pe_str rfl)
      (pss_one (ps_lock (ps_for PassesOwn.never rfl (pi_keys (pv 8)) (pg_name (i := 10) sc.nd rfl (Or.inl rfl)) (pss_one (ps_dput hu (pv 2) (pv 10) (pe_dget hu (pv 8) (pv 10) (fun _ _ => rfl)) rfl)))))))))) pss_nil)
      (pss_cons (ps_set (i := 11) sc.nd rfl (Or.inl rfl) (pe_cmpR op_ne (pe_op op_mod (pv 6) pe_int) pe_int (nomark _)))
      (pss_cons (ps_lock (ps_for PassesOwn.never rfl (pi_keys (pv 2)) (pg_name (i := 10) sc.nd rfl (Or.inl rfl)) (pss_one (ps_for PassesOwn.never rfl (pi_keys (pv 2)) (pg_name (i := 12) sc.nd rfl (Or.inl rfl)) (pss_one (ps_if (pt_val (pe_m1 PySem.F.slot_str_startswith PySem.F.type_str_startswith mt_startswith (pv 12) (pe_op op_add_str (pv 10) pe_str))) (pss_one (ps_set (i := 11) sc.nd rfl (Or.inl rfl) pe_bl)) pss_nil))))))
      (pss_cons (ps_set (i := 13) sc.nd rfl (Or.inl rfl) (LiI.pe_listItems rfl (pv 2) (by rfl) T.n_list (by decide +kernel)))
      (pss_cons (ps_set (i := 14) sc.nd rfl (Or.inl rfl) (pe_calC (okis_tree T) (hr.mono (by decide)) (by rfl) pass0 (pa_cons (pv 2) pa_nil)))
      (pss_one (ps_ret (pe_and (pe_callB call_isi (by rfl) T.n_isinstance (by decide +kernel) (pa_cons (pv 14) (pa_cons (pe_bltn (v := .ty "bool") (by rfl) T.n_bool (by decide +kernel) rfl) pa_nil))) (pe_and (pe_cmpR op_eq (pv 14) (pv 11) (nomark _)) (pe_one (pe_cmpR (op_eqT hr.units) (LiI.pe_listItems rfl (pv 2) (by rfl) T.n_list (by decide +kernel)) (pv 13) (nomark _)))))))))))))))))) (by walk_at "cv"), ?_⟩
  walk_at "go"
  intro F nF
  have e1 := Same.new (o := HO.dK []) nF
  have hF : upd H F (HO.dK []) F = _ := upd_same
  generalize upd H F (HO.dK []) = H1 at e1 hF ⊢
  have hS1 := e1.seq hS
  generalize hs : cellZ ns 0 = s
  have hbs : Bits 1048576 s := hs ▸ cellZ_bits hb 0
  walk_at "go"
  refine for_it wR (fun i σ H' => Same H H' ∧ (∃ G, AtD H' F G ∧ TreeOk i G) ∧ ∃ v3 v4, σ = [some (.ref a), some (.int s), some (.ref F), v3, v4, none, none, none, none, none, none, none, none, none, none])
    ⟨e1, ⟨[], hF, TreeOk.nil⟩, _, _, rfl⟩ (fun _ _ _ _ _ => trivial) ?_ ?_
  · rintro i x σ H3 H4 hi ⟨e3, ⟨G, hG, ok⟩, v3, v4, rfl⟩ ⟨rfl, hx⟩
    rw [List.getElem?_map, List.getElem?_range hi] at hx
    cases hx
    have hS3 := e3.seq hS
    walk_at "go"
    intro z1 H5 e5 hz1
    walk_at "go"
    intro z2 H6 e6 hz2
    have e56 := e5.trans e6
    refine ⟨_, _, rfl, AtD.put (e56 _ _ hG) (by have := ok.len; omega) z2 _, ?_⟩
    exact ⟨Same.mut (e3.trans e56) nF, ⟨_, upd_same, ok.put hz2⟩, _, _, rfl⟩
  rintro σ H3 ⟨e3, ⟨G, hG, ok⟩, v3, v4, rfl⟩
  have hS3 := e3.seq hS
  have ok : TreeOk 8 G := ok.mono (by omega)
  walk_at "go"
  refine if_join (fun σ H' => Same H H' ∧ (∃ G, AtD H' F G ∧ TreeOk 68 G) ∧ ∃ v3 v4 v5, σ = [some (.ref a), some (.int s), some (.ref F), v3, v4, v5, none, none, none, none, none, none, none, none, none]) ?_ (fun h N hj => ?_)
    fun h => ⟨e3, ⟨G, hG, ok.mono (by decide)⟩, _, _, _, rfl⟩
  rotate_left
  · walk_at "go"
    refine for_it wR (fun i σ H' => Same H H' ∧ (∃ G, AtD H' F G ∧ TreeOk (8 + i) G) ∧ ∃ v3 v4 v5, σ = [some (.ref a), some (.int s), some (.ref F), v3, v4, v5, none, none, none, none, none, none, none, none, none])
      ⟨e3, ⟨G, hG, ok⟩, _, _, _, rfl⟩ (fun _ _ _ _ _ => trivial) ?_ ?_
    · rintro i x σ H3 H4 hi ⟨e3, ⟨G, hG, ok⟩, v3, v4, v5, rfl⟩ ⟨rfl, hx⟩
      rw [List.getElem?_map, List.getElem?_range hi] at hx
      cases hx
      have hi : i < 60 := hi
      walk_at "go"
      intro z1 H5 e5 hz1
      have tp : isPartB (("tops" : Str) ++ Str.ofString (toString ((0 : Int) + (i : Int)))) = true := tops_part ⟨i, by omega⟩
      have tl : ("tops" : Str).length + (Str.ofString (toString ((0 : Int) + (i : Int)))).length ≤ 20 := tops_len ⟨i, by omega⟩
      walk_at "go"
      refine ⟨log_small (by omega) (by omega), ?_⟩
      refine ⟨_, _, rfl, rfl, sl_of (Nat.le_trans tl (by decide)), ?_⟩
      walk_at "go"
      refine ⟨sl_of (by rw [len_app, show ("/" : Str).length = 1 from slash_len]; omega), ?_⟩
      walk_at "go"
      intro z2 H6 e6 hz2
      have e56 := e5.trans e6
      have tq := path2 tp hz2
      have lz2 := (part_nm hz2).2.2
      refine ⟨_, _, rfl, rfl, sl_of (by rw [len_app, len_app, show ("/" : Str).length = 1 from slash_len]; omega), ?_⟩
      refine ⟨_, _, rfl, AtD.put (e56 _ _ hG) (by have := ok.len; omega) _ _, ?_⟩
      exact ⟨Same.mut (e3.trans e56) nF, ⟨_, upd_same, ok.put tq⟩, _, _, _, rfl⟩
    · rintro σ H3 ⟨e3, ⟨G, hG, ok⟩, v3, v4, v5, rfl⟩
      exact hj _ _ ⟨e3, ⟨G, hG, ok⟩, _, _, _, rfl⟩
  clear hG hS3 e3
  rintro σ H3 ⟨e3, ⟨G, hG, ok⟩, v3, v4, v5, rfl⟩
  have hS3 := e3.seq hS
  walk_at "go"
  refine if_join (fun σ' H' => Same H H' ∧ (∃ G, AtD H' F G ∧ (keys G).Nodup ∧ (∀ p ∈ G, flatB p.2 = true) ∧ G.length ≤ 200 ∧ (∀ p ∈ keys G, p.length ≤ 200) ∧ (keys G).all isPathB = (!decide (V.int (cellZ ns 2 % 5) = V.int 1))) ∧
      ∃ v3 v4 v5 v7 v8 v9 v10, σ' = [some (.ref a), some (.int s), some (.ref F), v3, v4, v5, some (.int (cellZ ns 2)), v7, v8, v9, v10, none, none, none, none]) ?_ (fun h N hj => ?_)
    fun h => ⟨e3, ⟨G, hG, ok.nd, fun p hp => by obtain ⟨z, e⟩ := ok.str p hp; rw [e]; rfl, Nat.le_trans ok.len (by decide), fun p hp => Nat.le_trans (path_len (ok.path p hp)) (by decide), by rw [decide_eq_false h]; exact List.all_eq_true.mpr ok.path⟩, _, _, _, _, _, _, _, rfl⟩
  · rintro σ H4 ⟨e4, ⟨G, hG, nd, fl, len, kl, due⟩, v3, v4, v5, v7, v8, v9, v10, rfl⟩
    clear hS3 e3 hS e1 hF hS1 hbs hb hn
    walk_at "go"
    generalize hbv : (!decide ((fun i j => V.int (i % j)) (cellZ ns 2) 5 = V.int 1)) = bv
    have hbv : bv = (keys G).all isPathB := hbv.symm.trans due.symm
    walk_at "go"
    refine ⟨F, _, hG, trivial, fun od => ?_⟩
    have un : ∀ H', Same (upd H4 F (.frz od (.dK (kvs G)))) H' → Same H4 (upd H' F (.dK (kvs G))) := fun H' e => Same.unlock hG e
    have fr : ∀ H', Same (upd H4 F (.frz od (.dK (kvs G)))) H' → H' F = some (.frz od (.dK (kvs G))) := fun H' e => Same.frz e
    generalize upd H4 F (.frz od (.dK (kvs G))) = HL at un fr ⊢
    have fr0 := fr HL (Same.refl _)
    walk_at "go"
    refine ⟨F, od, rfl, .inl ⟨kvs G, fr0, ?_⟩⟩
    refine for_it wK (fun i σ H' => Same HL H' ∧ ∃ v10 v12, σ = [some (.ref a), some (.int s), some (.ref F), v3, v4, v5, some (.int (cellZ ns 2)), v7, v8, v9, v10, some (.bl (bv && ((keys G).take i).all fun p => (keys G).all fun q => !beneathB q p)), v12, none, none])
      ⟨Same.refl _, _, _, by rw [show ((keys G).take 0).all _ = true from rfl, Bool.and_true]; rfl⟩ (fun i σ H' _ h => fr _ h.1) ?_ ?_
    · rintro i x σ H5 H6 hi ⟨e5, v10, v12, rfl⟩ ⟨rfl, hx⟩
      rw [kvs_keys, List.getElem?_map] at hx
      obtain ⟨p, hp, rfl⟩ := Option.map_eq_some_iff.mp hx
      have hpl := kl p (List.mem_of_getElem? hp)
      generalize hc : (bv && ((keys G).take i).all fun p => (keys G).all fun q => !beneathB q p) = c
      walk_at "go"
      refine ⟨F, od, rfl, .inl ⟨kvs G, fr _ e5, ?_⟩⟩
      refine for_it wK (fun j σ H' => Same HL H' ∧ ∃ v12, σ = [some (.ref a), some (.int s), some (.ref F), v3, v4, v5, some (.int (cellZ ns 2)), v7, v8, v9, some (.str p), some (.bl (c && ((keys G).take j).all fun q => !beneathB q p)), v12, none, none])
        ⟨e5, _, by rw [show ((keys G).take 0).all _ = true from rfl, Bool.and_true]; rfl⟩ (fun i σ H' _ h => fr _ h.1) ?_ ?_
      · rintro j x σ H7 H8 hj ⟨e7, v12, rfl⟩ ⟨rfl, hx⟩
        rw [kvs_keys, List.getElem?_map] at hx
        obtain ⟨z, hz, rfl⟩ := Option.map_eq_some_iff.mp hx
        walk_at "go"
        refine ⟨sl_of (by rw [show ("/" : Str).length = 1 from slash_len]; omega), ?_⟩
        walk_at "go"
        refine iteB (fun hb => ?_) fun hb => ?_
        · have hb : beneathB z p = true := hb
          walk_at "go"
          refine ⟨e7, some (.str z), ?_⟩
          rw [all_next hz, hb, Bool.not_true, Bool.and_false, Bool.and_false]; rfl
        · have hb : beneathB z p = false := hb
          refine ⟨e7, some (.str z), ?_⟩
          rw [all_next hz, hb, Bool.not_false, Bool.and_true]; rfl
      · rintro σ H7 ⟨e7, v12, rfl⟩
        refine ⟨e7, some (.str p), v12, ?_⟩
        rw [all_kvs, ← hc, all_next hp, ← Bool.and_assoc]
    · rintro σ H5 ⟨e5, v10, v12, rfl⟩
      refine ⟨fr _ e5, ?_⟩
      rw [all_kvs, hbv]
      have e : ((keys G).all isPathB && (keys G).all fun p => (keys G).all fun q => !beneathB q p) = isTreeB G := (isTreeB_iff G).symm
      rw [e]
      have e6 := un _ e5
      have hG6 : AtD (upd H5 F (.dK (kvs G))) F G := upd_same
      generalize upd H5 F (.dK (kvs G)) = H6 at e6 hG6 ⊢
      walk_at "go"
      intro H7 p7 ts7 e7 np7 _ _ hp7 pr7
      have hG7 : AtD H7 F G := e7 _ _ hG6
      walk_at "go"
      refine ⟨Nat.le_trans len (by decide), fun p hp => Nat.le_trans (kl p hp) (by decide), fun H8 e8 => ?_⟩
      have hG8 : AtD H8 F G := e8 _ _ hG7
      walk_at "go"
      intro H9 p9 ts9 e9 np9 _ _ hp9 pr9
      have e79 : Same H7 H9 := e8.trans e9
      walk_at "go"
      have flk : ∀ x ∈ kvs G, flatB x.2 = true := fun x hx => by
        obtain ⟨y, hy, rfl⟩ := List.mem_map.mp hx
        exact fl y hy
      exact ⟨.inl ⟨p9, p7, _, _, rfl, rfl, SqL.of hp9, SqL.of (e79 _ _ hp7), items_eqN flk pr9 (Same.items e79 pr7)⟩, q _⟩
  walk_at "go"
  generalize hH5 : upd H3 p (HO.lst _) = H5
  have e5 : Same H3 H5 := hH5 ▸ Same.new np
  have hp5 : H5 p = some (.lst (wrongL.map V.str)) := by rw [← hH5]; exact upd_same
  clear hH5
  have hG5 : AtD H5 F G := e5 _ _ hG
  have e5 := e3.trans e5
  clear hG e3 hS3
  walk_at "go"
  intro B nB
  have e6 := Same.new (o := HO.dK []) nB
  have nBH : H B = none := e5.free nB
  have nFB : F ≠ B := ne_of_none hG5 nB
  have hB6 : AtD (upd H5 B (HO.dK [])) B [] := upd_same
  have hp6 := e6 _ _ hp5
  have hG6 : AtD (upd H5 B (HO.dK [])) F G := e6 _ _ hG5
  have e6 := e5.trans e6
  generalize upd H5 B (HO.dK []) = H6 at e6 hB6 hp6 hG6 ⊢
  clear e5 hG5 hp5 nB
  walk_at "go"
  intro L nL
  rw [kvs_keys]
  have e7 := Same.new (o := HO.lst ((keys G).map V.str)) nL
  have hL : upd H6 L (HO.lst ((keys G).map V.str)) L = _ := upd_same
  have nFL : F ≠ L := ne_of_none hG6 nL
  have nBL : B ≠ L := ne_of_none hB6 nL
  have nFp : F ≠ p := fun e => by subst e; rw [hG6] at hp6; cases hp6
  have nBp : B ≠ p := fun e => by subst e; rw [hB6] at hp6; cases hp6
  have hp7 := e7 _ _ hp6
  have hB7 := e7 _ _ hB6
  have hG7 := e7 _ _ hG6
  have e7 := e6.trans e7
  generalize upd H6 L (HO.lst ((keys G).map V.str)) = H7 at e7 hL hp7 hB7 hG7 ⊢
  clear e6 hG6 hp6 hB6 nL
  walk_at "go"
  refine ⟨⟨_, SqL.of hL⟩, ?_⟩
  refine for_it wL (fun i σ H' => Same H H' ∧ H' L = some (.lst ((keys G).map V.str)) ∧ H' p = some (.lst (wrongL.map V.str)) ∧ (∃ G' T', AtD H' F G' ∧ AtD H' B T' ∧ (keys G').Nodup ∧ (∀ x ∈ G', x ∈ G) ∧ (∀ x ∈ T', x ∈ G) ∧ G'.length ≤ 68 ∧ T'.length ≤ i ∧ ∀ j q, i ≤ j → (keys G)[j]? = some q → q ∈ keys G') ∧
      ∃ v3 v4 v5 v9 v10, σ = [some (.ref a), some (.int s), some (.ref F), v3, v4, v5, some (.int (cellZ ns 2)), some (.ref p), some (.ref B), some (.int v9), v10, none, none, none, none])
    ⟨e7, hL, hp7, ⟨G, [], hG7, hB7, ok.nd, fun _ h => h, fun _ h => absurd h (by simp), ok.len, Nat.le_refl _, fun j q _ h => List.mem_of_getElem? h⟩, _, _, _, _, _, rfl⟩ (fun _ _ _ _ h => SqL.of h.2.1) ?_ ?_
  · rintro i x σ H8 H9 hi ⟨e8, hL8, hp8, ⟨G', T', hG8, hB8, nd8, sG, sT, lG, lT, st⟩, v3, v4, v5, v9, v10, rfl⟩ ⟨rfl, hx⟩
    rw [List.getElem?_map] at hx
    obtain ⟨k, hk, rfl⟩ := Option.map_eq_some_iff.mp hx
    walk_at "go"
    refine iteD (fun hlt => ?_) fun hlt => ?_
    · walk_at "go"
      obtain ⟨v, hv⟩ := val_ex (st i k (Nat.le_refl _) hk)
      refine ⟨.inl ⟨_, AtD.rd hG8⟩, ?_⟩
      walk_at "go"
      refine ⟨_, .inr k, v, hG8, rfl, by rw [kvs_val]; exact hv, ?_⟩
      rw [kvs_drop]
      have hB9 : AtD (upd H9 F (.dK (kvs (dropK G' k)))) B T' := by
        show upd H9 F _ B = _
        rw [upd_ne nFB.symm]; exact hB8
      have hG9 : AtD (upd H9 F (.dK (kvs (dropK G' k)))) F (dropK G' k) := upd_same
      have hL9 : upd H9 F (.dK (kvs (dropK G' k))) L = _ := (upd_ne nFL.symm).trans hL8
      have hp9 : upd H9 F (.dK (kvs (dropK G' k))) p = _ := (upd_ne nFp.symm).trans hp8
      have e9 : Same H (upd H9 F (.dK (kvs (dropK G' k)))) := Same.mut e8 nF
      generalize upd H9 F (.dK (kvs (dropK G' k))) = H10 at hB9 hG9 hL9 hp9 e9 ⊢
      walk_at "go"
      have hi68 : i < 68 := by rw [List.length_map, List.length_map] at hi; exact Nat.lt_of_lt_of_le hi ok.len
      refine ⟨_, _, rfl, AtD.put hB9 (by omega) k v, ?_⟩
      refine ⟨Same.mut e9 nBH, (upd_ne nBL.symm).trans hL9, (upd_ne nBp.symm).trans hp9, ⟨dropK G' k, putK T' k v, (upd_ne nFB).trans hG9, upd_same, nd_drop nd8, fun x hx => sG x (mem_drop hx), fun x hx => ?_, Nat.le_trans (dropK_le _ _) lG, Nat.le_trans (put_len _ _ _) (by omega), fun j q hj' hq => ?_⟩, _, _, _, _, _, rfl⟩
      · rcases mem_put hx with e | ⟨hx, _⟩
        · subst e; exact sG _ (val_mem hv)
        · exact sT x hx
      · exact mem_keys_drop.mpr ⟨st j q (by omega) hq, nd_at ok.nd hq hk (by omega)⟩
    · exact ⟨e8, hL8, hp8, ⟨G', T', hG8, hB8, nd8, sG, sT, lG, by omega, fun j q hj' => st j q (by omega)⟩, _, _, _, _, _, rfl⟩
  rintro σ H8 ⟨e8, hL8, hp8, ⟨G', T', hG8, hB8, nd8, sG, sT, lG, lT, st⟩, v3, v4, v5, v9, v10, rfl⟩
  walk_at "go"
  obtain ⟨w, hw, hwm, _⟩ := at_strs (zs := wrongL) (i := cellZ ns 2 / 5 % 10) (by omega) (by show cellZ ns 2 / 5 % 10 < 10; omega)
  obtain ⟨hwp, hwl⟩ := wrong_no w hwm
  refine ⟨_, _, _, _, rfl, rfl, SqL.of hp8, hw, ?_⟩
  refine ⟨_, _, rfl, AtD.put hG8 (by omega) w _, ?_⟩
  have nd9 : (keys (putK G' w (V.str "x"))).Nodup := nd_put nd8
  have fl9 : ∀ x ∈ putK G' w (V.str "x"), flatB x.2 = true ∧ (x.1 = w ∨ isPathB x.1 = true) := fun x hx => by
    rcases mem_put hx with e | ⟨hx, _⟩
    · subst e; exact ⟨rfl, .inl rfl⟩
    · obtain ⟨z, ez⟩ := ok.str x (sG x hx)
      exact ⟨by rw [ez]; rfl, .inr (ok.path _ (List.mem_map.mpr ⟨x, sG x hx, rfl⟩))⟩
  have l9 : (putK G' w (V.str "x")).length ≤ 69 := Nat.le_trans (put_len _ _ _) (by omega)
  have w9 : w ∈ keys (putK G' w (V.str "x")) := mem_keys_put.mpr (.inl rfl)
  have hG9 : AtD (upd H8 F (.dK (kvs (putK G' w (V.str "x"))))) F (putK G' w (V.str "x")) := upd_same
  have hB9 : AtD (upd H8 F (.dK (kvs (putK G' w (V.str "x"))))) B T' := by
    show upd H8 F _ B = _
    rw [upd_ne nFB.symm]; exact hB8
  have e9 : Same H (upd H8 F (.dK (kvs (putK G' w (V.str "x"))))) := Same.mut e8 nF
  generalize upd H8 F (.dK (kvs (putK G' w (V.str "x")))) = H9 at hG9 hB9 e9 ⊢
  generalize putK G' w (V.str "x") = G9 at nd9 fl9 l9 w9 hG9
  clear hG8 hB8 hL8 hp8 e8
  walk_at "go"
  refine ⟨B, _, hB9, trivial, fun od => ?_⟩
  have hBL : upd H9 B (.frz od (.dK (kvs T'))) B = some (.frz od (.dK (kvs T'))) := upd_same
  have hGL : AtD (upd H9 B (.frz od (.dK (kvs T')))) F G9 := by
    show upd H9 B _ F = _
    rw [upd_ne nFB]; exact hG9
  have eL : Same H (upd H9 B (.frz od (.dK (kvs T')))) := Same.mut e9 nBH
  generalize upd H9 B (.frz od (.dK (kvs T'))) = HL at hBL hGL eL ⊢
  walk_at "go"
  refine ⟨B, od, rfl, .inl ⟨kvs T', hBL, ?_⟩⟩
  have lT : T'.length ≤ 68 := by rw [List.length_map, List.length_map] at lT; exact Nat.le_trans lT ok.len
  refine for_it wK (fun i σ H' => Same H H' ∧ H' B = some (.frz od (.dK (kvs T'))) ∧ (∃ G2, AtD H' F G2 ∧ (keys G2).Nodup ∧ (∀ x ∈ G2, flatB x.2 = true ∧ (x.1 = w ∨ isPathB x.1 = true)) ∧ G2.length ≤ 69 + i ∧ w ∈ keys G2) ∧
      ∃ v3 v4 v5 v9 v10, σ = [some (.ref a), some (.int s), some (.ref F), v3, v4, v5, some (.int (cellZ ns 2)), some (.ref p), some (.ref B), some (.int v9), v10, none, none, none, none])
    ⟨eL, hBL, ⟨G9, hGL, nd9, fl9, l9, w9⟩, _, _, _, _, _, rfl⟩ (fun _ _ _ _ h => h.2.1) ?_ ?_
  · rintro i x σ H10 H11 hi ⟨e10, hB10, ⟨G2, hG2, nd2, fl2, l2, w2⟩, v3, v4, v5, v9, v10, rfl⟩ ⟨rfl, hx⟩
    rw [kvs_keys, List.getElem?_map] at hx
    rw [kvs_len] at hi
    obtain ⟨k, hk, rfl⟩ := Option.map_eq_some_iff.mp hx
    obtain ⟨v, hv⟩ := val_ex (List.mem_of_getElem? hk)
    have hvG := sT _ (val_mem hv)
    walk_at "go"
    refine ⟨_, _, rfl, (rd_frz hB10).getS hv, ?_⟩
    walk_at "go"
    refine ⟨_, _, rfl, AtD.put hG2 (by omega) k _, ?_⟩
    refine ⟨Same.mut e10 nF, by rw [upd_ne nFB.symm]; exact hB10, ⟨putK G2 k v, upd_same, nd_put nd2, fun x hx => ?_, Nat.le_trans (put_len _ _ _) (by omega), mem_keys_put.mpr (.inr w2)⟩, _, _, _, _, _, rfl⟩
    rcases mem_put hx with e | ⟨hx, _⟩
    · subst e
      obtain ⟨z, ez⟩ := ok.str _ hvG
      exact ⟨by rw [show (k, v).2 = _ from ez]; rfl, .inr (ok.path _ (List.mem_map.mpr ⟨_, hvG, rfl⟩))⟩
    · exact fl2 x hx
  rintro σ H10 ⟨e10, hB10, ⟨G2, hG2, nd2, fl2, l2, w2⟩, v3, v4, v5, v9, v10, rfl⟩
  rw [kvs_len] at l2
  refine ⟨hB10, hj _ _ ⟨Same.mut e10 nBH, ⟨G2, by show upd H10 B _ F = _; rw [upd_ne nFB]; exact hG2, nd2, fun x hx => (fl2 x hx).1, by omega, fun q hq => ?_, ?_⟩, _, _, _, _, _, _, _, rfl⟩⟩
  · obtain ⟨x, hx, rfl⟩ := List.mem_map.mp hq
    rcases (fl2 x hx).2 with e | e
    · rw [e]; exact hwl
    · exact Nat.le_trans (path_len e) (by decide)
  · rw [decide_eq_true h, Bool.not_true]
    exact List.all_eq_false.mpr ⟨w, w2, by rw [hwp]; simp⟩
end
end T
namespace T
open PySem L2 M
theorem all_mk {P : Program} {w : World} {K : PySem.W.Frag} {h : Heap} {mg : Str → Option Value} {fa f0 f1 f2 f3 f4 f5 f6 f7 f8 f9 : Addr} (X : K.In h) (G : h.Ns mainGlobals mg) (hfa : mg "law" = some (.ref fa))
    {od0 an0 : Option Addr} {sl0 : Array (Option Value)} {oc0 kV0 dc0 pm0 cd0 ct0 : Value}
    (a0 : PySem.W.nsIn K mainGlobals "_law_cell_at" = some (some (.ref f0)))
    (l0 : K.lookup f0 = some ⟨oc0, od0, .func (PySem.W.fnOf "_law_cell_at" "_law_cell_at" (defArgs s_L_cell_at) (defBody s_L_cell_at) (defScope s_L_cell_at) .none kV0 dc0 pm0 an0 cd0 ct0), sl0⟩)
    (c0 : PySem.W.codeIn K cd0 "_law_cell_at" = true) (k0 : PySem.W.keepIn K (.ref f0) = true)
    {od1 an1 : Option Addr} {sl1 : Array (Option Value)} {oc1 kV1 dc1 pm1 cd1 ct1 : Value}
    (a1 : PySem.W.nsIn K mainGlobals "_law_sign_by" = some (some (.ref f1)))
    (l1 : K.lookup f1 = some ⟨oc1, od1, .func (PySem.W.fnOf "_law_sign_by" "_law_sign_by" (defArgs s_L_sign_by) (defBody s_L_sign_by) (defScope s_L_sign_by) .none kV1 dc1 pm1 an1 cd1 ct1), sl1⟩)
    (c1 : PySem.W.codeIn K cd1 "_law_sign_by" = true) (k1 : PySem.W.keepIn K (.ref f1) = true)
    {od2 an2 : Option Addr} {sl2 : Array (Option Value)} {oc2 kV2 dc2 pm2 cd2 ct2 : Value}
    (a2 : PySem.W.nsIn K mainGlobals "is_part" = some (some (.ref f2)))
    (l2 : K.lookup f2 = some ⟨oc2, od2, .func (PySem.W.fnOf "is_part" "is_part" (defArgs s_is_part) (defBody s_is_part) (defScope s_is_part) .none kV2 dc2 pm2 an2 cd2 ct2), sl2⟩)
    (c2 : PySem.W.codeIn K cd2 "is_part" = true) (k2 : PySem.W.keepIn K (.ref f2) = true)
    {od3 an3 : Option Addr} {sl3 : Array (Option Value)} {oc3 kV3 dc3 pm3 cd3 ct3 : Value}
    (a3 : PySem.W.nsIn K mainGlobals "is_path" = some (some (.ref f3)))
    (l3 : K.lookup f3 = some ⟨oc3, od3, .func (PySem.W.fnOf "is_path" "is_path" (defArgs s_is_path) (defBody s_is_path) (defScope s_is_path) .none kV3 dc3 pm3 an3 cd3 ct3), sl3⟩)
    (c3 : PySem.W.codeIn K cd3 "is_path" = true) (k3 : PySem.W.keepIn K (.ref f3) = true)
    {od4 an4 : Option Addr} {sl4 : Array (Option Value)} {oc4 kV4 dc4 pm4 cd4 ct4 : Value}
    (a4 : PySem.W.nsIn K mainGlobals "above" = some (some (.ref f4)))
    (l4 : K.lookup f4 = some ⟨oc4, od4, .func (PySem.W.fnOf "above" "above" (defArgs s_above) (defBody s_above) (defScope s_above) .none kV4 dc4 pm4 an4 cd4 ct4), sl4⟩)
    (c4 : PySem.W.codeIn K cd4 "above" = true) (k4 : PySem.W.keepIn K (.ref f4) = true)
    {od5 an5 : Option Addr} {sl5 : Array (Option Value)} {oc5 kV5 dc5 pm5 cd5 ct5 : Value}
    (a5 : PySem.W.nsIn K mainGlobals "_law_name_by" = some (some (.ref f5)))
    (l5 : K.lookup f5 = some ⟨oc5, od5, .func (PySem.W.fnOf "_law_name_by" "_law_name_by" (defArgs s_L_name_by) (defBody s_L_name_by) (defScope s_L_name_by) .none kV5 dc5 pm5 an5 cd5 ct5), sl5⟩)
    (c5 : PySem.W.codeIn K cd5 "_law_name_by" = true) (k5 : PySem.W.keepIn K (.ref f5) = true)
    {od6 an6 : Option Addr} {sl6 : Array (Option Value)} {oc6 kV6 dc6 pm6 cd6 ct6 : Value}
    (a6 : PySem.W.nsIn K mainGlobals "_law_path_by" = some (some (.ref f6)))
    (l6 : K.lookup f6 = some ⟨oc6, od6, .func (PySem.W.fnOf "_law_path_by" "_law_path_by" (defArgs s_L_path_by) (defBody s_L_path_by) (defScope s_L_path_by) .none kV6 dc6 pm6 an6 cd6 ct6), sl6⟩)
    (c6 : PySem.W.codeIn K cd6 "_law_path_by" = true) (k6 : PySem.W.keepIn K (.ref f6) = true)
    {od7 an7 : Option Addr} {sl7 : Array (Option Value)} {oc7 kV7 dc7 pm7 cd7 ct7 : Value}
    (a7 : PySem.W.nsIn K mainGlobals "_law_line_by" = some (some (.ref f7)))
    (l7 : K.lookup f7 = some ⟨oc7, od7, .func (PySem.W.fnOf "_law_line_by" "_law_line_by" (defArgs s_L_line_by) (defBody s_L_line_by) (defScope s_L_line_by) .none kV7 dc7 pm7 an7 cd7 ct7), sl7⟩)
    (c7 : PySem.W.codeIn K cd7 "_law_line_by" = true) (k7 : PySem.W.keepIn K (.ref f7) = true)
    {od8 an8 : Option Addr} {sl8 : Array (Option Value)} {oc8 kV8 dc8 pm8 cd8 ct8 : Value}
    (a8 : PySem.W.nsIn K mainGlobals "is_tree" = some (some (.ref f8)))
    (l8 : K.lookup f8 = some ⟨oc8, od8, .func (PySem.W.fnOf "is_tree" "is_tree" (defArgs s_is_tree) (defBody s_is_tree) (defScope s_is_tree) .none kV8 dc8 pm8 an8 cd8 ct8), sl8⟩)
    (c8 : PySem.W.codeIn K cd8 "is_tree" = true) (k8 : PySem.W.keepIn K (.ref f8) = true)
    {od9 an9 : Option Addr} {sl9 : Array (Option Value)} {oc9 kV9 dc9 pm9 cd9 ct9 : Value}
    (a9 : PySem.W.nsIn K mainGlobals "law" = some (some (.ref f9)))
    (l9 : K.lookup f9 = some ⟨oc9, od9, .func (PySem.W.fnOf "law" "law" (defArgs s_law) (defBody s_law) (defScope s_law) .none kV9 dc9 pm9 an9 cd9 ct9), sl9⟩)
    (c9 : PySem.W.codeIn K cd9 "law" = true) (k9 : PySem.W.keepIn K (.ref f9) = true)
    (z_all : PySem.W.nsIn K mainGlobals "all" = some none)
    (z_bool : PySem.W.nsIn K mainGlobals "bool" = some none)
    (z_int : PySem.W.nsIn K mainGlobals "int" = some none)
    (z_isinstance : PySem.W.nsIn K mainGlobals "isinstance" = some none)
    (z_len : PySem.W.nsIn K mainGlobals "len" = some none)
    (z_list : PySem.W.nsIn K mainGlobals "list" = some none)
    (z_range : PySem.W.nsIn K mainGlobals "range" = some none)
    (z_str : PySem.W.nsIn K mainGlobals "str" = some none)
    {t_MOST_PARTS : Tok} (v_MOST_PARTS : PySem.W.nsIn K mainGlobals "MOST_PARTS" = some (some (.int 8 t_MOST_PARTS)))
    {t_MOST_SIGNS : Tok} (v_MOST_SIGNS : PySem.W.nsIn K mainGlobals "MOST_SIGNS" = some (some (.int 12 t_MOST_SIGNS)))
    {t_SIGNS : Tok} (v_SIGNS : PySem.W.nsIn K mainGlobals "SIGNS" = some (some (.str "abcdefghijklmnopqrstuvwxyzABCDEFGHIJKLMNOPQRSTUVWXYZ0123456789.-_" t_SIGNS))) :
    ∃ fd : FuncData, (∀ (s : Shared) (v : Value), BindsTo s fd ⟨[v], []⟩ [("_law_script", v)]) ∧ ∀ base : Heap, K.In base → base.Ns mainGlobals mg → FnOk P w K mg base CX0 4 fa fd ["_law_script"] (spLaw K) := by
  have T : Txt K mg := {
    d_L_cell_at := ⟨_, _, fun_mk (st := s_L_cell_at) l0 c0 k0, PySem.W.mg_of X G a0, (fun_mk (st := s_L_cell_at) l0 c0 k0).binds (ps := ps_L_cell_at) (fun _ _ _ _ _ _ us hl => match us, hl with | [_, _], _ => rfl)⟩,
    d_L_sign_by := ⟨_, _, fun_mk (st := s_L_sign_by) l1 c1 k1, PySem.W.mg_of X G a1, (fun_mk (st := s_L_sign_by) l1 c1 k1).binds (ps := ps_L_sign_by) (fun _ _ _ _ _ _ us hl => match us, hl with | [_], _ => rfl)⟩,
    d_is_part := ⟨_, _, fun_mk (st := s_is_part) l2 c2 k2, PySem.W.mg_of X G a2, (fun_mk (st := s_is_part) l2 c2 k2).binds (ps := ps_is_part) (fun _ _ _ _ _ _ us hl => match us, hl with | [_], _ => rfl)⟩,
    d_is_path := ⟨_, _, fun_mk (st := s_is_path) l3 c3 k3, PySem.W.mg_of X G a3, (fun_mk (st := s_is_path) l3 c3 k3).binds (ps := ps_is_path) (fun _ _ _ _ _ _ us hl => match us, hl with | [_], _ => rfl)⟩,
    d_above := ⟨_, _, fun_mk (st := s_above) l4 c4 k4, PySem.W.mg_of X G a4, (fun_mk (st := s_above) l4 c4 k4).binds (ps := ps_above) (fun _ _ _ _ _ _ us hl => match us, hl with | [_], _ => rfl)⟩,
    d_L_name_by := ⟨_, _, fun_mk (st := s_L_name_by) l5 c5 k5, PySem.W.mg_of X G a5, (fun_mk (st := s_L_name_by) l5 c5 k5).binds (ps := ps_L_name_by) (fun _ _ _ _ _ _ us hl => match us, hl with | [_, _], _ => rfl)⟩,
    d_L_path_by := ⟨_, _, fun_mk (st := s_L_path_by) l6 c6 k6, PySem.W.mg_of X G a6, (fun_mk (st := s_L_path_by) l6 c6 k6).binds (ps := ps_L_path_by) (fun _ _ _ _ _ _ us hl => match us, hl with | [_, _], _ => rfl)⟩,
    d_L_line_by := ⟨_, _, fun_mk (st := s_L_line_by) l7 c7 k7, PySem.W.mg_of X G a7, (fun_mk (st := s_L_line_by) l7 c7 k7).binds (ps := ps_L_line_by) (fun _ _ _ _ _ _ us hl => match us, hl with | [_, _], _ => rfl)⟩,
    d_is_tree := ⟨_, _, fun_mk (st := s_is_tree) l8 c8 k8, PySem.W.mg_of X G a8, (fun_mk (st := s_is_tree) l8 c8 k8).binds (ps := ps_is_tree) (fun _ _ _ _ _ _ us hl => match us, hl with | [_], _ => rfl)⟩,
    d_law := ⟨_, _, fun_mk (st := s_law) l9 c9 k9, PySem.W.mg_of X G a9, (fun_mk (st := s_law) l9 c9 k9).binds (ps := ps_law) (fun _ _ _ _ _ _ us hl => match us, hl with | [_], _ => rfl)⟩,
    n_all := PySem.W.mg_none_of X G z_all,
    n_bool := PySem.W.mg_none_of X G z_bool,
    n_int := PySem.W.mg_none_of X G z_int,
    n_isinstance := PySem.W.mg_none_of X G z_isinstance,
    n_len := PySem.W.mg_none_of X G z_len,
    n_list := PySem.W.mg_none_of X G z_list,
    n_range := PySem.W.mg_none_of X G z_range,
    n_str := PySem.W.mg_none_of X G z_str,
    c_MOST_PARTS := ⟨_, PySem.W.mg_of X G v_MOST_PARTS⟩,
    c_MOST_SIGNS := ⟨_, PySem.W.mg_of X G v_MOST_SIGNS⟩,
    c_SIGNS := ⟨_, PySem.W.mg_of X G v_SIGNS⟩ }
  have e := hfa.symm.trans (PySem.W.mg_of X G a9)
  cases e
  refine ⟨PySem.W.fnOf "law" "law" (defArgs s_law) (defBody s_law) (defScope s_law) .none kV9 dc9 pm9 an9 cd9 ct9, fun s v => .of_eq rfl, fun base hb1 hb2 => ?_⟩
  obtain ⟨f, fd, F, g, kp, b, oc, od, osl, lk⟩ := (oklaw (P := P) (w := w) (base := base) T).ex
  have e2 := hfa.symm.trans g
  cases e2
  have e3 := lk.symm.trans l9
  cases e3
  exact F
theorem walk {l : PySem.W.OpenLaw} {q : Program} {loose : List Str} {XP : (Str → Option Value) → Heap → Prop} {YP : World → Heap → Prop} {d : DefRec} {K : Params → PySem.W.Frag} (hn : l.most = some 63) (hdf : d.params.defaults = [])
    (hY : ∀ (w : World) (h : Heap), YP w h → (K w.params).In h)
    (F : ∀ (w : World) (mg : Str → Option Value) (fa : Addr) (h : Heap), (K w.params).In h → h.Ns mainGlobals mg → mg d.name = some (.ref fa) →
      ∃ fd : FuncData, (∀ (s : Shared) (u : Value), BindsTo s fd ⟨[u], []⟩ [("_law_script", u)]) ∧ ∀ base : Heap, (K w.params).In base → base.Ns mainGlobals mg → FnOk l.prog w (K w.params) mg base CX0 4 fa fd ["_law_script"] (spLaw (K w.params))) :
    PySem.W.WalkO q loose XP YP l.row.toRowW d [] (fun f vs => PySem.call f vs) :=
  L2.walk_ofB (n := 63) (k := 4) (x := "_law_script") (CX := fun _ => CX0) (sp := fun w => spLaw (K w.params)) hn (by decide) hdf ⟨rfl, by decide, by decide⟩ hY F (fun _ _ a ns hl hb _ hS => ⟨a, ns, rfl, hS, hl, bits_of hb, fun _ => rfl⟩) fun _ _ _ _ _ z => z
end T
open PySem PySem.W PyProof.Rows
set_option maxRecDepth 100000 in
set_option maxHeartbeats 0 in
theorem PySem.Challenge.cw_threeroad_k03_a_tree_holds : PySem.Challenge.rw_threeroad_k03_a_tree.Holds := by
  w_on; o_law; k_head; (case hw => w_witness2)
  k_fill
  refine T.walk (l := PySem.Challenge.rw_threeroad_k03_a_tree) rfl rfl (fun w h Y => PySem.W.kIn_of Y) ?F
  case F =>
    intro w mg fa h KX G hmg
    refine' T.all_mk KX G hmg ?a0 ?l0 ?c0 ?k0 ?a1 ?l1 ?c1 ?k1 ?a2 ?l2 ?c2 ?k2 ?a3 ?l3 ?c3 ?k3 ?a4 ?l4 ?c4 ?k4 ?a5 ?l5 ?c5 ?k5 ?a6 ?l6 ?c6 ?k6 ?a7 ?l7 ?c7 ?k7 ?a8 ?l8 ?c8 ?k8 ?a9 ?l9 ?c9 ?k9 ?z_all ?z_bool ?z_int ?z_isinstance ?z_len ?z_list ?z_range ?z_str ?v_MOST_PARTS ?v_MOST_SIGNS ?v_SIGNS
    (case a0 => first | k_is | rfl)
    (case l0 => first | k_is | rfl)
    (case c0 => first | k_is | rfl)
    (case k0 => first | k_is | rfl)
    (case a1 => first | k_is | rfl)
    (case l1 => first | k_is | rfl)
    (case c1 => first | k_is | rfl)
    (case k1 => first | k_is | rfl)
    (case a2 => first | k_is | rfl)
    (case l2 => first | k_is | rfl)
    (case c2 => first | k_is | rfl)
    (case k2 => first | k_is | rfl)
    (case a3 => first | k_is | rfl)
    (case l3 => first | k_is | rfl)
    (case c3 => first | k_is | rfl)
    (case k3 => first | k_is | rfl)
    (case a4 => first | k_is | rfl)
    (case l4 => first | k_is | rfl)
    (case c4 => first | k_is | rfl)
    (case k4 => first | k_is | rfl)
    (case a5 => first | k_is | rfl)
    (case l5 => first | k_is | rfl)
    (case c5 => first | k_is | rfl)
    (case k5 => first | k_is | rfl)
    (case a6 => first | k_is | rfl)
    (case l6 => first | k_is | rfl)
    (case c6 => first | k_is | rfl)
    (case k6 => first | k_is | rfl)
    (case a7 => first | k_is | rfl)
    (case l7 => first | k_is | rfl)
    (case c7 => first | k_is | rfl)
    (case k7 => first | k_is | rfl)
    (case a8 => first | k_is | rfl)
    (case l8 => first | k_is | rfl)
    (case c8 => first | k_is | rfl)
    (case k8 => first | k_is | rfl)
    (case a9 => first | k_is | rfl)
    (case l9 => first | k_is | rfl)
    (case c9 => first | k_is | rfl)
    (case k9 => first | k_is | rfl)
    (case z_all => first | k_is | rfl)
    (case z_bool => first | k_is | rfl)
    (case z_int => first | k_is | rfl)
    (case z_isinstance => first | k_is | rfl)
    (case z_len => first | k_is | rfl)
    (case z_list => first | k_is | rfl)
    (case z_range => first | k_is | rfl)
    (case z_str => first | k_is | rfl)
    (case v_MOST_PARTS => first | k_is | rfl)
    (case v_MOST_SIGNS => first | k_is | rfl)
    (case v_SIGNS => first | k_is | rfl)
#print axioms PySem.Challenge.cw_threeroad_k03_a_tree_holds
