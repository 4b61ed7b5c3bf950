import PyProof.Rows.All
import Wide.All
import OpenK.AllK
import Wide.FinOn
import HandS.ForMost
import HandS.EndBits
import HandS.IsInst
import HandS.More
import HandS.Walk
import PySem.Challenge.RW_threeroad_k02_beneath
set_option Elab.async false
set_option linter.all false
set_option maxRecDepth 100000
set_option maxHeartbeats 4000000
/-! ### the small layer of this claim: a def of the text with its place, its promise as a callee, frames, loops of comprehensions -/
namespace M
open PySem PySem.Spec PyProof.Rows L2

/-! a def of the top: its function object, its name, how its arguments bind -/
structure Def (K : PySem.W.Frag) (mg : Str → Option Value) (x : Str) (st : Stmt) (ps : List Str) : Prop where
  ex : ∃ (f : Addr) (fd : FuncData), Fun K x x st f fd ∧ mg x = some (.ref f) ∧ Binds K fd ps []
/-! a def as its callers see it -/
structure Cal (P : Program) (w : World) (K : PySem.W.Frag) (mg : Str → Option Value) (base : Heap) (CX : CXT) (k : Nat) (x : Str) (ps : List Str) (sp : Sp) : Prop where
  ex : ∃ (f : Addr) (fd : FuncData), FnOk P w K mg base CX k f fd ps sp ∧ mg x = some (.ref f) ∧ PySem.W.keepIn K (.ref f) = true ∧ Binds K fd ps [] ∧ ∃ (oc : Value) (od : Option Addr) (osl : Array (Option Value)), K.lookup f = some ⟨oc, od, .func fd, osl⟩
section
variable {P : Program} {w : World} {K : PySem.W.Frag} {mg : Str → Option Value} {base : Heap}
/-- no exception leaves it -/
theorem Def.ok {x : Str} {st : Stmt} {N ps : List Str} {k : Nat} {sp : Sp} (D : Def K mg x st ps) (S : FnScope N ps (defScope st)) (len : ∀ vs H Q E, sp vs H Q E → vs.length = ps.length)
    (hbody : ∀ (f : Addr) (cdv : Value) (A : Around) (outer : List Env) (s : Shared) (H : Hp) (vs : List V) (Q : VK) (E : XK), Room k (A.deeper (envOfC x (defScope st) s.heap.objs.size f cdv)) → sp vs H Q E →
      ∃ t, PSs (cxOf CX0 P w K mg base N x (defScope st) f cdv A outer s H E).nox (defBody st) t ∧ t { nx := fun _ H' => Q .non H', rt := Q } (start N vs) H) : Cal P w K mg base CX0 (k + 1) x ps sp := by
  obtain ⟨f, fd, F, g, b⟩ := D.ex
  obtain ⟨oc, od, kV, doc, pm, an, cdv, ct, osl, e, lk, _⟩ := F.ex
  exact ⟨f, fd, F.ok S len fun cdv A outer s H vs Q E hr h => hbody f cdv A outer s H vs Q E hr h, g, F.kp, b, oc, od, osl, lk⟩
end
section
variable {X : Cx} {CX : CXT} {k : Nat} {ps : List Str} {sp : Sp} {E : XK}
theorem pe_calC {x : Str} {p pos : Pos} {e : Expr} {es : List Expr} {t : TA} (C : Cal X.prog X.w X.K X.mg X.base CX k x ps sp) (hr : Room k X.A) (hg : Gl X x) (hx : Passes CX X E) (ha : PA X (e :: es) t)
    (hdb : (x == ("__debug__" : Str)) = false := by decide +kernel) (he : starEach (e :: es) X.env = (false, eval e X.env) :: starEach es X.env := by rfl) (hpl : (backTo pos (starEach es X.env)).any (·.1) = false := by rfl) :
    PE X (.Call (.Name x p) (e :: es) [] pos) (tCall sp [] E t) := by
  obtain ⟨f, fd, F, g, kp, b, _⟩ := C.ex
  exact pe_call F hr hg g kp b .nil hx ha hdb he hpl
end

/-! ### frames: what was tracked is as it was -/
section
variable {K : PySem.W.Frag} {H H' H1 H2 : Hp} {p a : Addr} {o u : HO} {xs : List V}
theorem Same.new (h : H p = none) : Same H (upd H p o) := fun b w e => by rw [upd_ne (ne_of_none e h)]; exact e
theorem Same.mut (e : Same H H') (h : H p = none) : Same H (upd H' p o) := fun b w q => by rw [upd_ne (ne_of_none q h)]; exact e b w q
theorem Same.tup (e : Same H H') (h : SqT K H a xs) : SqT K H' a xs := by
  rcases h with (h | ⟨o, h⟩) | h
  · exact .inl (.inl (e _ _ h))
  · exact .inl (.inr ⟨o, e _ _ h⟩)
  · exact .inr h
theorem Same.rd (e : Same H H') (h : Rd H a u) : Rd H' a u := by
  rcases h with h | ⟨o, h⟩
  · exact .inl (e _ _ h)
  · exact .inr ⟨o, e _ _ h⟩
/-- behind the making of an object: the heap a letter -/
theorem new_at {R : Hp → Prop} (hp : H p = none) (h : ∀ H', Same H H' → H' p = some o → R H') : R (upd H p o) := h _ (Same.new hp) upd_same
end

/-! ### tests -/
section
variable {A B : Prop} {p : Prop} [Decidable p]
theorem iteD (h1 : p → A) (h2 : ¬ p → B) : if decide p = true then A else B := by
  by_cases h : p
  · rw [if_pos (decide_eq_true h)]; exact h1 h
  · rw [if_neg (by rw [decide_eq_false h]; exact Bool.false_ne_true)]; exact h2 h
theorem iteN (h1 : ¬ p → A) (h2 : p → B) : if (!decide p) = true then A else B := by
  by_cases h : p
  · rw [if_neg (by rw [decide_eq_true h]; exact Bool.false_ne_true)]; exact h2 h
  · rw [if_pos (by rw [decide_eq_false h]; rfl)]; exact h1 h
theorem iteB {b : Bool} (h1 : b = true → A) (h2 : b = false → B) : if b = true then A else B := by
  cases b with
  | true => rw [if_pos rfl]; exact h1 rfl
  | false => rw [if_neg Bool.false_ne_true]; exact h2 rfl
theorem iteBN {b : Bool} (h1 : b = false → A) (h2 : b = true → B) : if (!b) = true then A else B := by
  cases b with
  | true => exact iteF (h2 rfl)
  | false => exact iteT (h1 rfl)
end

theorem iteSelf {A B : Prop} {x : V} (h : B) : if (!decide (x = x)) = true then A else B := iteNS rfl h
theorem iteSelfT {A B : Prop} {x : V} (h : A) : if decide (x = x) = true then A else B := by rw [if_pos (decide_eq_true rfl)]; exact h
/-! an if without an else, its ways joined: I holds behind both; what follows is a letter in the way through -/
section
variable {p : Prop} [Decidable p] {t u : TS} {D : Ends} {σ : L2.St} {H : Hp}
theorem if_join (I : L2.St → Hp → Prop) (hj : ∀ σ' H', I σ' H' → D.nx σ' H') (ht : p → ∀ N : L2.St → Hp → Prop, (∀ σ' H', I σ' H' → N σ' H') → t { D with nx := N } σ H) (hf : ¬ p → I σ H) : if decide p = true then t D σ H else tNext D σ H :=
  iteD (fun h => ht h D.nx hj) fun h => hj _ _ (hf h)
theorem if_joinB {b : Bool} (I : L2.St → Hp → Prop) (hj : ∀ σ' H', I σ' H' → D.nx σ' H') (ht : b = true → ∀ N : L2.St → Hp → Prop, (∀ σ' H', I σ' H' → N σ' H') → t { D with nx := N } σ H) (hf : b = false → I σ H) : if b = true then t D σ H else tNext D σ H :=
  iteB (fun h => ht h D.nx hj) fun h => hj _ _ (hf h)
/-- .. with an else -/
theorem if_else (I : L2.St → Hp → Prop) (hj : ∀ σ' H', I σ' H' → D.nx σ' H') (ht : p → ∀ N : L2.St → Hp → Prop, (∀ σ' H', I σ' H' → N σ' H') → t { D with nx := N } σ H)
    (hf : ¬ p → ∀ N : L2.St → Hp → Prop, (∀ σ' H', I σ' H' → N σ' H') → u { D with nx := N } σ H) : if decide p = true then t D σ H else u D σ H :=
  iteD (fun h => ht h D.nx hj) fun h => hf h D.nx hj
theorem if_elseB {b : Bool} (I : L2.St → Hp → Prop) (hj : ∀ σ' H', I σ' H' → D.nx σ' H') (ht : b = true → ∀ N : L2.St → Hp → Prop, (∀ σ' H', I σ' H' → N σ' H') → t { D with nx := N } σ H)
    (hf : b = false → ∀ N : L2.St → Hp → Prop, (∀ σ' H', I σ' H' → N σ' H') → u { D with nx := N } σ H) : if b = true then t D σ H else u D σ H :=
  iteB (fun h => ht h D.nx hj) fun h => hf h D.nx hj
/-- a block cut behind a statement -/
theorem seq_join (I : L2.St → Hp → Prop) (ht : ∀ N : L2.St → Hp → Prop, (∀ σ' H', I σ' H' → N σ' H') → t { D with nx := N } σ H) (hu : ∀ σ' H', I σ' H' → u D σ' H') : tSeq t u D σ H := ht (u D) hu
end
/-! and, or as values, their ways joined: R holds of the value -/
section
variable {c : Bool} {tb : TE} {σ : L2.St} {H : Hp} {Q : VK}
theorem and_join (R : V → Hp → Prop) (hq : ∀ v H', R v H' → Q v H') (h1 : c = true → ∀ Q' : VK, (∀ v H', R v H' → Q' v H') → tb σ H Q') (h2 : c = false → R (.bl false) H) : if c = true then tb σ H Q else Q (.bl false) H :=
  iteB (fun h => h1 h Q hq) fun h => hq _ _ (h2 h)
theorem or_join (R : V → Hp → Prop) (hq : ∀ v H', R v H' → Q v H') (h1 : c = false → ∀ Q' : VK, (∀ v H', R v H' → Q' v H') → tb σ H Q') (h2 : c = true → R (.bl true) H) : if c = true then Q (.bl true) H else tb σ H Q :=
  iteB (fun h => hq _ _ (h2 h)) fun h => h1 h Q hq
end
/-! ### sizes -/
theorem sl_of {n : Nat} (h : n ≤ 16777216) : n ≤ sizeLine := by rw [sizeLine_eq]; exact h
theorem sl_lt {n : Nat} (h : n < 16777216) : n < sizeLine := by rw [sizeLine_eq]; exact h

/-! ### operators of this text -/
/-- * of ints that together have fewer than a hundred million bits -/
def CMulV (i j : Int) : Prop := i.natAbs.log2 + j.natAbs.log2 < 100000000
theorem CMulV.ok {i j : Int} (h : CMulV i j) : IntMulOk i j := by
  have b : ∀ x : Int, Builtin.Int.intBits x ≤ x.natAbs.log2 + 1 := fun x => by
    unfold Builtin.Int.intBits
    split <;> omega
  have h1 := b i
  have h2 := b j
  have h3 : i.natAbs.log2 + j.natAbs.log2 < 100000000 := h
  have e : bitsLine = 134217728 := by decide
  unfold IntMulOk
  intro z
  rw [Bool.and_eq_true] at z
  have z2 := z.2
  unfold Builtin.Int.intTooBig at z2
  have z3 := of_decide_eq_true z2
  rw [e] at z3
  omega
section
variable {X : Cx}
theorem op_mulV : OpR X (binaryOp .Mult) (rI CMulV fun i j => .int (i * j)) := opI fun _ _ _ _ _ _ _ hc q => mul_int q hc.ok
end
section
variable {X : Cx}
/-- a text times an int -/
theorem op_mulS : OpR X (binaryOp .Mult) (fun x y H Q => ∃ z i, x = .str z ∧ y = .int i ∧ PySem.MulOk z i ∧ Q (.str (Txt.mul z i)) H) := by
  intro pins s σ H x y v u Q I rx ry h
  obtain ⟨z, i, rfl, rfl, hz, q⟩ := h
  obtain ⟨t, rfl⟩ := rx
  obtain ⟨t', rfl⟩ := ry
  exact SB.mul hz fun t' k => ⟨.str (Txt.mul z i), H, I.tok _, ⟨_, rfl⟩, q⟩
end
/-- an int of at most n bits -/
def Bits (n : Nat) (i : Int) : Prop := i.natAbs < 2 ^ n
theorem Bits.log2 {n : Nat} {i : Int} (h : Bits n i) : i.natAbs.log2 ≤ n := by
  by_cases z : i.natAbs = 0
  · rw [z]; exact Nat.le_trans (by decide) (Nat.zero_le n)
  · exact Nat.le_of_lt ((Nat.log2_lt z).mpr h)
theorem Bits.mul {n m : Nat} {i j : Int} (a : Bits n i) (b : Bits m j) (h : n + m < 100000000) : CMulV i j := by
  have h1 := a.log2
  have h2 := b.log2
  unfold CMulV
  omega
theorem Bits.mono {n m : Nat} {i : Int} (a : Bits n i) (h : n ≤ m) : Bits m i := Nat.lt_of_lt_of_le a (Nat.pow_le_pow_right (by decide) h)
theorem Bits.prod {n m : Nat} {i j : Int} (a : Bits n i) (b : Bits m j) : Bits (n + m) (i * j) := by
  unfold Bits
  rw [Int.natAbs_mul, Nat.pow_add]
  exact Nat.mul_lt_mul'' a b
theorem Bits.add {n m : Nat} {i j : Int} (a : Bits n i) (b : Bits m j) : Bits (n + m + 1) (i + j) := by
  unfold Bits at *
  have h1 : 2 ^ n ≤ 2 ^ (n + m) := Nat.pow_le_pow_right (by decide) (by omega)
  have h2 : 2 ^ m ≤ 2 ^ (n + m) := Nat.pow_le_pow_right (by decide) (by omega)
  have h3 : 2 ^ (n + m + 1) = 2 ^ (n + m) * 2 := by rw [Nat.pow_succ]
  have h4 : (i + j).natAbs ≤ i.natAbs + j.natAbs := Int.natAbs_add_le i j
  omega
theorem ediv_natAbs_le (i : Int) {j : Int} (h : 0 < j) : (i / j).natAbs ≤ i.natAbs := by
  have e := Int.mul_ediv_add_emod i j
  have e1 := Int.emod_nonneg i (show j ≠ 0 by omega)
  have e2 := Int.emod_lt_of_pos i h
  by_cases h0 : 0 ≤ i
  · have z1 : 0 ≤ i / j := Int.ediv_nonneg h0 (by omega)
    have z2 : i / j ≤ i := Int.ediv_le_self j h0
    omega
  · have z1 : i / j < 0 := Int.ediv_neg_of_neg_of_pos (by omega) h
    have h5 : (j - 1) * (i / j + 1) ≤ 0 := Int.mul_nonpos_of_nonneg_of_nonpos (by omega) (by omega)
    have h6 : (j - 1) * (i / j + 1) = j * (i / j) + j - i / j - 1 := by rw [Int.sub_mul, Int.mul_add, Int.mul_one, Int.one_mul]; omega
    omega
theorem Bits.div {n : Nat} {i j : Int} (a : Bits n i) (h : 0 < j) : Bits n (i / j) := Nat.lt_of_le_of_lt (ediv_natAbs_le i h) a
theorem Bits.of {n : Nat} {i : Int} (h1 : -(2 ^ n : Int) < i) (h2 : i < 2 ^ n) : Bits n i := by
  unfold Bits
  have e : ((2 ^ n : Nat) : Int) = (2 : Int) ^ n := by simp
  omega
theorem Bits.small {i : Int} (h1 : -1000000000000 < i) (h2 : i < 1000000000000) : Bits 40 i := by
  unfold Bits
  omega

/-! ### walks over known items -/
section
variable {K : PySem.W.Frag} {a d : Addr} {xs : List V} {o : Obj}
theorem wL : Walk (Itl K a) xs.length (fun H => SqL K H a xs) (YAt xs) := walk_list
theorem wT : Walk (Itt K a) xs.length (fun H => SqT K H a xs) (YAt xs) := walk_tup
theorem wR {lo : Int} {n : Nat} : Walk (Itr lo n) n (fun _ => True) (YAt ((List.range n).map fun i : Nat => V.int (lo + (i : Int)))) :=
  walk_range.mono (fun _ h => h) fun i H x H' hi _ y => ⟨y.1, by rw [y.2, List.getElem?_map, List.getElem?_range hi]; rfl⟩
theorem wS {z : Str} : Walk (Its z) z.cps.size (fun _ => True) (YAt (z.cps.toList.map fun c => V.str ⟨#[c]⟩)) :=
  walk_str.mono (fun _ h => h) fun i H x H' hi _ y => by
    obtain ⟨e, c, hc, rfl⟩ := y
    exact ⟨e, by rw [List.getElem?_map, Array.getElem?_toList, hc]; rfl⟩
theorem wK {kvs : List (Key × V)} : Walk (Itk d o kvs) kvs.length (fun H => H d = some (.frz o (.dK kvs))) (YAt (kvs.map fun kv => kV kv.1)) :=
  walk_keys.mono (fun _ h => h) fun i H x H' hi _ y => by
    obtain ⟨e, k, v, hk, rfl⟩ := y
    exact ⟨e, by rw [List.getElem?_map, hk]; rfl⟩
end
/-! ### comprehensions whose elements change nothing that stood -/
section
variable {J : It} {n : Nat} {G : Hp → Prop} {te : TE} {tt : TT} {vs : List Nat} {σ : L2.St} {H1 : Hp} {D : Addr} {Qd : Hp → Prop} {xs : List V} {j : Nat}
/-- the element by a test, both known -/
theorem lcF (w : Walk J n G (YAt xs)) (hx : xs.length = n) (hG : ∀ H', Same H1 H' → G H') (hD : H1 D = none) (p : V → Bool) (f : V → V) (hn : n ≤ 16777216) (hw : ∀ x, wipe ((wipe σ vs).set j (some x)) vs = wipe σ vs)
    (ht : ∀ x H, x ∈ xs → Same H1 H → ∀ Q2 : Bool → Hp → Prop, (∀ H', Same H H' → Q2 (p x) H') → tt ((wipe σ vs).set j (some x)) H Q2)
    (hs : ∀ x H, x ∈ xs → p x = true → Same H1 H → ∀ Q2 : VK, (∀ H', Same H H' → Q2 (f x) H') → te ((wipe σ vs).set j (some x)) H Q2)
    (hd : ∀ H', Same H1 H' → H' D = some (.lst ((xs.filter p).map f)) → Qd H') :
    ∃ W : Nat → Nat → Hp → Prop, (∃ m, W 0 m (upd H1 D (.lst []))) ∧ ∀ i m H, W i m H →
      (J.stop i H ∧ Qd H) ∨ (J.go i H ∧ ∃ Nx : Hp → Prop, (∀ H', Nx H' → ∃ m', m' < m ∧ W (i + 1) m' H') ∧ ∀ x H', J.yld i H x H' → gName j x (wipe σ vs) H' fun σ2 H2 => wipe σ2 vs = wipe σ vs ∧ tt σ2 H2 fun b H3 =>
        if b = true then te σ2 H3 fun y H4 => ∃ acc, H4 D = some (.lst acc) ∧ acc.length < sizeLine ∧ Nx (upd H4 D (.lst (acc ++ [y]))) else Nx H3) := by
  have tk : ∀ {i : Nat} {x : V}, xs[i]? = some x → xs.take (i + 1) = xs.take i ++ [x] := fun h => by rw [List.take_add_one, h]; rfl
  refine lc_it w (fun i H => Same H1 H ∧ H D = some (.lst (((xs.take i).filter p).map f))) ⟨Same.new hD, by rw [upd_same]; rfl⟩ (fun i H _ q => hG H q.1) ?_ ?_
  · rintro i x H H0 hi ⟨e, hacc⟩ ⟨rfl, hix⟩
    have hx' : x ∈ xs := List.mem_of_getElem? hix
    refine ⟨hw _, ?_⟩
    refine ht x _ hx' e _ fun H' e' => ?_
    refine iteB (fun hp => ?_) fun hp => ?_
    · refine hs x H' hx' hp (e.trans e') _ fun H2 e2 => ?_
      refine ⟨_, e2 _ _ (e' _ _ hacc), sl_lt ?_, Same.mut ((e.trans e').trans e2) hD, ?_⟩
      · have h1 := List.length_filter_le p (xs.take i)
        rw [List.length_map]
        rw [List.length_take] at h1
        omega
      · rw [upd_same, tk hix, List.filter_append, List.map_append]
        simp [hp]
    · refine ⟨e.trans e', ?_⟩
      rw [e' _ _ hacc, tk hix, List.filter_append, List.map_append]
      simp [hp]
  · rintro H ⟨e, hacc⟩
    rw [← hx, List.take_length] at hacc
    exact hd H e hacc
/-- no test, the element known -/
theorem lcM (w : Walk J n G (YAt xs)) (hx : xs.length = n) (hG : ∀ H', Same H1 H' → G H') (hD : H1 D = none) (f : V → V) (hn : n ≤ 16777216) (hw : ∀ x, wipe ((wipe σ vs).set j (some x)) vs = wipe σ vs)
    (hs : ∀ x H, x ∈ xs → Same H1 H → ∀ Q2 : VK, (∀ H', Same H H' → Q2 (f x) H') → te ((wipe σ vs).set j (some x)) H Q2)
    (hd : ∀ H', Same H1 H' → H' D = some (.lst (xs.map f)) → Qd H') :
    ∃ W : Nat → Nat → Hp → Prop, (∃ m, W 0 m (upd H1 D (.lst []))) ∧ ∀ i m H, W i m H →
      (J.stop i H ∧ Qd H) ∨ (J.go i H ∧ ∃ Nx : Hp → Prop, (∀ H', Nx H' → ∃ m', m' < m ∧ W (i + 1) m' H') ∧ ∀ x H', J.yld i H x H' → gName j x (wipe σ vs) H' fun σ2 H2 => wipe σ2 vs = wipe σ vs ∧ tYes σ2 H2 fun b H3 =>
        if b = true then te σ2 H3 fun y H4 => ∃ acc, H4 D = some (.lst acc) ∧ acc.length < sizeLine ∧ Nx (upd H4 D (.lst (acc ++ [y]))) else Nx H3) :=
  lcF w hx hG hD (fun _ => true) f hn hw (fun x H _ _ Q2 q => q H (Same.refl H)) (fun x H h _ => hs x H h) fun H' e h => hd H' e (by rw [h, List.filter_eq_self.mpr fun _ _ => rfl])
/-- no test, of the element at turn i a fact is told -/
theorem lcP (w : Walk J n G (YAt xs)) (hx : xs.length = n) (hG : ∀ H', Same H1 H' → G H') (hD : H1 D = none) (P : V → V → Prop) (hn : n ≤ 16777216) (hw : ∀ x, wipe ((wipe σ vs).set j (some x)) vs = wipe σ vs)
    (hs : ∀ x H, x ∈ xs → Same H1 H → ∀ Q2 : VK, (∀ y H', Same H H' → P x y → Q2 y H') → te ((wipe σ vs).set j (some x)) H Q2)
    (hd : ∀ ys H', Paired P xs ys → Same H1 H' → H' D = some (.lst ys) → Qd H') :
    ∃ W : Nat → Nat → Hp → Prop, (∃ m, W 0 m (upd H1 D (.lst []))) ∧ ∀ i m H, W i m H →
      (J.stop i H ∧ Qd H) ∨ (J.go i H ∧ ∃ Nx : Hp → Prop, (∀ H', Nx H' → ∃ m', m' < m ∧ W (i + 1) m' H') ∧ ∀ x H', J.yld i H x H' → gName j x (wipe σ vs) H' fun σ2 H2 => wipe σ2 vs = wipe σ vs ∧ tYes σ2 H2 fun b H3 =>
        if b = true then te σ2 H3 fun y H4 => ∃ acc, H4 D = some (.lst acc) ∧ acc.length < sizeLine ∧ Nx (upd H4 D (.lst (acc ++ [y]))) else Nx H3) := by
  have tk : ∀ {i : Nat} {x : V}, xs[i]? = some x → xs.take (i + 1) = xs.take i ++ [x] := fun h => by rw [List.take_add_one, h]; rfl
  have pa : ∀ {as bs : List V} {x y : V}, Paired P as bs → P x y → Paired P (as ++ [x]) (bs ++ [y]) := fun {as bs x y} h hp => by
    induction h with
    | nil => exact .cons hp .nil
    | cons a t ih => exact .cons a ih
  refine lc_it w (fun i H => Same H1 H ∧ ∃ ys, H D = some (.lst ys) ∧ Paired P (xs.take i) ys) ⟨Same.new hD, [], upd_same, .nil⟩ (fun i H _ q => hG H q.1) ?_ ?_
  · rintro i x H H0 hi ⟨e, ys, hacc, hp⟩ ⟨rfl, hix⟩
    have hx' : x ∈ xs := List.mem_of_getElem? hix
    refine ⟨hw _, ?_⟩
    show te _ _ _
    refine hs x _ hx' e _ fun y H' e' py => ?_
    have hl : ys.length ≤ i := by
      rw [← hp.length, List.length_take]; omega
    exact ⟨ys, e' _ _ hacc, sl_lt (by omega), Same.mut (e.trans e') hD, ys ++ [y], upd_same, by rw [tk hix]; exact pa hp py⟩
  · rintro H ⟨e, ys, hacc, hp⟩
    rw [← hx, List.take_length] at hp
    exact hd ys H hp e hacc
end
/-- a module's constant -/
theorem pe_globI {X : Cx} {x : Str} {pos : Pos} {i : Int} (hg : Gl X x) (hm : ∃ t, X.mg x = some (.int i t)) (hdb : (x == ("__debug__" : Str)) = false := by decide +kernel) : PE X (.Name x pos) (tC (.int i)) := by
  obtain ⟨t, e⟩ := hm
  exact pe_glob (v := .int i) hg e ⟨t, rfl⟩ hdb
theorem pe_globS {X : Cx} {x z : Str} {pos : Pos} (hg : Gl X x) (hm : ∃ t, X.mg x = some (.str z t)) (hdb : (x == ("__debug__" : Str)) = false := by decide +kernel) : PE X (.Name x pos) (tC (.str z)) := by
  obtain ⟨t, e⟩ := hm
  exact pe_glob (v := .str z) hg e ⟨t, rfl⟩ hdb
/-- a reading in another writing -/
theorem PE.cv {X : Cx} {e : Expr} {t t' : TE} (h : PE X e t') (q : t' = t) : PE X e t := q ▸ h
theorem PG.cv {X : Cx} {e : Expr} {t t' : TG} (h : PG X e t') (q : t' = t) : PG X e t := q ▸ h
theorem PTs.cv {X : Cx} {e : List Expr} {t t' : TT} (h : PTs X e t') (q : t' = t) : PTs X e t := q ▸ h
theorem PSs.cv {X : Cx} {e : List Stmt} {t t' : TS} (h : PSs X e t') (q : t' = t) : PSs X e t := q ▸ h
/-- a promise by cases of how the thing stands -/
theorem PS.or {X : Cx} {st : Stmt} {t u : TS} (h : PS X st t) (h' : PS X st u) : PS X st (fun D σ H => t D σ H ∨ u D σ H) :=
  ⟨fun pins s σ H D I q => by
    rcases q with q | q
    · exact h.run pins s σ H D I q
    · exact h'.run pins s σ H D I q⟩
theorem PE.or {X : Cx} {e : Expr} {t u : TE} (h : PE X e t) (h' : PE X e u) : PE X e (fun σ H Q => t σ H Q ∨ u σ H Q) :=
  ⟨fun pins s σ H Q I q => by
    rcases q with q | q
    · exact h.run pins s σ H Q I q
    · exact h'.run pins s σ H Q I q⟩
end M

namespace M
open PySem PySem.Spec PyProof.Rows L2
/-! ### texts as lists of signs -/
abbrev cl (z : Str) : List Nat := z.cps.toList
theorem cl_inj {a b : Str} (h : cl a = cl b) : a = b := ext_toList h
/-- the text of one sign -/
def c1 (c : Nat) : Str := ⟨#[c]⟩
theorem cl_c1 (c : Nat) : cl (c1 c) = [c] := rfl
theorem cl_app (a b : Str) : cl (a ++ b) = cl a ++ cl b := by
  show (a.cps ++ b.cps).toList = _
  simp
theorem len_cl (z : Str) : z.length = (cl z).length := by
  show z.cps.size = _
  simp
theorem len_app (a b : Str) : (a ++ b).length = a.length + b.length := by
  rw [len_cl, cl_app, List.length_append, ← len_cl, ← len_cl]
theorem len_c1 (c : Nat) : (c1 c).length = 1 := rfl
/-- the signs of a part -/
def sgns : List Nat := cl "abcdefghijklmnopqrstuvwxyzABCDEFGHIJKLMNOPQRSTUVWXYZ0123456789.-_"
theorem sgns_len : sgns.length = 65 := by decide +kernel
/-- the script's cell -/
def cellZ (ns : List Int) (k : Int) : Int := if k < ns.length then ns.getD k.toNat 0 else 0
theorem cellZ_bits {ns : List Int} (h : ∀ z ∈ ns, Bits 1048576 z) (k : Int) : Bits 1048576 (cellZ ns k) := by
  have h0 : Bits 1048576 0 := by unfold Bits; exact Nat.two_pow_pos _
  unfold cellZ
  split
  · rw [List.getD_eq_getElem?_getD]
    cases e : ns[k.toNat]? with
    | none => exact h0
    | some v => exact h v (List.mem_of_getElem? e)
  · exact h0
theorem cell_at {ns : List Int} {k : Int} (h0 : 0 ≤ k) (h : k < ns.length) : atI (ns.map V.int) k = some (.int (cellZ ns k)) := by
  have e : k = ((k.toNat : Nat) : Int) := by omega
  have hl : k.toNat < ns.length := by omega
  have q : (ns.map V.int)[k.toNat]? = some (.int (cellZ ns k)) := by
    rw [List.getElem?_map, List.getElem?_eq_getElem hl]
    unfold cellZ
    rw [if_pos h, List.getD_eq_getElem?_getD, List.getElem?_eq_getElem hl]
    rfl
  have := atI_nat q
  rwa [← e] at this
theorem cell_none {ns : List Int} {k : Int} (h : ¬ k < ns.length) : cellZ ns k = 0 := if_neg h
/-- a sign of a written text at a place within -/
theorem at_in {xs : List Nat} {i : Int} (h0 : 0 ≤ i) (h : i < xs.length) : ∃ c, atI xs i = some c ∧ c ∈ xs := by
  have e : i = ((i.toNat : Nat) : Int) := by omega
  have hl : i.toNat < xs.length := by omega
  refine ⟨xs[i.toNat], ?_, List.getElem_mem _⟩
  have := atI_nat (List.getElem?_eq_getElem hl)
  rwa [← e] at this
theorem at_inV {xs : List V} {i : Int} (h0 : 0 ≤ i) (h : i < xs.length) : ∃ c, atI xs i = some c ∧ c ∈ xs := by
  have e : i = ((i.toNat : Nat) : Int) := by omega
  have hl : i.toNat < xs.length := by omega
  refine ⟨xs[i.toNat], ?_, List.getElem_mem _⟩
  have := atI_nat (List.getElem?_eq_getElem hl)
  rwa [← e] at this
theorem bits_of {ns : List Int} (h : ∀ z ∈ ns, Builtin.Int.intBits z ≤ 1048576) : ∀ z ∈ ns, Bits 1048576 z := fun z hz => by
  have q := h z hz
  unfold Builtin.Int.intBits at q
  unfold Bits
  split at q
  · rename_i h0
    have : z.natAbs = 0 := by simp_all
    rw [this]; exact Nat.two_pow_pos _
  · rename_i h0
    have h1 : z.natAbs ≠ 0 := by
      intro e; apply h0; simp_all
    exact (Nat.log2_lt h1).mp (by omega)
/-! ### values' functions -/
def fS (g : Str → V) : V → V | .str x => g x | _ => .non
def fI (g : Int → V) : V → V | .int x => g x | _ => .non
def pS (g : Str → Bool) : V → Bool | .str x => g x | _ => false
def pI (g : Int → Bool) : V → Bool | .int x => g x | _ => false
theorem fS_map (g : Str → V) (l : List Str) : (l.map V.str).map (fS g) = l.map g := by rw [List.map_map]; rfl
theorem fI_map (g : Int → V) (l : List Int) : (l.map V.int).map (fI g) = l.map g := by rw [List.map_map]; rfl
theorem pS_filter (g : Str → Bool) (l : List Str) : (l.map V.str).filter (pS g) = (l.filter g).map V.str := by rw [List.filter_map]; rfl
theorem pI_filter (g : Int → Bool) (l : List Int) : (l.map V.int).filter (pI g) = (l.filter g).map V.int := by rw [List.filter_map]; rfl
/-! ### slices -/
theorem sIx_of (n d : Nat) {i : Int} (h : 0 ≤ i) : HT.sIx n d (some i) = min i.toNat n := by
  have e : i = ((i.toNat : Nat) : Int) := by omega
  have := HT.sIx_nat n d i.toNat
  rwa [← e] at this
theorem cut_take (xs : List V) {i : Int} (h : 0 ≤ i) : cutV xs none (some i) = xs.take i.toNat := by
  show (xs.drop (HT.sIx xs.length 0 none)).take (HT.sIx xs.length xs.length (some i) - HT.sIx xs.length 0 none) = _
  rw [sIx_of _ _ h, HT.sIx_none, List.drop_zero, Nat.sub_zero]
  by_cases hl : i.toNat ≤ xs.length
  · rw [Nat.min_eq_left hl]
  · rw [Nat.min_eq_right (by omega), List.take_length, List.take_of_length_le (by omega)]
theorem cut_drop (xs : List V) {i : Int} (h : 0 ≤ i) : cutV xs (some i) none = xs.drop i.toNat := by
  show (xs.drop (HT.sIx xs.length 0 (some i))).take (HT.sIx xs.length xs.length none - HT.sIx xs.length 0 (some i)) = _
  rw [sIx_of _ _ h, HT.sIx_none]
  by_cases hl : i.toNat ≤ xs.length
  · rw [Nat.min_eq_left hl, List.take_of_length_le (by rw [List.length_drop]; exact Nat.le_refl _)]
  · rw [Nat.min_eq_right (by omega), List.drop_length, List.take_nil, List.drop_of_length_le (by omega)]
theorem cut_mid (xs : List V) {i j : Int} (h : 0 ≤ i) (h2 : i ≤ j) : cutV xs (some i) (some j) = (xs.drop i.toNat).take (j.toNat - i.toNat) := by
  show (xs.drop (HT.sIx xs.length 0 (some i))).take (HT.sIx xs.length xs.length (some j) - HT.sIx xs.length 0 (some i)) = _
  rw [sIx_of _ _ h, sIx_of _ _ (show 0 ≤ j by omega)]
  by_cases hl : i.toNat ≤ xs.length
  · rw [Nat.min_eq_left hl]
    by_cases hj : j.toNat ≤ xs.length
    · rw [Nat.min_eq_left hj]
    · rw [show min j.toNat xs.length = xs.length by omega, List.take_of_length_le (by rw [List.length_drop]; exact Nat.le_refl _), List.take_of_length_le (by rw [List.length_drop]; omega)]
  · rw [show min j.toNat xs.length = xs.length by omega, show min i.toNat xs.length = xs.length by omega, List.drop_length, List.take_nil, List.drop_of_length_le (by omega), List.take_nil]
theorem cut_last (xs : List V) (h : 0 < xs.length) : cutV xs none (some (-1)) = xs.dropLast := by
  show (xs.drop (HT.sIx xs.length 0 none)).take (HT.sIx xs.length xs.length (some (-1)) - HT.sIx xs.length 0 none) = _
  have e : HT.sIx xs.length xs.length (some (-1)) = xs.length - 1 := by
    show (if (-1 : Int) < 0 then ((-1 : Int) + (xs.length : Int)).toNat else min (-1 : Int).toNat xs.length) = _
    rw [if_pos (by decide)]
    omega
  rw [HT.sIx_none, List.drop_zero, Nat.sub_zero, e, List.dropLast_eq_take]
/-! ### paths -/
def slash : Str := "/"
/-- a part of a path -/
def isPartB (p : Str) : Bool := if p = (".": Str) ∨ p = ("..": Str) then false else (decide (1 ≤ p.length) && decide (p.length ≤ 12)) && (cl p).all fun c => decide (c ∈ sgns)
def partsOf (z : Str) : List Str := Txt.split z slash
def isPathB (z : Str) : Bool := decide ((partsOf z).length ≤ 8) && (partsOf z).all isPartB
theorem part_no {z : Str} (h : z = (".": Str) ∨ z = ("..": Str)) : isPartB z = false := if_pos h
theorem part_yes {z : Str} (h1 : z ≠ (".": Str)) (h2 : z ≠ ("..": Str)) : isPartB z = ((decide (1 ≤ z.length) && decide (z.length ≤ 12)) && (cl z).all fun c => decide (c ∈ sgns)) := if_neg fun h => h.elim h1 h2
/-- the folders above -/
def aboveL (z : Str) : List Str := (List.range ((partsOf z).length - 1)).map fun i => Txt.join slash ((partsOf z).take (i + 1))
/-- l cut at each 47 -/
def cut47 : List Nat → List Nat → List (List Nat)
  | acc, [] => [acc]
  | acc, c :: r => if c = 47 then acc :: cut47 [] r else cut47 (acc ++ [c]) r
theorem spl_cut : ∀ (l acc : List Nat), TL.spl [47] 0 acc l = cut47 acc l
  | [], acc => rfl
  | c :: r, acc => by
    show (if TL.pre [47] (c :: r) = true then acc :: TL.spl [47] 0 [] r else TL.spl [47] 0 (acc ++ [c]) r) = (if c = 47 then acc :: cut47 [] r else cut47 (acc ++ [c]) r)
    have e : TL.pre [47] (c :: r) = decide (c = 47) := by
      show (([c] : List Nat) == [47]) = _
      by_cases h : c = 47
      · subst h; rfl
      · rw [decide_eq_false h]; simp [h]
    rw [e, spl_cut r, spl_cut r]
    by_cases h : c = 47
    · rw [if_pos (decide_eq_true h), if_pos h]
    · rw [if_neg (by rw [decide_eq_false h]; exact Bool.false_ne_true), if_neg h]
theorem slash_cl : cl slash = [47] := by decide +kernel
theorem parts_cut (z : Str) : (partsOf z).map cl = cut47 [] (cl z) := by
  have h := TL.split_spl z slash (by show cl slash ≠ []; rw [slash_cl]; simp) (TL.kind_ok (by decide +kernel))
  have h2 : (partsOf z).map cl = TL.spl (cl slash) 0 [] (cl z) := h
  rw [h2, slash_cl, spl_cut]
theorem cut_len : ∀ (l acc : List Nat) (p : List Nat), p ∈ cut47 acc l → p.length ≤ acc.length + l.length
  | [], acc, p, h => by
    have : p = acc := by simpa [cut47] using h
    subst this; simp
  | c :: r, acc, p, h => by
    unfold cut47 at h
    split at h
    · rcases List.mem_cons.mp h with h | h
      · subst h; simp
      · have := cut_len r [] p h
        simp at this ⊢; omega
    · have := cut_len r (acc ++ [c]) p h
      simp at this ⊢; omega
theorem cut_many : ∀ (l acc : List Nat), (cut47 acc l).length ≤ l.length + 1
  | [], acc => by simp [cut47]
  | c :: r, acc => by
    unfold cut47
    split
    · have := cut_many r []
      simp; omega
    · have := cut_many r (acc ++ [c])
      simp; omega
theorem parts_many (z : Str) : (partsOf z).length ≤ z.length + 1 := by
  have h := cut_many (cl z) []
  rw [← parts_cut, List.length_map, ← len_cl] at h
  exact h
theorem parts_len {z p : Str} (h : p ∈ partsOf z) : p.length ≤ z.length := by
  have h1 : cl p ∈ cut47 [] (cl z) := by rw [← parts_cut]; exact List.mem_map.mpr ⟨p, h, rfl⟩
  have h2 := cut_len _ _ _ h1
  rw [← len_cl, ← len_cl] at h2
  simpa using h2
theorem cut_sum : ∀ (l acc : List Nat), ((cut47 acc l).map List.length).sum + (cut47 acc l).length = acc.length + l.length + 1
  | [], acc => by simp [cut47]
  | c :: r, acc => by
    unfold cut47
    split
    · have := cut_sum r []
      simp at this ⊢; omega
    · have := cut_sum r (acc ++ [c])
      simp at this ⊢; omega
theorem parts_sum (z : Str) : ((partsOf z).map Str.length).sum + (partsOf z).length = z.length + 1 := by
  have h := cut_sum (cl z) []
  rw [← parts_cut, List.length_map, ← len_cl, List.map_map] at h
  have e : (partsOf z).map Str.length = (partsOf z).map (List.length ∘ cl) := List.map_congr_left fun p _ => len_cl p
  rw [e]
  simpa using h
theorem sum_take_le (l : List Nat) : ∀ n, (l.take n).sum ≤ l.sum := fun n => by
  have h := List.take_append_drop n l
  have h2 : l.sum = (l.take n).sum + (l.drop n).sum := by rw [← List.sum_append, h]
  omega
theorem parts_take_sum (z : Str) (n : Nat) : (((partsOf z).take n).map fun x => x.length).sum + ((partsOf z).take n).length * slash.length ≤ z.length + 1 := by
  have h1 := parts_sum z
  have h2 := sum_take_le ((partsOf z).map Str.length) n
  rw [← List.map_take] at h2
  have h3 : ((partsOf z).take n).length ≤ (partsOf z).length := by rw [List.length_take]; omega
  have h4 : slash.length = 1 := by decide +kernel
  have h5 : (((partsOf z).take n).map fun x => x.length).sum = (((partsOf z).take n).map Str.length).sum := rfl
  rw [h4, h5]; omega
/-- the values of a list of texts -/
theorem map_strs (l : List Str) (g : Str → Bool) (f : V → V) (h : ∀ z ∈ l, f (.str z) = .bl (g z)) : (l.map V.str).map f = (l.map g).map V.bl := by
  rw [List.map_map, List.map_map]
  exact List.map_congr_left h
/-! ### texts made sign by sign -/
theorem signs_of {R : Nat → Prop} : ∀ {xs ys : List V}, Paired (fun _ y => ∃ c, y = V.str (c1 c) ∧ R c) xs ys → ∃ zs : List Nat, ys = (zs.map c1).map V.str ∧ zs.length = xs.length ∧ ∀ c ∈ zs, R c
  | _, _, .nil => ⟨[], rfl, rfl, fun _ h => absurd h (by simp)⟩
  | _, _, .cons h t => by
    obtain ⟨c, rfl, hc⟩ := h
    obtain ⟨zs, rfl, hl, hz⟩ := signs_of t
    refine ⟨c :: zs, rfl, by simp [hl], fun d hd => ?_⟩
    rcases List.mem_cons.mp hd with e | e
    · subst e; exact hc
    · exact hz d e
theorem strs_of {R : V → Str → Prop} : ∀ {xs ys : List V}, Paired (fun x y => ∃ c, y = V.str c ∧ R x c) xs ys → ∃ zs : List Str, ys = zs.map V.str ∧ zs.length = xs.length ∧ Paired R xs zs
  | _, _, .nil => ⟨[], rfl, rfl, .nil⟩
  | _, _, .cons h t => by
    obtain ⟨c, rfl, hc⟩ := h
    obtain ⟨zs, rfl, hl, hz⟩ := strs_of t
    exact ⟨c :: zs, rfl, by simp [hl], .cons hc hz⟩
theorem joinL_nil : ∀ l : List (List Nat), TL.joinL [] l = l.flatten
  | [] => rfl
  | [p] => by simp [TL.joinL]
  | p :: q :: r => by
    show p ++ ([] ++ TL.joinL [] (q :: r)) = _
    rw [joinL_nil (q :: r)]
    simp
theorem cl_join (y : Str) (parts : List Str) : cl (Txt.join y parts) = TL.joinL (cl y) (parts.map cl) := by
  rw [TL.join_eq]
  exact TL.tl_join y parts
theorem cl_empty : cl ("" : Str) = [] := by decide +kernel
theorem cl_glue (parts : List Str) : cl (Txt.join "" parts) = (parts.map cl).flatten := by
  rw [cl_join, cl_empty, joinL_nil]
theorem cl_signs (zs : List Nat) : cl (Txt.join "" (zs.map c1)) = zs := by
  rw [cl_glue, List.map_map]
  induction zs with
  | nil => rfl
  | cons a r ih =>
    rw [List.map_cons, List.flatten_cons, ih]
    rfl
theorem sum_signs (zs : List Nat) : ((zs.map c1).map fun x => x.length).sum = zs.length := by
  induction zs with
  | nil => rfl
  | cons a r ih =>
    rw [List.map_cons, List.map_cons, List.sum_cons, ih, List.length_cons]
    have : (c1 a).length = 1 := rfl
    omega
theorem join_room (zs : List Nat) (h : zs.length ≤ 16777000) : ((zs.map c1).map fun x => x.length).sum + (zs.map c1).length * ("" : Str).length ≤ 16777216 := by
  have e : ("" : Str).length = 0 := by decide +kernel
  rw [sum_signs, e]
  omega
/-- * of an int -/
theorem mulOk_small {z : Str} {i : Int} (h1 : 0 ≤ i) (h2 : i < 1000) (h3 : z.length ≤ 1000) : PySem.MulOk z i := by
  have l : z.length * i.toNat ≤ 1000 * 1000 := Nat.mul_le_mul h3 (by omega)
  refine ⟨?_, fun h _ => ?_, fun _ _ => ?_⟩
  · rw [decide_eq_false (by omega), decide_eq_false (by omega)]; rfl
  · have q : (1000 : Int) ≤ (2 ^ 63 - 1) / i := by
      rw [Int.le_ediv_iff_mul_le (by omega)]
      omega
    omega
  · show decide (z.length * i.toNat > sizeLine) = false
    rw [sizeLine_eq]
    exact decide_eq_false (by omega)
/-! ### places in lists -/
theorem ixN_in {n : Nat} {i : Int} (h0 : 0 ≤ i) (h : i < n) : ixN n i = some i.toNat := by
  unfold ixN
  rw [if_pos h0, if_pos h]
theorem at_strs {zs : List Str} {i : Int} (h0 : 0 ≤ i) (h : i < zs.length) : ∃ z, atI (zs.map V.str) i = some (.str z) ∧ z ∈ zs ∧ zs[i.toNat]? = some z := by
  have e : i = ((i.toNat : Nat) : Int) := by omega
  have hl : i.toNat < zs.length := by omega
  have q : (zs.map V.str)[i.toNat]? = some (.str zs[i.toNat]) := by rw [List.getElem?_map, List.getElem?_eq_getElem hl]; rfl
  have := atI_nat q
  rw [← e] at this
  exact ⟨zs[i.toNat], this, List.getElem_mem _, List.getElem?_eq_getElem hl⟩
theorem map_set {α β : Type} (f : α → β) : ∀ (l : List α) (i : Nat) (a : α), (l.set i a).map f = (l.map f).set i (f a)
  | [], _, _ => rfl
  | _ :: _, 0, _ => rfl
  | _ :: r, i + 1, a => congrArg _ (map_set f r i a)
theorem mem_set {α : Type} {l : List α} {i : Nat} {a b : α} (h : b ∈ l.set i a) : b = a ∨ b ∈ l := by
  rcases List.mem_or_eq_of_mem_set h with h | h
  · exact .inr h
  · exact .inl h
theorem join_len (zs : List Str) : (Txt.join slash zs).length ≤ (zs.map fun x => x.length).sum + zs.length * slash.length := by
  have h4 : slash.length = 1 := by decide +kernel
  rw [len_cl, cl_join, slash_cl, h4]
  have h : ∀ l : List Str, (TL.joinL [47] (l.map cl)).length ≤ (l.map fun x => x.length).sum + l.length * 1 := fun l => by
    induction l with
    | nil => simp [TL.joinL]
    | cons x r ih =>
      have ex := len_cl x
      cases r with
      | nil =>
        show (cl x).length ≤ (x.length + 0) + 1 * 1
        omega
      | cons y s =>
        show (cl x ++ ([47] ++ TL.joinL [47] ((y :: s).map cl))).length ≤ (x.length + ((y :: s).map fun x => x.length).sum) + ((y :: s).length + 1) * 1
        rw [List.length_append, List.length_append, ← ex]
        simp only [List.length_cons, List.length_nil] at ih ⊢
        omega
  exact h zs
theorem ixN_last {n : Nat} (h : 0 < n) : ixN n (-1) = some (n - 1) := by
  unfold ixN
  rw [if_neg (by decide), if_pos (by omega)]
  congr 1
  omega
theorem set_last {α : Type} (l : List α) (x y : α) {n : Nat} (h : n = l.length) : (l ++ [x]).set n y = l ++ [y] := by
  subst h
  induction l with
  | nil => rfl
  | cons a r ih => exact congrArg (a :: ·) ih
/-- isinstance's wants of the built-in kinds -/
theorem isB {K : PySem.W.Frag} {H : Hp} {b : Bool} {Q : VK} (q : Q (.bl true) H) : rIsi K [.bl b, .ty "bool"] H Q := ⟨_, _, _, _, _, rfl, .ty _, .base (.bl b), kit_ty (by decide +kernel), q⟩
theorem isL {K : PySem.W.Frag} {H : Hp} {p : Addr} {xs : List V} {Q : VK} (h : H p = some (.lst xs)) (q : Q (.bl true) H) : rIsi K [.ref p, .ty "list"] H Q := ⟨_, _, _, _, _, rfl, .ty _, .base (.lst h), kit_ty (by decide +kernel), q⟩
theorem isS {K : PySem.W.Frag} {H : Hp} {z : Str} {Q : VK} (q : Q (.bl true) H) : rIsi K [.str z, .ty "str"] H Q := ⟨_, _, _, _, _, rfl, .ty _, .base (.str z), kit_ty (by decide +kernel), q⟩
theorem isT {K : PySem.W.Frag} {H : Hp} {p : Addr} {xs : List V} {Q : VK} (h : H p = some (.tup xs)) (q : Q (.bl true) H) : rIsi K [.ref p, .ty "tuple"] H Q := ⟨_, _, _, _, _, rfl, .ty _, .base (.tup h), kit_ty (by decide +kernel), q⟩
theorem isD {K : PySem.W.Frag} {H : Hp} {p : Addr} {xs : List (Key × V)} {Q : VK} (h : H p = some (.dK xs)) (q : Q (.bl true) H) : rIsi K [.ref p, .ty "dict"] H Q := ⟨_, _, _, _, _, rfl, .ty _, .base (.dK h), kit_ty (by decide +kernel), q⟩
theorem isI {K : PySem.W.Frag} {H : Hp} {i : Int} {Q : VK} (q : Q (.bl true) H) : rIsi K [.int i, .ty "int"] H Q := ⟨_, _, _, _, _, rfl, .ty _, .base (.int i), kit_ty (by decide +kernel), q⟩
theorem isIB {K : PySem.W.Frag} {H : Hp} {i : Int} {Q : VK} (q : Q (.bl false) H) : rIsi K [.int i, .ty "bool"] H Q := ⟨_, _, _, _, _, rfl, .ty _, .base (.int i), kit_ty (by decide +kernel), q⟩
end M

namespace M
open PySem PySem.Spec PyProof.Rows L2
/-! ### what lies beneath what -/
/-- q lies beneath p, as the program asks it -/
def beneathB (q p : Str) : Bool := Txt.startswith q (p ++ slash)
theorem cl_slash (p : Str) : cl (p ++ slash) = cl p ++ [47] := by rw [cl_app, slash_cl]
theorem beneath_iff (q p : Str) : beneathB q p = true ↔ ∃ r, cl q = cl p ++ 47 :: r := by
  have hy : TL.tl (p ++ slash) ≠ [] := by
    show cl (p ++ slash) ≠ []
    rw [cl_slash]; simp
  have h1 : beneathB q p = true ↔ TL.pre (cl (p ++ slash)) (cl q) = true := by
    have h := TL.at_iff (x := q) (y := p ++ slash) hy 0
    rw [List.drop_zero] at h
    rw [← show TL.tl (p ++ slash) = cl (p ++ slash) from rfl, ← show TL.tl q = cl q from rfl, ← h]
    show (decide (0 + (p ++ slash).length ≤ q.length) && _) = true ↔ (_ ∧ _)
    rw [Bool.and_eq_true, decide_eq_true_eq]
  rw [h1, cl_slash]
  show ((cl q).take (cl p ++ [47]).length == cl p ++ [47]) = true ↔ _
  rw [beq_iff_eq]
  constructor
  · intro h
    refine ⟨(cl q).drop (cl p ++ [47]).length, ?_⟩
    have e := List.take_append_drop (cl p ++ [47]).length (cl q)
    rw [h] at e
    generalize (cl q).drop (cl p ++ [47]).length = d at e
    rw [← e]; simp
  · rintro ⟨r, h⟩
    have e : cl q = (cl p ++ [47]) ++ r := by rw [h]; simp
    rw [e, List.take_left]
theorem cut_app : ∀ (x acc r : List Nat), cut47 acc (x ++ 47 :: r) = cut47 acc x ++ cut47 [] r
  | [], acc, r => by simp [cut47]
  | c :: x, acc, r => by
    show (if c = 47 then acc :: cut47 [] (x ++ 47 :: r) else cut47 (acc ++ [c]) (x ++ 47 :: r)) = (if c = 47 then acc :: cut47 [] x else cut47 (acc ++ [c]) x) ++ cut47 [] r
    split
    · rw [cut_app x [] r]; rfl
    · rw [cut_app x (acc ++ [c]) r]
theorem cut_ne (l acc : List Nat) : cut47 acc l ≠ [] := by
  cases l with
  | nil => simp [cut47]
  | cons c r =>
    unfold cut47
    split
    · simp
    · exact cut_ne r _
theorem joinL_app : ∀ (X Y : List (List Nat)), X ≠ [] → Y ≠ [] → TL.joinL [47] (X ++ Y) = TL.joinL [47] X ++ 47 :: TL.joinL [47] Y
  | [], _, h, _ => absurd rfl h
  | [x], [], _, h => absurd rfl h
  | [x], y :: Y, _, _ => by simp [TL.joinL]
  | x :: y :: X, Y, _, hY => by
    have ih := joinL_app (y :: X) Y (by simp) hY
    show x ++ ([47] ++ TL.joinL [47] (y :: X ++ Y)) = (x ++ ([47] ++ TL.joinL [47] (y :: X))) ++ _
    rw [ih]; simp
theorem joinL_cut : ∀ (l acc : List Nat), TL.joinL [47] (cut47 acc l) = acc ++ l
  | [], acc => by simp [cut47, TL.joinL]
  | c :: r, acc => by
    unfold cut47
    split
    · rename_i h
      subst h
      have := joinL_app [acc] (cut47 [] r) (by simp) (cut_ne _ _)
      rw [show acc :: cut47 [] r = [acc] ++ cut47 [] r from rfl, this, joinL_cut r []]
      simp [TL.joinL]
    · rw [joinL_cut r]; simp
theorem join_parts (z : Str) : Txt.join slash (partsOf z) = z := by
  refine cl_inj ?_
  rw [cl_join, slash_cl, parts_cut, joinL_cut]
  rfl
theorem cl_joinS (ps : List Str) : cl (Txt.join slash ps) = TL.joinL [47] (ps.map cl) := by rw [cl_join, slash_cl]
theorem parts_pos (z : Str) : 0 < (partsOf z).length := by
  have := cut_ne (cl z) []
  rw [← parts_cut] at this
  rcases h : partsOf z with _ | ⟨a, r⟩
  · rw [h] at this; simp at this
  · simp
theorem cl_mapInj : ∀ {a b : List Str}, a.map cl = b.map cl → a = b
  | [], [], _ => rfl
  | [], _ :: _, h => by simp at h
  | _ :: _, [], h => by simp at h
  | x :: a, y :: b, h => by
    rw [List.map_cons, List.map_cons] at h
    injection h with h1 h2
    rw [cl_inj h1, cl_mapInj h2]
theorem mem_above (q p : Str) : p ∈ aboveL q ↔ beneathB q p = true := by
  rw [beneath_iff]
  unfold aboveL
  constructor
  · intro h
    obtain ⟨i, hi, rfl⟩ := List.mem_map.mp h
    have hi := List.mem_range.mp hi
    refine ⟨TL.joinL [47] (((partsOf q).drop (i + 1)).map cl), ?_⟩
    rw [cl_joinS]
    have e : cl q = TL.joinL [47] (((partsOf q).take (i + 1)).map cl ++ ((partsOf q).drop (i + 1)).map cl) := by
      rw [← List.map_append, List.take_append_drop, ← cl_joinS, join_parts]
    rw [e, joinL_app]
    · intro z
      have := congrArg List.length z
      rw [List.length_map, List.length_take, List.length_nil] at this
      omega
    · intro z
      have := congrArg List.length z
      rw [List.length_map, List.length_drop] at this
      simp at this; omega
  · rintro ⟨r, h⟩
    have hp := parts_pos p
    have e : (partsOf q).map cl = (partsOf p).map cl ++ cut47 [] r := by rw [parts_cut, h, cut_app, ← parts_cut]
    have hl := congrArg List.length e
    rw [List.length_map, List.length_append, List.length_map] at hl
    have hc : 0 < (cut47 [] r).length := List.length_pos_iff.mpr (cut_ne _ _)
    have et : (partsOf q).take (partsOf p).length = partsOf p := by
      refine cl_mapInj ?_
      rw [List.map_take, e, List.take_left' (by rw [List.length_map])]
    refine List.mem_map.mpr ⟨(partsOf p).length - 1, List.mem_range.mpr (by omega), ?_⟩
    rw [show (partsOf p).length - 1 + 1 = (partsOf p).length by omega, et, join_parts]
/-- parts without a stroke, joined and cut again -/
theorem cut_free : ∀ (l acc : List Nat), 47 ∉ l → cut47 acc l = [acc ++ l]
  | [], acc, _ => by simp [cut47]
  | c :: r, acc, h => by
    have hc : c ≠ 47 := fun e => h (by rw [e]; exact List.mem_cons_self)
    unfold cut47
    rw [if_neg hc, cut_free r _ fun hm => h (List.mem_cons_of_mem _ hm)]
    simp
theorem cut_joinL : ∀ (X : List (List Nat)), X ≠ [] → (∀ x ∈ X, 47 ∉ x) → cut47 [] (TL.joinL [47] X) = X
  | [], h, _ => absurd rfl h
  | [x], _, h => by
    show cut47 [] x = [x]
    rw [cut_free x [] (h x List.mem_cons_self)]; rfl
  | x :: y :: X, _, h => by
    show cut47 [] (x ++ 47 :: TL.joinL [47] (y :: X)) = _
    rw [cut_app, cut_free x [] (h x List.mem_cons_self), cut_joinL (y :: X) (by simp) fun z hz => h z (List.mem_cons_of_mem _ hz)]
    rfl
theorem parts_join {ps : List Str} (hne : ps ≠ []) (h : ∀ p ∈ ps, 47 ∉ cl p) : partsOf (Txt.join slash ps) = ps := by
  refine cl_mapInj ?_
  rw [parts_cut, cl_joinS]
  refine cut_joinL _ (fun e => hne (List.map_eq_nil_iff.mp e)) fun x hx => ?_
  obtain ⟨p, hp, rfl⟩ := List.mem_map.mp hx
  exact h p hp
/-- one lies beneath the other just where its parts begin so -/
theorem beneath_join {A B : List Str} (hA : A ≠ []) (hB : B ≠ []) (fA : ∀ p ∈ A, 47 ∉ cl p) (fB : ∀ p ∈ B, 47 ∉ cl p) :
    beneathB (Txt.join slash B) (Txt.join slash A) = decide (A.length < B.length ∧ B.take A.length = A) := by
  rw [Bool.eq_iff_iff, beneath_iff, decide_eq_true_eq]
  constructor
  · rintro ⟨r, h⟩
    have e : B.map cl = A.map cl ++ cut47 [] r := by
      have h1 := parts_cut (Txt.join slash B)
      rw [h, cut_app, ← parts_cut, parts_join hA fA, parts_join hB fB] at h1
      exact h1
    have hl := congrArg List.length e
    rw [List.length_map, List.length_append, List.length_map] at hl
    have hc : 0 < (cut47 [] r).length := List.length_pos_iff.mpr (cut_ne _ _)
    refine ⟨by omega, cl_mapInj ?_⟩
    rw [List.map_take, e, List.take_left' (by rw [List.length_map])]
  · rintro ⟨hl, ht⟩
    refine ⟨TL.joinL [47] ((B.drop A.length).map cl), ?_⟩
    have e : B.map cl = A.map cl ++ (B.drop A.length).map cl := by
      rw [← List.map_append]
      congr 1
      conv => lhs; rw [← List.take_append_drop A.length B]
      rw [ht]
    rw [cl_joinS, cl_joinS, e, joinL_app]
    · intro z; exact hA (List.map_eq_nil_iff.mp z)
    · intro z
      have := congrArg List.length z
      rw [List.length_map, List.length_drop] at this
      simp at this; omega
theorem sgns_no47 : 47 ∉ sgns := by decide +kernel
/-! ### lists of texts -/
theorem strs_all {R : Str → Prop} : ∀ {xs ys : List V}, Paired (fun _ y => ∃ c, y = V.str c ∧ R c) xs ys → ∃ zs : List Str, ys = zs.map V.str ∧ zs.length = xs.length ∧ ∀ z ∈ zs, R z
  | _, _, .nil => ⟨[], rfl, rfl, fun _ h => absurd h (by simp)⟩
  | _, _, .cons h t => by
    obtain ⟨c, rfl, hc⟩ := h
    obtain ⟨zs, rfl, hl, hz⟩ := strs_all t
    refine ⟨c :: zs, rfl, by simp [hl], fun d hd => ?_⟩
    rcases List.mem_cons.mp hd with e | e
    · subst e; exact hc
    · exact hz d e
theorem eqV_strs (a b : Str) : eqV (.str a) (.str b) = decide (b = a) := by
  show (a == b) = _
  by_cases h : b = a
  · subst h; simp
  · rw [decide_eq_false h]; exact beq_eq_false_iff_ne.mpr fun q => h q.symm
theorem inV_strs (z : Str) (l : List Str) : inV (.str z) (l.map V.str) = decide (z ∈ l) := by
  show ((l.map V.str).any fun y => eqV y (.str z)) = _
  rw [List.any_map, Bool.eq_iff_iff, List.any_eq_true, decide_eq_true_eq]
  constructor
  · rintro ⟨y, hy, e⟩
    have e : eqV (.str y) (.str z) = true := e
    rw [eqV_strs] at e
    have := of_decide_eq_true e
    subst this; exact hy
  · intro h
    exact ⟨z, h, by show eqV (.str z) (.str z) = true; rw [eqV_strs]; simp⟩
theorem flat_strs (l : List Str) : (l.map V.str).all flatV = true := List.all_eq_true.mpr fun v hv => by
  obtain ⟨z, _, rfl⟩ := List.mem_map.mp hv
  rfl
theorem cutS_sub {z : Str} {lo hi : Option Int} {c : Nat} (h : c ∈ cl (cutS z lo hi)) : c ∈ cl z := by
  have h : c ∈ ((z.cps.toList.drop (HT.sIx z.length 0 lo)).take (HT.sIx z.length z.length hi - HT.sIx z.length 0 lo)) := by simpa [cutS] using h
  exact List.mem_of_mem_drop (List.mem_of_mem_take h)
theorem sum_le {l : List Str} {b : Nat} (h : ∀ z ∈ l, z.length ≤ b) : (l.map fun x => x.length).sum ≤ b * l.length := by
  induction l with
  | nil => simp
  | cons y r ih =>
    have := ih fun z hz => h z (List.mem_cons_of_mem _ hz)
    have := h y List.mem_cons_self
    rw [List.map_cons, List.sum_cons, List.length_cons, Nat.mul_add]; omega
theorem inV_above (p q : Str) : inV (.str p) ((aboveL q).map V.str) = beneathB q p := by
  rw [inV_strs, Bool.eq_iff_iff, decide_eq_true_eq, mem_above]
theorem slash_len : slash.length = 1 := by decide +kernel
end M

/-! short rows for the readings -/
set_option hygiene false in
local macro_rules | `(tactic| walk_at "len") => `(tactic| (intro vs H Q E h; first | (obtain ⟨rfl, _⟩ := h; rfl) | (obtain ⟨_, rfl, _⟩ := h; rfl) | (obtain ⟨_, _, rfl, _⟩ := h; rfl) | (obtain ⟨_, _, _, rfl, _⟩ := h; rfl) | (obtain ⟨_, _, _, _, rfl, _⟩ := h; rfl) | (obtain ⟨_, _, _, _, _, rfl, _⟩ := h; rfl) | (obtain ⟨_, _, _, _, _, _, rfl, _⟩ := h; rfl) | (obtain ⟨_, _, _, _, _, _, _, rfl, _⟩ := h; rfl) | (obtain ⟨_, _, _, _, _, _, _, _, rfl, _⟩ := h; rfl) | (obtain ⟨_, _, _, _, _, _, _, _, _, rfl, _⟩ := h; rfl) | (obtain ⟨_, _, _, _, _, _, _, _, _, _, rfl, _⟩ := h; rfl) | (obtain ⟨_, _, _, _, _, _, _, _, _, _, _, rfl, _⟩ := h; rfl) | (obtain ⟨_, _, _, _, _, _, _, _, _, _, _, _, rfl, _⟩ := h; rfl)))
-- a list or a tuple that stands
set_option hygiene false in
local macro_rules | `(tactic| walk_at "sq") => `(tactic| first | assumption | exact SqL.of (by assumption) | exact SqT.of (by assumption) | exact Or.inl (by assumption) | exact Or.inr (by assumption) | exact Or.inl (SqL.of (by assumption)) | exact Or.inr (SqT.of (by assumption)) | exact SqL.of upd_same | exact SqT.of upd_same | exact Or.inl (SqL.of upd_same) | exact Or.inr (SqT.of upd_same) | exact Same.seq (Same.new (by assumption)) (by assumption) | exact Or.inl (Same.seq (Same.new (by assumption)) (by assumption)))
set_option hygiene false in
local macro_rules | `(tactic| walk_at "mulv") => `(tactic| first
  | exact Bits.mul (Bits.small (by omega) (by omega)) (Bits.small (by omega) (by omega)) (by decide)
  | exact Bits.mul (n := 1048576) (by first | assumption | exact Bits.div (by assumption) (by decide) | exact cellZ_bits (by assumption) _) (Bits.small (by omega) (by omega)) (by decide)
  | exact Bits.mul (m := 1048576) (Bits.small (by omega) (by omega)) (by first | assumption | exact Bits.div (by assumption) (by decide) | exact cellZ_bits (by assumption) _) (by decide))
set_option hygiene false in
local macro_rules | `(tactic| walk_at "go") => `(tactic| repeat (first
  | refine ⟨_, rfl, ?_⟩
  | refine ⟨_, _, rfl, rfl, ⟨by decide, by decide⟩, ?_⟩
  | refine ⟨_, _, rfl, rfl, (by show (0 : Int) < _; first | decide | omega), ?_⟩
  | refine ⟨_, _, rfl, rfl, (by walk_at "mulv"), ?_⟩
  | refine ⟨_, _, rfl, rfl, ?_⟩
  | refine ⟨rfl, ?_⟩
  | refine iteT ?_
  | refine iteF ?_
  | refine iteSelf ?_
  | refine iteSelfT ?_
  | refine Or.inl ⟨_, rfl, ?_⟩
  | refine Or.inr ⟨_, rfl, ?_⟩
  | refine ⟨⟨_, rfl⟩, ?_⟩
  | refine ⟨_, _, rfl, (show (_ : Prop) by walk_at "sq"), ?_⟩
  | refine ⟨_, _, _, rfl, (show (_ : Prop) by walk_at "sq"), (show (0 : Int) ≤ _ by omega), ?_⟩
  | refine ⟨sl_of (by omega), ?_⟩
  | refine ⟨Or.inl ⟨rfl, _, (show (_ : Prop) by walk_at "sq")⟩, ?_⟩
  | refine ⟨(show -(2 ^ 62 : Int) ≤ _ by omega), (show _ < (2 ^ 62 : Int) by omega), ?_⟩
  | refine ⟨_, _, _, _, true, rfl, .ty _, .base (.bl _), kit_ty (by decide +kernel), ?_⟩
  | refine ⟨_, _, _, _, true, rfl, .ty _, .base (.str _), kit_ty (by decide +kernel), ?_⟩
  | refine ⟨_, _, _, _, true, rfl, .ty _, .base (.int _), kit_ty (by decide +kernel), ?_⟩
  | refine ⟨_, _, _, _, true, rfl, .ty _, .base (.lst (by assumption)), kit_ty (by decide +kernel), ?_⟩
  | refine ⟨_, _, _, _, true, rfl, .ty _, .base (.tup (by assumption)), kit_ty (by decide +kernel), ?_⟩
  | refine ⟨_, _, _, _, true, rfl, .ty _, .base (.dK (by assumption)), kit_ty (by decide +kernel), ?_⟩
  | refine ⟨_, _, _, _, false, rfl, .ty _, .base (.int _), kit_ty (by decide +kernel), ?_⟩
  | refine ⟨by decide, fun p np => ?_⟩
  | refine (show ∃ i j, [V.int _, V.int _] = [V.int i, V.int j] ∧ _ from ⟨_, _, rfl, ?_⟩)))
set_option hygiene false in
local macro_rules | `(tactic| walk_at "cv") => `(tactic| (dsimp only [cxOf, Cx.blk, Cx.nox, Cx.wish]; first | done | rfl))

namespace T
open PySem PySem.Spec PyProof.Rows L2 M
def top (i : Nat) : Stmt := PySem.Challenge.pw_threeroad_k02_beneath.main.body.getD i (.Pass ⟨0, 0, 0, 0⟩)
abbrev s_L_cell_at : Stmt := top 4
abbrev sl_L_cell_at : List Str := ["_law_script", "_law_k"]
abbrev ps_L_cell_at : List Str := ["_law_script", "_law_k"]
theorem scL_cell_at : FnScope sl_L_cell_at ps_L_cell_at (defScope s_L_cell_at) := ⟨rfl, rfl, rfl, by decide +kernel, rfl, by decide +kernel, by decide +kernel⟩
abbrev s_L_sign_by : Stmt := top 5
abbrev sl_L_sign_by : List Str := ["_law_k"]
abbrev ps_L_sign_by : List Str := ["_law_k"]
theorem scL_sign_by : FnScope sl_L_sign_by ps_L_sign_by (defScope s_L_sign_by) := ⟨rfl, rfl, rfl, by decide +kernel, rfl, by decide +kernel, by decide +kernel⟩
abbrev s_above : Stmt := top 1
abbrev sl_above : List Str := ["path", "parts", "many"]
abbrev ps_above : List Str := ["path"]
theorem scabove : FnScope sl_above ps_above (defScope s_above) := ⟨rfl, rfl, rfl, by decide +kernel, rfl, by decide +kernel, by decide +kernel⟩
abbrev s_is_beneath : Stmt := top 2
abbrev sl_is_beneath : List Str := ["path", "upper"]
abbrev ps_is_beneath : List Str := ["path", "upper"]
theorem scis_beneath : FnScope sl_is_beneath ps_is_beneath (defScope s_is_beneath) := ⟨rfl, rfl, rfl, by decide +kernel, rfl, by decide +kernel, by decide +kernel⟩
abbrev s_L_part_by : Stmt := top 6
abbrev sl_L_part_by : List Str := ["_law_cell", "_law_part"]
abbrev ps_L_part_by : List Str := ["_law_cell"]
theorem scL_part_by : FnScope sl_L_part_by ps_L_part_by (defScope s_L_part_by) := ⟨rfl, rfl, rfl, by decide +kernel, rfl, by decide +kernel, by decide +kernel⟩
abbrev s_L_begins : Stmt := top 7
abbrev sl_L_begins : List Str := ["_law_upper", "_law_lower", "_law_k"]
abbrev ps_L_begins : List Str := ["_law_upper", "_law_lower"]
theorem scL_begins : FnScope sl_L_begins ps_L_begins (defScope s_L_begins) := ⟨rfl, rfl, rfl, by decide +kernel, rfl, by decide +kernel, by decide +kernel⟩
abbrev s_law : Stmt := top 8
abbrev sl_law : List Str := ["_law_script", "_law_ones", "_law_k", "_law_others", "_law_alike", "_law_at", "_law_one", "_law_other", "_law_left", "_law_right"]
abbrev ps_law : List Str := ["_law_script"]
theorem sclaw : FnScope sl_law ps_law (defScope s_law) := ⟨rfl, rfl, rfl, by decide +kernel, rfl, by decide +kernel, by decide +kernel⟩
structure Txt (K : PySem.W.Frag) (mg : Str → Option Value) : Prop where
  d_L_cell_at : Def K mg "_law_cell_at" s_L_cell_at ps_L_cell_at
  d_L_sign_by : Def K mg "_law_sign_by" s_L_sign_by ps_L_sign_by
  d_above : Def K mg "above" s_above ps_above
  d_is_beneath : Def K mg "is_beneath" s_is_beneath ps_is_beneath
  d_L_part_by : Def K mg "_law_part_by" s_L_part_by ps_L_part_by
  d_L_begins : Def K mg "_law_begins" s_L_begins ps_L_begins
  d_law : Def K mg "law" s_law ps_law
  n_bool : mg "bool" = none
  n_isinstance : mg "isinstance" = none
  n_len : mg "len" = none
  n_max : mg "max" = none
  n_min : mg "min" = none
  n_range : mg "range" = none
section
variable {P : Program} {w : World} {K : PySem.W.Frag} {mg : Str → Option Value} {base : Heap}
/-- _law_cell_at: the script's cell, 0 behind its end -/
def spCell (K : PySem.W.Frag) : Sp := fun vs H Q _ => ∃ (a : Addr) (ns : List Int) (k : Int), vs = [.ref a, .int k] ∧ SqL K H a (ns.map V.int) ∧ 0 ≤ k ∧ Q (.int (cellZ ns k)) H
/-- _law_sign_by: a sign of a part -/
def spSign : Sp := fun vs H Q _ => ∃ (k : Int), vs = [.int k] ∧ ∀ c, c ∈ sgns → Q (.str (c1 c)) H
theorem okL_cell_at (T : Txt K mg) : Cal P w K mg base CX0 1 "_law_cell_at" ps_L_cell_at (spCell K) := by
  have sc := scL_cell_at
  refine T.d_L_cell_at.ok sc (by walk_at "len") (fun f cdv A outer s H vs Q E hr h => ?_)
  have hu := hu_of hr
  obtain ⟨a, ns, k, rfl, hS, h0, q⟩ := h
  refine ⟨_, PSs.cv (by exact (pss_cons (ps_if (pt_cmpR op_lt (pv 1) (pe_callB call_len_seq (by rfl) T.n_len (by decide +kernel) (pa_cons (pv 0) pa_nil)) (nomark _)) (pss_one (ps_ret (pe_ix ix_list (pv 0) (pv 1) (fun _ _ => rfl)))) pss_nil)
      (pss_one (ps_ret pe_int)))) (by walk_at "cv"), ?_⟩
  walk_at "go"
  refine iteD (fun hk => ?_) fun hk => ?_
  · rw [List.length_map] at hk
    walk_at "go"
    exact ⟨_, _, _, _, rfl, rfl, hS, cell_at h0 hk, q⟩
  · rw [List.length_map] at hk
    rw [cell_none hk] at q
    exact q
theorem okL_sign_by (T : Txt K mg) : Cal P w K mg base CX0 1 "_law_sign_by" ps_L_sign_by (spSign) := by
  have sc := scL_sign_by
  refine T.d_L_sign_by.ok sc (by walk_at "len") (fun f cdv A outer s H vs Q E hr h => ?_)
  have hu := hu_of hr
  obtain ⟨k, rfl, q⟩ := h
  refine ⟨_, PSs.cv (by exact (pss_one (ps_ret (pe_ix ix_str pe_str (pe_op op_mod (pv 0) pe_int) (fun _ _ => rfl))))) (by walk_at "cv"), ?_⟩
  walk_at "go"
  obtain ⟨c, hc, hm⟩ := at_in (xs := sgns) (i := k % 65) (by omega) (by rw [sgns_len]; omega)
  exact ⟨_, _, _, rfl, rfl, by decide +kernel, hc, q c hm⟩
/-! the program's paths -/
def spPart : Sp := fun vs H Q _ => ∃ (z : Str), vs = [.str z] ∧ z.length ≤ 16777000 ∧ ∀ H', Same H H' → Q (.bl (isPartB z)) H'
def spPath : Sp := fun vs H Q _ => ∃ (z : Str), vs = [.str z] ∧ z.length ≤ 16777000 ∧ ∀ H', Same H H' → Q (.bl (isPathB z)) H'
def spAbove : Sp := fun vs H Q _ => ∃ (z : Str), vs = [.str z] ∧ z.length ≤ 16777000 ∧ ∀ p H', H p = none → Same H H' → H' p = some (.lst ((aboveL z).map V.str)) → Q (.ref p) H'
theorem okabove (T : Txt K mg) : Cal P w K mg base CX0 1 "above" ps_above (spAbove) := by
  have sc := scabove
  refine T.d_above.ok sc (by walk_at "len") (fun f cdv A outer s H vs Q E hr h => ?_)
  have hu := hu_of hr
  obtain ⟨z, rfl, hz, q⟩ := h
  refine ⟨_, PSs.cv (by exact (pss_cons (ps_set (i := 1) sc.nd rfl (Or.inr rfl) (pe_split (pv 0) pe_str))
      (pss_one (ps_ret (pe_lc (own := [("many", 2)]) (g := gName 2) rfl sc.nd (pi_range2 (by rfl) T.n_range (pa_cons pe_int (pa_cons (pe_callB call_len_seq (by rfl) T.n_len (by decide +kernel) (pa_cons (pv 1) pa_nil)) pa_nil))) (blkOk_by (N := sl_above) (sc := defScope s_above) (by decide +kernel)) (fun _ _ _ _ _ => (pg_name (i := 2) sc.nd rfl (by first | exact Or.inl rfl | exact Or.inr rfl))) (fun _ _ _ _ _ => pts_nil) (fun _ _ _ _ _ => PE.cv (by exact (pe_join pe_str (pe_slice sl_list (pv 1) po_none (po_some (pv 2))))) (by walk_at "cv"))))))) (by walk_at "cv"), ?_⟩
  walk_at "go"
  intro p np
  refine new_at np fun H1 e1 h1 => ?_
  walk_at "go"
  rw [List.length_map]
  have hm := parts_many z
  refine ⟨⟨by decide, by decide, (show (-2 ^ 62 : Int) ≤ ((partsOf z).length : Int) by omega), (show ((partsOf z).length : Int) < 2 ^ 62 by omega)⟩, fun D hD => ?_⟩
  refine lcM (j := 2) wR (by rw [List.length_map, List.length_range]) (fun _ _ => trivial) hD (fun v => match v with | .int i => .str (Txt.join slash ((partsOf z).take i.toNat)) | _ => .non) (by show (((partsOf z).length : Int) - 1).toNat ≤ _; omega) (fun _ => rfl) (fun x H2 hx e2 Q2 k => ?_) fun H' e' hl => ?_
  · obtain ⟨i, hi, rfl⟩ := List.mem_map.mp hx
    walk_at "go"
    have hi2 : i < (partsOf z).length - 1 := by
      have := List.mem_range.mp hi
      have : i < (((partsOf z).length : Int) - 1).toNat := this
      omega
    refine ⟨_, _, rfl, SqL.of (e2 _ _ h1), fun s ns => ?_⟩
    rw [cut_take _ (by omega), ← List.map_take]
    refine ⟨_, s, (partsOf z).take ((1 : Int) + (i : Int)).toNat, rfl, rfl, Or.inl (SqL.of upd_same), ?_, ?_⟩
    · exact Nat.le_trans (parts_take_sum z _) (by omega)
    · exact k _ (Same.new ns)
  · refine q D H' ?_ (e1.trans e') ?_
    · exact e1.free hD
    · rw [hl, List.map_map, aboveL, List.map_map]
      refine congrArg (fun l => some (HO.lst l)) ?_
      have e0 : (((Txt.split z "/").map V.str).length : Int) = ((partsOf z).length : Int) := by rw [List.length_map]; rfl
      have e1 : (((partsOf z).length : Int) - 1).toNat = (partsOf z).length - 1 := by omega
      show List.map _ (List.range (((partsOf z).length : Int) - 1).toNat) = _
      rw [e1]
      refine List.map_congr_left fun i _ => ?_
      have ei : ((1 : Int) + (i : Int)).toNat = i + 1 := by omega
      show V.str (Txt.join slash ((partsOf z).take ((1 : Int) + (i : Int)).toNat)) = _
      rw [ei]
      rfl
/-- is_beneath -/
def spBeneath : Sp := fun vs H Q _ => ∃ (z u : Str), vs = [.str z, .str u] ∧ u.length ≤ 16777000 ∧ Q (.bl (beneathB z u)) H
theorem okis_beneath (T : Txt K mg) : Cal P w K mg base CX0 1 "is_beneath" ps_is_beneath (spBeneath) := by
  have sc := scis_beneath
  refine T.d_is_beneath.ok sc (by walk_at "len") (fun f cdv A outer s H vs Q E hr h => ?_)
  have hu := hu_of hr
  obtain ⟨z, u, rfl, hu2, q⟩ := h
  refine ⟨_, PSs.cv (by exact (pss_one (ps_ret (pe_m1 PySem.F.slot_str_startswith PySem.F.type_str_startswith mt_startswith (pv 0) (pe_op op_add_str (pv 1) pe_str))))) (by walk_at "cv"), ?_⟩
  walk_at "go"
  refine ⟨sl_of (show u.length + ("/" : Str).length ≤ _ by rw [show ("/" : Str).length = 1 by decide +kernel]; omega), ?_⟩
  walk_at "go"
  exact q
def spPart2 : Sp := fun vs H Q _ => ∃ (c : Int), vs = [.int c] ∧ ∀ z : Str, z.length ≤ 3 → 47 ∉ cl z → Q (.str z) H
/-- whether the parts of the one begin the other's, which has more -/
def beginsB (A B : List Str) : Bool := decide (A.length < B.length ∧ B.take A.length = A)
def spBegins (K : PySem.W.Frag) : Sp := fun vs H Q _ => ∃ (p1 p2 : Addr) (A B : List Str), vs = [.ref p1, .ref p2] ∧ SqL K H p1 (A.map V.str) ∧ SqL K H p2 (B.map V.str) ∧ A.length ≤ 1000 ∧ Q (.bl (beginsB A B)) H
def spLaw (K : PySem.W.Frag) : Sp := fun vs H Q _ => ∃ (a : Addr) (ns : List Int), vs = [.ref a] ∧ SqL K H a (ns.map V.int) ∧ ns.length ≤ 63 ∧ (∀ z ∈ ns, Bits 1048576 z) ∧ ∀ H', Q (.bl true) H'
theorem okL_part_by (T : Txt K mg) : Cal P w K mg base CX0 2 "_law_part_by" ps_L_part_by (spPart2) := by
  have sc := scL_part_by
  refine T.d_L_part_by.ok sc (by walk_at "len") (fun f cdv A outer s H vs Q E hr h => ?_)
  have hu := hu_of hr
  obtain ⟨k, rfl, q⟩ := h
  refine ⟨_, PSs.cv (by exact (pss_cons (ps_set (i := 1) sc.nd rfl (Or.inl rfl) (pe_calC (okL_sign_by T) (hr.mono (by decide)) (by rfl) pass0 (pa_cons (pv 0) pa_nil)))
      (pss_cons (ps_if (pt_cmpR op_eq (pe_op op_mod (pe_op op_fdiv (pv 0) pe_int) pe_int) pe_int (nomark _)) (pss_one (ps_set (i := 1) sc.nd rfl (Or.inl rfl) (pe_op op_add_str (pv 1) (pe_calC (okL_sign_by T) (hr.mono (by decide)) (by rfl) pass0 (pa_cons (pe_op op_fdiv (pv 0) pe_int) pa_nil))))) pss_nil)
      (pss_cons (ps_if (PW.pt (pw_or (pt_cmpR op_eq (pv 1) pe_str (nomark _)) (pw_or1 (pt_cmpR op_eq (pv 1) pe_str (nomark _))))) (pss_one (ps_ret pe_str)) pss_nil)
      (pss_one (ps_ret (pv 1))))))) (by walk_at "cv"), ?_⟩
  walk_at "go"
  intro c hc
  have hc47 : c ≠ 47 := fun e => sgns_no47 (e ▸ hc)
  walk_at "go"
  refine if_join (fun σ H' => H' = H ∧ ∃ z : Str, σ = [some (.int k), some (.str z)] ∧ z.length ≤ 2 ∧ 47 ∉ cl z) ?_ (fun h N hj => ?_) fun h => ⟨rfl, c1 c, rfl, by rw [len_c1]; decide, by rw [cl_c1]; simp; exact fun e => hc47 e.symm⟩
  · rintro σ H' ⟨rfl, z, rfl, hl, h47⟩
    walk_at "go"
    have hx : ("x." : Str).length ≤ 3 ∧ 47 ∉ cl ("x." : Str) := by decide +kernel
    refine iteD (fun h => ?_) fun h => ?_
    · walk_at "go"
      exact q _ hx.1 hx.2
    walk_at "go"
    refine iteD (fun h => ?_) fun h => ?_
    · walk_at "go"
      exact q _ hx.1 hx.2
    walk_at "go"
    exact q z (by omega) h47
  · walk_at "go"
    intro d hd
    have hd47 : d ≠ 47 := fun e => sgns_no47 (e ▸ hd)
    walk_at "go"
    refine ⟨sl_of (show (c1 c).length + (c1 d).length ≤ _ by rw [len_c1, len_c1]; decide), hj _ _ ⟨rfl, c1 c ++ c1 d, rfl, by rw [len_app, len_c1, len_c1]; decide, ?_⟩⟩
    rw [cl_app, cl_c1, cl_c1]
    simp
    exact ⟨fun e => hc47 e.symm, fun e => hd47 e.symm⟩
theorem okL_begins (T : Txt K mg) : Cal P w K mg base CX0 1 "_law_begins" ps_L_begins (spBegins K) := by
  have sc := scL_begins
  refine T.d_L_begins.ok sc (by walk_at "len") (fun f cdv A outer s H vs Q E hr h => ?_)
  have hu := hu_of hr
  obtain ⟨p1, p2, A, B, rfl, hA, hB, hlA, q⟩ := h
  refine ⟨_, PSs.cv (by exact (pss_cons (ps_if (pt_cmpR op_ge (pe_callB call_len_seq (by rfl) T.n_len (by decide +kernel) (pa_cons (pv 0) pa_nil)) (pe_callB call_len_seq (by rfl) T.n_len (by decide +kernel) (pa_cons (pv 1) pa_nil)) (nomark _)) (pss_one (ps_ret pe_bl)) pss_nil)
      (pss_cons (ps_for PassesOwn.never rfl (pi_range1 (by rfl) T.n_range (pa_cons (pe_callB call_len_seq (by rfl) T.n_len (by decide +kernel) (pa_cons (pv 0) pa_nil)) pa_nil)) (pg_name (i := 2) sc.nd rfl (Or.inl rfl)) (pss_one (ps_if (pt_cmpR op_ne (pe_ix ix_list (pv 0) (pv 2) (fun _ _ => rfl)) (pe_ix ix_list (pv 1) (pv 2) (fun _ _ => rfl)) (nomark _)) (pss_one (ps_ret pe_bl)) pss_nil)))
      (pss_one (ps_ret pe_bl))))) (by walk_at "cv"), ?_⟩
  walk_at "go"
  rw [List.length_map, List.length_map]
  refine iteD (fun h => ?_) fun h => ?_
  · walk_at "go"
    rwa [beginsB, decide_eq_false (by omega)] at q
  walk_at "go"
  rw [List.length_map]
  refine ⟨by omega, by omega, ?_⟩
  refine for_it wR (fun i σ H' => H' = H ∧ (∃ v2, σ = [some (.ref p1), some (.ref p2), v2]) ∧ B.take i = A.take i) ⟨rfl, ⟨_, rfl⟩, by simp⟩ (fun _ _ _ _ _ => trivial) ?_ ?_
  · rintro i x σ H2 H3 hi ⟨rfl, ⟨v2, rfl⟩, ht⟩ ⟨rfl, hx⟩
    rw [List.getElem?_map, List.getElem?_range hi] at hx
    cases hx
    obtain ⟨z0, hz0, hm0, hg0⟩ := at_strs (zs := A) (i := 0 + (i : Int)) (by omega) (by omega)
    obtain ⟨z1, hz1, hm1, hg1⟩ := at_strs (zs := B) (i := 0 + (i : Int)) (by omega) (by omega)
    have ei : (0 + (i : Int)).toNat = i := by omega
    rw [ei] at hg0 hg1
    walk_at "go"
    refine ⟨_, _, _, _, rfl, rfl, hA, hz0, ?_⟩
    walk_at "go"
    refine ⟨_, _, _, _, rfl, rfl, hB, hz1, ?_⟩
    walk_at "go"
    refine iteN (fun hne => ?_) fun he => ?_
    · walk_at "go"
      have : ¬ (A.length < B.length ∧ B.take A.length = A) := fun ⟨_, e⟩ => by
        have h1 : (B.take A.length)[i]? = some z1 := by rw [List.getElem?_take, if_pos (by omega), hg1]
        rw [e, hg0] at h1
        exact hne (congrArg V.str (Option.some.inj h1))
      rwa [beginsB, decide_eq_false this] at q
    · refine ⟨rfl, ⟨_, rfl⟩, ?_⟩
      rw [List.take_add_one, List.take_add_one, ht, hg0, hg1, V.str.inj he]
  · rintro σ H2 ⟨rfl, ⟨v2, rfl⟩, ht⟩
    walk_at "go"
    have e : ((A.length : Int)).toNat = A.length := by omega
    rw [e] at ht
    rw [List.take_length] at ht
    rwa [beginsB, decide_eq_true ⟨by omega, ht⟩] at q
/-- a list of parts at p -/
def OkL (H : Hp) (p : Addr) (b : Nat) (A : List Str) : Prop := H p = some (.lst (A.map V.str)) ∧ A ≠ [] ∧ A.length ≤ 8 ∧ (∀ z ∈ A, z.length ≤ b) ∧ ∀ z ∈ A, 47 ∉ cl z
def atZ (n : Nat) (al : Int) : Int := (if (n : Int) < (if (1 : Int) > al then (1 : Int) else al) then (n : Int) else (if (1 : Int) > al then (1 : Int) else al)) - 1
theorem atZ_in {n : Nat} {al : Int} (h : 0 < n) : 0 ≤ atZ n al ∧ atZ n al < n := by
  have h1 : 1 ≤ (if (1 : Int) > al then (1 : Int) else al) := by split <;> omega
  unfold atZ
  generalize (if (1 : Int) > al then (1 : Int) else al) = x at h1
  split <;> omega
theorem OkL.put {H : Hp} {p : Addr} {b b' : Nat} {A : List Str} {n : Nat} {z : Str} (h : OkL H p b A) (hb : b ≤ b') (hz : z.length ≤ b') (h47 : 47 ∉ cl z) : OkL (upd H p (.lst ((A.map V.str).set n (V.str z)))) p b' (A.set n z) := by
  refine ⟨by rw [upd_same, map_set], fun e => h.2.1 (List.eq_nil_of_length_eq_zero (by have := congrArg List.length e; rw [List.length_set] at this; exact this)), by rw [List.length_set]; exact h.2.2.1, fun y hy => ?_, fun y hy => ?_⟩
  · rcases mem_set hy with e | hy
    · subst e; exact hz
    · exact Nat.le_trans (h.2.2.2.1 _ hy) hb
  · rcases mem_set hy with e | hy
    · subst e; exact h47
    · exact h.2.2.2.2 _ hy
theorem oklaw (T : Txt K mg) : Cal P w K mg base CX0 3 "law" ps_law (spLaw K) := by
  have sc := sclaw
  refine T.d_law.ok sc (by walk_at "len") (fun f cdv A outer s H vs Q E hr h => ?_)
  have hu := hu_of hr
  obtain ⟨a, ns, rfl, hS, hn, hb, q⟩ := h
  refine ⟨_, PSs.cv (by exact (pss_cons (ps_setLc (i := 1) rfl sc.nd rfl rfl (sw_true rfl rfl rfl (by decide +kernel)) (pi_range1 (by rfl) T.n_range (pa_cons (pe_op op_add pe_int (pe_op op_mod (pe_calC (okL_cell_at T) (hr.mono (by decide)) (by rfl) pass0 (pa_cons (pv 0) (pa_cons pe_int pa_nil))) pe_int)) pa_nil)) (blkOk_by (own := [("_law_k", 2)]) (N := sl_law) (sc := defScope s_law) (by decide +kernel)) (fun _ _ _ _ _ => (pg_name (i := 2) sc.nd rfl (by first | exact Or.inl rfl | exact Or.inr rfl))) (fun _ _ _ _ _ => pts_nil) (fun _ _ _ _ _ => PE.cv (by exact (pe_calC (okL_part_by T) (hr.mono (by decide)) (by rfl) pass0 (pa_cons (pe_calC (okL_cell_at T) (hr.mono (by decide)) (by rfl) pass0 (pa_cons (pv 0) (pa_cons (pe_op op_add pe_int (pv 2)) pa_nil))) pa_nil))) (by walk_at "cv")))
      (pss_cons (ps_setLc (i := 3) rfl sc.nd rfl rfl (sw_true rfl rfl rfl (by decide +kernel)) (pi_range1 (by rfl) T.n_range (pa_cons (pe_op op_add pe_int (pe_op op_mod (pe_calC (okL_cell_at T) (hr.mono (by decide)) (by rfl) pass0 (pa_cons (pv 0) (pa_cons pe_int pa_nil))) pe_int)) pa_nil)) (blkOk_by (own := [("_law_k", 2)]) (N := sl_law) (sc := defScope s_law) (by decide +kernel)) (fun _ _ _ _ _ => (pg_name (i := 2) sc.nd rfl (by first | exact Or.inl rfl | exact Or.inr rfl))) (fun _ _ _ _ _ => pts_nil) (fun _ _ _ _ _ => PE.cv (by exact (pe_calC (okL_part_by T) (hr.mono (by decide)) (by rfl) pass0 (pa_cons (pe_calC (okL_cell_at T) (hr.mono (by decide)) (by rfl) pass0 (pa_cons (pv 0) (pa_cons (pe_op op_add pe_int (pv 2)) pa_nil))) pa_nil))) (by walk_at "cv")))
      (pss_cons (ps_set (i := 4) sc.nd rfl (Or.inl rfl) (pe_op op_mod (pe_calC (okL_cell_at T) (hr.mono (by decide)) (by rfl) pass0 (pa_cons (pv 0) (pa_cons pe_int pa_nil))) (pe_op op_add (pe_callB call_len_seq (by rfl) T.n_len (by decide +kernel) (pa_cons (pv 1) pa_nil)) pe_int)))
      (pss_cons (ps_for PassesOwn.never rfl (pi_range1 (by rfl) T.n_range (pa_cons (pe_callB (call_min2 rfl) (by rfl) T.n_min (by decide +kernel) (pa_cons (pv 4) (pa_cons (pe_callB call_len_seq (by rfl) T.n_len (by decide +kernel) (pa_cons (pv 3) pa_nil)) pa_nil))) pa_nil)) (pg_name (i := 2) sc.nd rfl (Or.inl rfl)) (pss_one (ps_asg (pe_ix ix_list (pv 1) (pv 2) (fun _ _ => rfl)) (pg_sub (pv 3) (pv 2) set_list))))
      (pss_cons (ps_if (pt_cmpR op_eq (pe_op op_mod (pe_op op_fdiv (pe_calC (okL_cell_at T) (hr.mono (by decide)) (by rfl) pass0 (pa_cons (pv 0) (pa_cons pe_int pa_nil))) pe_int) pe_int) pe_int (nomark _)) (pss_cons (ps_set (i := 5) sc.nd rfl (Or.inl rfl) (pe_op op_sub (pe_callB (call_min2 rfl) (by rfl) T.n_min (by decide +kernel) (pa_cons (pe_callB (call_max2 rfl) (by rfl) T.n_max (by decide +kernel) (pa_cons (pv 4) (pa_cons pe_int pa_nil))) (pa_cons (pe_callB call_len_seq (by rfl) T.n_len (by decide +kernel) (pa_cons (pv 3) pa_nil)) pa_nil))) pe_int))
      (pss_one (ps_asg (pe_op op_add_str (pe_ix ix_list (pv 3) (pv 5) (fun _ _ => rfl)) (pe_calC (okL_sign_by T) (hr.mono (by decide)) (by rfl) pass0 (pa_cons (pe_op op_mod (pe_calC (okL_cell_at T) (hr.mono (by decide)) (by rfl) pass0 (pa_cons (pv 0) (pa_cons pe_int pa_nil))) pe_int) pa_nil))) (pg_sub (pv 3) (pv 5) set_list)))) pss_nil)
      (pss_cons (ps_if (pt_cmpR op_eq (pe_op op_mod (pe_op op_fdiv (pe_calC (okL_cell_at T) (hr.mono (by decide)) (by rfl) pass0 (pa_cons (pv 0) (pa_cons pe_int pa_nil))) pe_int) pe_int) pe_int (nomark _)) (pss_cons (ps_set (i := 5) sc.nd rfl (Or.inl rfl) (pe_op op_sub (pe_callB (call_min2 rfl) (by rfl) T.n_min (by decide +kernel) (pa_cons (pe_callB (call_max2 rfl) (by rfl) T.n_max (by decide +kernel) (pa_cons (pv 4) (pa_cons pe_int pa_nil))) (pa_cons (pe_callB call_len_seq (by rfl) T.n_len (by decide +kernel) (pa_cons (pv 3) pa_nil)) pa_nil))) pe_int))
      (pss_one (ps_asg (pe_op op_add_str (pe_slice sl_str (pe_ix ix_list (pv 3) (pv 5) (fun _ _ => rfl)) po_none (po_some (pe_un un_neg pe_int))) (pe_calC (okL_sign_by T) (hr.mono (by decide)) (by rfl) pass0 (pa_cons (pe_op op_mod (pe_calC (okL_cell_at T) (hr.mono (by decide)) (by rfl) pass0 (pa_cons (pv 0) (pa_cons pe_int pa_nil))) pe_int) pa_nil))) (pg_sub (pv 3) (pv 5) set_list)))) pss_nil)
      (pss_cons (ps_set (i := 6) sc.nd rfl (Or.inl rfl) (pe_join pe_str (pv 1)))
      (pss_cons (ps_set (i := 7) sc.nd rfl (Or.inl rfl) (pe_join pe_str (pv 3)))
      (pss_cons (ps_set (i := 8) sc.nd rfl (Or.inl rfl) (pe_calC (okis_beneath T) (hr.mono (by decide)) (by rfl) pass0 (pa_cons (pv 7) (pa_cons (pv 6) pa_nil))))
      (pss_cons (ps_set (i := 9) sc.nd rfl (Or.inl rfl) (pe_calC (okis_beneath T) (hr.mono (by decide)) (by rfl) pass0 (pa_cons (pv 6) (pa_cons (pv 7) pa_nil))))
      (pss_cons (ps_if (PW.pt (pw_or (pt_not (pt_val (pe_callB call_isi (by rfl) T.n_isinstance (by decide +kernel) (pa_cons (pv 8) (pa_cons (pe_bltn (v := .ty "bool") (by rfl) T.n_bool (by decide +kernel) rfl) pa_nil))))) (pw_or1 (pt_not (pt_val (pe_callB call_isi (by rfl) T.n_isinstance (by decide +kernel) (pa_cons (pv 9) (pa_cons (pe_bltn (v := .ty "bool") (by rfl) T.n_bool (by decide +kernel) rfl) pa_nil)))))))) (pss_one (ps_ret pe_bl)) pss_nil)
      (pss_cons (ps_if (PW.pt (pw_or (pt_cmpR op_ne (pv 8) (pe_calC (okL_begins T) (hr.mono (by decide)) (by rfl) pass0 (pa_cons (pv 1) (pa_cons (pv 3) pa_nil))) (nomark _)) (pw_or1 (pt_cmpR op_ne (pv 9) (pe_calC (okL_begins T) (hr.mono (by decide)) (by rfl) pass0 (pa_cons (pv 3) (pa_cons (pv 1) pa_nil))) (nomark _))))) (pss_one (ps_ret pe_bl)) pss_nil)
      (pss_one (ps_ret (pe_and (pe_cmpR op_eq (pe_cmpR op_in_seq (pv 6) (pe_calC (okabove T) (hr.mono (by decide)) (by rfl) pass0 (pa_cons (pv 7) pa_nil)) (by rfl)) (pv 8) (nomark _)) (pe_one (pe_cmpR op_eq (pe_cmpR op_in_seq (pv 7) (pe_calC (okabove T) (hr.mono (by decide)) (by rfl) pass0 (pa_cons (pv 6) pa_nil)) (by rfl)) (pv 9) (nomark _))))))))))))))))))) (by walk_at "cv"), ?_⟩
  walk_at "go"
  have hm : 0 ≤ cellZ ns 0 % 8 ∧ cellZ ns 0 % 8 < 8 := by omega
  generalize cellZ ns 0 % 8 = m at hm
  walk_at "go"
  intro D1 hD1
  refine lcP (j := 2) wR (by rw [List.length_map, List.length_range]) (fun _ _ => trivial) hD1 (fun _ y => ∃ c, y = V.str c ∧ c.length ≤ 3 ∧ 47 ∉ cl c) (by omega) (fun _ => rfl) (fun x H2 hx e2 Q2 k => ?_) fun ys H1 hp e1 hA => ?_
  · obtain ⟨i, hi, rfl⟩ := List.mem_map.mp hx
    have hS2 := e2.seq hS
    walk_at "go"
    exact fun z hz h47 => k _ _ (Same.refl _) ⟨z, rfl, hz, h47⟩
  obtain ⟨A, rfl, hlA, hzA⟩ := strs_all hp
  rw [List.length_map, List.length_range] at hlA
  have hS1 := e1.seq hS
  walk_at "go"
  have hm2 : 0 ≤ cellZ ns 1 % 8 ∧ cellZ ns 1 % 8 < 8 := by omega
  generalize cellZ ns 1 % 8 = m2 at hm2
  walk_at "go"
  intro D2 hD2
  refine lcP (j := 2) wR (by rw [List.length_map, List.length_range]) (fun _ _ => trivial) hD2 (fun _ y => ∃ c, y = V.str c ∧ c.length ≤ 3 ∧ 47 ∉ cl c) (by omega) (fun _ => rfl) (fun x H2 hx e2 Q2 k => ?_) fun ys H2 hp2 e2 hB => ?_
  · obtain ⟨i, hi, rfl⟩ := List.mem_map.mp hx
    have hS2 := e2.seq hS1
    walk_at "go"
    exact fun z hz h47 => k _ _ (Same.refl _) ⟨z, rfl, hz, h47⟩
  obtain ⟨B, rfl, hlB, hzB⟩ := strs_all hp2
  rw [List.length_map, List.length_range] at hlB
  have hS2 := e2.seq hS1
  have hA2 := e2 _ _ hA
  have n1 : D1 ≠ D2 := ne_of_none hA hD2
  have okA : OkL H2 D1 3 A := ⟨hA2, fun e => by rw [e] at hlA; simp at hlA; omega, by omega, fun z h => (hzA z h).1, fun z h => (hzA z h).2⟩
  have okB : OkL H2 D2 3 B := ⟨hB, fun e => by rw [e] at hlB; simp at hlB; omega, by omega, fun z h => (hzB z h).1, fun z h => (hzB z h).2⟩
  have e2 := e1.trans e2
  have hD2' : H D2 = none := e1.free hD2
  clear hp hp2 hlA hlB hzA hzB hA2 hB hA e1 hS1
  have hA2 := okA.1
  have hal : 0 ≤ cellZ ns 2 % ((A.length : Int) + 1) ∧ cellZ ns 2 % ((A.length : Int) + 1) ≤ A.length := ⟨Int.emod_nonneg _ (by omega), by have := Int.emod_lt_of_pos (cellZ ns 2) (show (0 : Int) < (A.length : Int) + 1 by omega); omega⟩
  have hlim : ∀ x : Int, 0 ≤ x → 0 ≤ (if (B.length : Int) < x then (B.length : Int) else x) ∧ (if (B.length : Int) < x then (B.length : Int) else x) ≤ B.length ∧ (if (B.length : Int) < x then (B.length : Int) else x) ≤ x := fun x hx => by split <;> omega
  have hl1 := hlim _ hal.1
  have lA := okA.2.2.1
  have lB := okB.2.2.1
  walk_at "go"
  have hB2 := okB.1
  rw [← List.length_map V.str (as := A), ← List.length_map V.str (as := B)] at hl1
  walk_at "go"
  refine ⟨Int.le_trans (by decide) hl1.1, Int.lt_of_le_of_lt hl1.2.1 (by rw [List.length_map]; omega), ?_⟩
  walk_at "go"
  refine for_it wR (fun i σ H' => Same H H' ∧ (∃ (v2 : _) (al : Int), σ = [some (.ref a), some (.ref D1), v2, some (.ref D2), some (.int al), none, none, none, none, none]) ∧ H' D1 = some (.lst (A.map V.str)) ∧ ∃ B' : List Str, B'.length = B.length ∧ OkL H' D2 3 B')
    ⟨e2, ⟨_, _, rfl⟩, hA2, B, rfl, okB⟩ (fun _ _ _ _ _ => trivial) ?_ ?_
  · rintro i x σ H3 H4 hi ⟨e3, ⟨v2, al, rfl⟩, hA3, B', hlB', okB'⟩ ⟨rfl, hx⟩
    rw [List.getElem?_map, List.getElem?_range hi] at hx
    cases hx
    rw [List.length_map, List.length_map] at hl1 hi
    have hi2 : i < A.length ∧ i < B.length := by
      have h3 := hl1.2.2
      have h2 := hl1.2.1
      generalize (if (B.length : Int) < cellZ ns 2 % ((A.length : Int) + 1) then (B.length : Int) else cellZ ns 2 % ((A.length : Int) + 1)) = w at hi h2 h3
      omega
    obtain ⟨z0, hz0, hm0, _⟩ := at_strs (zs := A) (i := 0 + (i : Int)) (by omega) (by omega)
    have hB3 := okB'.1
    walk_at "go"
    refine ⟨_, _, _, _, rfl, rfl, SqL.of hA3, hz0, ?_⟩
    walk_at "go"
    refine ⟨_, _, _, _, rfl, rfl, hB3, ixN_in (by omega) (by rw [List.length_map]; omega), ?_⟩
    refine ⟨Same.mut e3 hD2', ⟨_, _, rfl⟩, by rw [upd_ne n1]; exact hA3, B'.set (0 + (i : Int)).toNat z0, by rw [List.length_set, hlB'], ?_⟩
    exact okB'.put (Nat.le_refl _) (okA.2.2.2.1 _ hm0) (okA.2.2.2.2 _ hm0)
  rintro σ H3 ⟨e3, ⟨v2, al, rfl⟩, hA3, B', hlB', okB'⟩
  clear okB hB2 e2 lB
  have hS3 := e3.seq hS
  have hB3 := okB'.1
  have hne' : 0 < B'.length := List.length_pos_iff.mpr okB'.2.1
  have lB := okB'.2.2.1
  have lenB : (B'.map V.str).length = B'.length := List.length_map _
  have hat : 0 ≤ atZ (B'.map V.str).length al ∧ atZ (B'.map V.str).length al < (B'.length : Int) := by
    rw [lenB]; exact atZ_in (hne')
  walk_at "go"
  refine if_join (fun σ H' => Same H H' ∧ (∃ v2 v5, σ = [some (.ref a), some (.ref D1), v2, some (.ref D2), some (.int al), v5, none, none, none, none]) ∧ H' D1 = some (.lst (A.map V.str)) ∧ ∃ C : List Str, C.length = B'.length ∧ OkL H' D2 4 C) ?_ (fun h N hj => ?_)
    fun h => ⟨e3, ⟨_, _, rfl⟩, hA3, B', rfl, hB3, okB'.2.1, lB, fun z h => Nat.le_trans (okB'.2.2.2.1 z h) (by decide), okB'.2.2.2.2⟩
  · rintro σ H4 ⟨e4, ⟨v2, v5, rfl⟩, hA4, C, hlC, okC⟩
    have hS4 := e4.seq hS
    have hB4 := okC.1
    have lC := okC.2.2.1
    have lenC : (C.map V.str).length = C.length := List.length_map _
    have hat : 0 ≤ atZ (C.map V.str).length al ∧ atZ (C.map V.str).length al < (C.length : Int) := by
      rw [lenC]; exact atZ_in (by rw [hlC]; exact hne')
    walk_at "go"
    refine if_join (fun σ H' => Same H H' ∧ (∃ v2 v5, σ = [some (.ref a), some (.ref D1), v2, some (.ref D2), some (.int al), v5, none, none, none, none]) ∧ H' D1 = some (.lst (A.map V.str)) ∧ ∃ E : List Str, OkL H' D2 5 E) ?_ (fun h N hj => ?_)
      fun h => ⟨e4, ⟨_, _, rfl⟩, hA4, C, hB4, okC.2.1, lC, fun z h => Nat.le_trans (okC.2.2.2.1 z h) (by decide), okC.2.2.2.2⟩
    · rintro σ H5 ⟨e5, ⟨v2, v5, rfl⟩, hA5, E, hB5, hE1, hE2, hE3, hE4⟩
      have sA := sum_le okA.2.2.2.1
      have sE := sum_le hE3
      have jA := join_len A
      have jE := join_len E
      have bs := slash_len
      walk_at "go"
      rw [bs] at jA jE
      have bA : (A.map fun x => x.length).sum + A.length * slash.length ≤ 16777000 := by rw [bs]; omega
      have bE : (E.map fun x => x.length).sum + E.length * slash.length ≤ 16777000 := by rw [bs]; omega
      have cA : (Txt.join slash A).length ≤ 16777000 := by omega
      have cE : (Txt.join slash E).length ≤ 16777000 := by omega
      refine ⟨_, _, A, rfl, rfl, Or.inl (SqL.of hA5), Nat.le_trans bA (by decide), ?_⟩
      walk_at "go"
      refine ⟨_, _, E, rfl, rfl, Or.inl (SqL.of hB5), Nat.le_trans bE (by decide), ?_⟩
      walk_at "go"
      have h1 : beneathB (Txt.join slash E) (Txt.join slash A) = beginsB A E := beneath_join okA.2.1 hE1 okA.2.2.2.2 hE4
      have h2 : beneathB (Txt.join slash A) (Txt.join slash E) = beginsB E A := beneath_join hE1 okA.2.1 hE4 okA.2.2.2.2
      walk_at "go"
      refine ⟨_, _, A, E, rfl, SqL.of hA5, SqL.of hB5, by omega, ?_⟩
      walk_at "go"
      refine iteN (fun hne => absurd (congrArg V.bl h1) hne) fun _ => ?_
      walk_at "go"
      refine ⟨_, _, E, A, rfl, SqL.of hB5, SqL.of hA5, by omega, ?_⟩
      walk_at "go"
      refine iteN (fun hne => absurd (congrArg V.bl h2) hne) fun _ => ?_
      walk_at "go"
      refine ⟨cE, fun p6 H6 np6 e6 hp6 => ?_⟩
      walk_at "go"
      refine ⟨flat_strs _, ?_⟩
      walk_at "go"
      refine iteD (fun _ => ?_) fun hne => absurd (congrArg V.bl (inV_above _ _)) hne
      walk_at "go"
      refine ⟨cA, fun p7 H7 np7 e7 hp7 => ?_⟩
      walk_at "go"
      refine ⟨flat_strs _, ?_⟩
      walk_at "go"
      have := q H7
      rwa [← decide_eq_true (congrArg V.bl (inV_above (Txt.join (Str.ofString "/") E) (Txt.join (Str.ofString "/") A)))] at this
    · walk_at "go"
      obtain ⟨z1, hz1, hm1, _⟩ := at_strs (zs := C) (i := atZ (C.map V.str).length al) hat.1 hat.2
      have lz := okC.2.2.2.1 _ hm1
      refine ⟨_, _, _, _, rfl, rfl, SqL.of hB4, hz1, ?_⟩
      walk_at "go"
      intro c hc
      have c47 : c ≠ 47 := fun e => sgns_no47 (e ▸ hc)
      have lx := cutS_length z1 none (some (-1))
      have l1 : (cutS z1 none (some (-1)) ++ c1 c).length ≤ 5 := by rw [len_app, len_c1]; omega
      walk_at "go"
      refine ⟨sl_of (show (cutS z1 none (some (-1))).length + (c1 c).length ≤ _ by rw [len_c1]; omega), ?_⟩
      walk_at "go"
      refine ⟨_, _, _, _, rfl, rfl, hB4, ixN_in (i := atZ (C.map V.str).length al) hat.1 (by have := hat.2; rw [lenC] at this ⊢; exact this), ?_⟩
      refine hj _ _ ⟨Same.mut e4 hD2', ⟨_, _, rfl⟩, by rw [upd_ne n1]; exact hA4, C.set (atZ (C.map V.str).length al).toNat (cutS z1 none (some (-1)) ++ c1 c), ?_⟩
      refine okC.put (by decide) l1 ?_
      rw [cl_app, cl_c1, List.mem_append, List.mem_singleton]
      exact fun h => h.elim (fun h => okC.2.2.2.2 _ hm1 (cutS_sub h)) fun h => c47 h.symm
  · walk_at "go"
    obtain ⟨z1, hz1, hm1, _⟩ := at_strs (zs := B') (i := atZ (B'.map V.str).length al) hat.1 hat.2
    refine ⟨_, _, _, _, rfl, rfl, SqL.of hB3, hz1, ?_⟩
    walk_at "go"
    intro c hc
    have c47 : c ≠ 47 := fun e => sgns_no47 (e ▸ hc)
    have lz := okB'.2.2.2.1 _ hm1
    have l1 : (z1 ++ c1 c).length ≤ 4 := by rw [len_app, len_c1]; omega
    walk_at "go"
    refine ⟨sl_of (show z1.length + (c1 c).length ≤ _ by rw [len_c1]; omega), ?_⟩
    walk_at "go"
    refine ⟨_, _, _, _, rfl, rfl, hB3, ixN_in (i := atZ (B'.map V.str).length al) hat.1 (by have := hat.2; rw [lenB] at this ⊢; exact this), ?_⟩
    refine hj _ _ ⟨Same.mut e3 hD2', ⟨_, _, rfl⟩, by rw [upd_ne n1]; exact hA3, B'.set (atZ (B'.map V.str).length al).toNat (z1 ++ c1 c), List.length_set, ?_⟩
    refine okB'.put (by decide) l1 ?_
    rw [cl_app, cl_c1, List.mem_append, List.mem_singleton]
    exact fun h => h.elim (okB'.2.2.2.2 _ hm1) fun h => c47 h.symm
end
end T
namespace T
open PySem L2 M
theorem all_mk {P : Program} {w : World} {K : PySem.W.Frag} {h : Heap} {mg : Str → Option Value} {fa f0 f1 f2 f3 f4 f5 f6 : Addr} (X : K.In h) (G : h.Ns mainGlobals mg) (hfa : mg "law" = some (.ref fa))
    {od0 an0 : Option Addr} {sl0 : Array (Option Value)} {oc0 kV0 dc0 pm0 cd0 ct0 : Value}
    (a0 : PySem.W.nsIn K mainGlobals "_law_cell_at" = some (some (.ref f0)))
    (l0 : K.lookup f0 = some ⟨oc0, od0, .func (PySem.W.fnOf "_law_cell_at" "_law_cell_at" (defArgs s_L_cell_at) (defBody s_L_cell_at) (defScope s_L_cell_at) .none kV0 dc0 pm0 an0 cd0 ct0), sl0⟩)
    (c0 : PySem.W.codeIn K cd0 "_law_cell_at" = true) (k0 : PySem.W.keepIn K (.ref f0) = true)
    {od1 an1 : Option Addr} {sl1 : Array (Option Value)} {oc1 kV1 dc1 pm1 cd1 ct1 : Value}
    (a1 : PySem.W.nsIn K mainGlobals "_law_sign_by" = some (some (.ref f1)))
    (l1 : K.lookup f1 = some ⟨oc1, od1, .func (PySem.W.fnOf "_law_sign_by" "_law_sign_by" (defArgs s_L_sign_by) (defBody s_L_sign_by) (defScope s_L_sign_by) .none kV1 dc1 pm1 an1 cd1 ct1), sl1⟩)
    (c1 : PySem.W.codeIn K cd1 "_law_sign_by" = true) (k1 : PySem.W.keepIn K (.ref f1) = true)
    {od2 an2 : Option Addr} {sl2 : Array (Option Value)} {oc2 kV2 dc2 pm2 cd2 ct2 : Value}
    (a2 : PySem.W.nsIn K mainGlobals "above" = some (some (.ref f2)))
    (l2 : K.lookup f2 = some ⟨oc2, od2, .func (PySem.W.fnOf "above" "above" (defArgs s_above) (defBody s_above) (defScope s_above) .none kV2 dc2 pm2 an2 cd2 ct2), sl2⟩)
    (c2 : PySem.W.codeIn K cd2 "above" = true) (k2 : PySem.W.keepIn K (.ref f2) = true)
    {od3 an3 : Option Addr} {sl3 : Array (Option Value)} {oc3 kV3 dc3 pm3 cd3 ct3 : Value}
    (a3 : PySem.W.nsIn K mainGlobals "is_beneath" = some (some (.ref f3)))
    (l3 : K.lookup f3 = some ⟨oc3, od3, .func (PySem.W.fnOf "is_beneath" "is_beneath" (defArgs s_is_beneath) (defBody s_is_beneath) (defScope s_is_beneath) .none kV3 dc3 pm3 an3 cd3 ct3), sl3⟩)
    (c3 : PySem.W.codeIn K cd3 "is_beneath" = true) (k3 : PySem.W.keepIn K (.ref f3) = true)
    {od4 an4 : Option Addr} {sl4 : Array (Option Value)} {oc4 kV4 dc4 pm4 cd4 ct4 : Value}
    (a4 : PySem.W.nsIn K mainGlobals "_law_part_by" = some (some (.ref f4)))
    (l4 : K.lookup f4 = some ⟨oc4, od4, .func (PySem.W.fnOf "_law_part_by" "_law_part_by" (defArgs s_L_part_by) (defBody s_L_part_by) (defScope s_L_part_by) .none kV4 dc4 pm4 an4 cd4 ct4), sl4⟩)
    (c4 : PySem.W.codeIn K cd4 "_law_part_by" = true) (k4 : PySem.W.keepIn K (.ref f4) = true)
    {od5 an5 : Option Addr} {sl5 : Array (Option Value)} {oc5 kV5 dc5 pm5 cd5 ct5 : Value}
    (a5 : PySem.W.nsIn K mainGlobals "_law_begins" = some (some (.ref f5)))
    (l5 : K.lookup f5 = some ⟨oc5, od5, .func (PySem.W.fnOf "_law_begins" "_law_begins" (defArgs s_L_begins) (defBody s_L_begins) (defScope s_L_begins) .none kV5 dc5 pm5 an5 cd5 ct5), sl5⟩)
    (c5 : PySem.W.codeIn K cd5 "_law_begins" = true) (k5 : PySem.W.keepIn K (.ref f5) = true)
    {od6 an6 : Option Addr} {sl6 : Array (Option Value)} {oc6 kV6 dc6 pm6 cd6 ct6 : Value}
    (a6 : PySem.W.nsIn K mainGlobals "law" = some (some (.ref f6)))
    (l6 : K.lookup f6 = some ⟨oc6, od6, .func (PySem.W.fnOf "law" "law" (defArgs s_law) (defBody s_law) (defScope s_law) .none kV6 dc6 pm6 an6 cd6 ct6), sl6⟩)
    (c6 : PySem.W.codeIn K cd6 "law" = true) (k6 : PySem.W.keepIn K (.ref f6) = true)
    (z_bool : PySem.W.nsIn K mainGlobals "bool" = some none)
    (z_isinstance : PySem.W.nsIn K mainGlobals "isinstance" = some none)
    (z_len : PySem.W.nsIn K mainGlobals "len" = some none)
    (z_max : PySem.W.nsIn K mainGlobals "max" = some none)
    (z_min : PySem.W.nsIn K mainGlobals "min" = some none)
    (z_range : PySem.W.nsIn K mainGlobals "range" = some none) :
    ∃ fd : FuncData, (∀ (s : Shared) (v : Value), BindsTo s fd ⟨[v], []⟩ [("_law_script", v)]) ∧ ∀ base : Heap, K.In base → base.Ns mainGlobals mg → FnOk P w K mg base CX0 3 fa fd ["_law_script"] (spLaw K) := by
  have T : Txt K mg := {
    d_L_cell_at := ⟨_, _, fun_mk (st := s_L_cell_at) l0 c0 k0, PySem.W.mg_of X G a0, (fun_mk (st := s_L_cell_at) l0 c0 k0).binds (ps := ps_L_cell_at) (fun _ _ _ _ _ _ us hl => match us, hl with | [_, _], _ => rfl)⟩,
    d_L_sign_by := ⟨_, _, fun_mk (st := s_L_sign_by) l1 c1 k1, PySem.W.mg_of X G a1, (fun_mk (st := s_L_sign_by) l1 c1 k1).binds (ps := ps_L_sign_by) (fun _ _ _ _ _ _ us hl => match us, hl with | [_], _ => rfl)⟩,
    d_above := ⟨_, _, fun_mk (st := s_above) l2 c2 k2, PySem.W.mg_of X G a2, (fun_mk (st := s_above) l2 c2 k2).binds (ps := ps_above) (fun _ _ _ _ _ _ us hl => match us, hl with | [_], _ => rfl)⟩,
    d_is_beneath := ⟨_, _, fun_mk (st := s_is_beneath) l3 c3 k3, PySem.W.mg_of X G a3, (fun_mk (st := s_is_beneath) l3 c3 k3).binds (ps := ps_is_beneath) (fun _ _ _ _ _ _ us hl => match us, hl with | [_, _], _ => rfl)⟩,
    d_L_part_by := ⟨_, _, fun_mk (st := s_L_part_by) l4 c4 k4, PySem.W.mg_of X G a4, (fun_mk (st := s_L_part_by) l4 c4 k4).binds (ps := ps_L_part_by) (fun _ _ _ _ _ _ us hl => match us, hl with | [_], _ => rfl)⟩,
    d_L_begins := ⟨_, _, fun_mk (st := s_L_begins) l5 c5 k5, PySem.W.mg_of X G a5, (fun_mk (st := s_L_begins) l5 c5 k5).binds (ps := ps_L_begins) (fun _ _ _ _ _ _ us hl => match us, hl with | [_, _], _ => rfl)⟩,
    d_law := ⟨_, _, fun_mk (st := s_law) l6 c6 k6, PySem.W.mg_of X G a6, (fun_mk (st := s_law) l6 c6 k6).binds (ps := ps_law) (fun _ _ _ _ _ _ us hl => match us, hl with | [_], _ => rfl)⟩,
    n_bool := PySem.W.mg_none_of X G z_bool,
    n_isinstance := PySem.W.mg_none_of X G z_isinstance,
    n_len := PySem.W.mg_none_of X G z_len,
    n_max := PySem.W.mg_none_of X G z_max,
    n_min := PySem.W.mg_none_of X G z_min,
    n_range := PySem.W.mg_none_of X G z_range }
  have e := hfa.symm.trans (PySem.W.mg_of X G a6)
  cases e
  refine ⟨PySem.W.fnOf "law" "law" (defArgs s_law) (defBody s_law) (defScope s_law) .none kV6 dc6 pm6 an6 cd6 ct6, fun s v => .of_eq rfl, fun base hb1 hb2 => ?_⟩
  obtain ⟨f, fd, F, g, kp, b, oc, od, osl, lk⟩ := (oklaw (P := P) (w := w) (base := base) T).ex
  have e2 := hfa.symm.trans g
  cases e2
  have e3 := lk.symm.trans l6
  cases e3
  exact F
theorem walk {l : PySem.W.OpenLaw} {q : Program} {loose : List Str} {XP : (Str → Option Value) → Heap → Prop} {YP : World → Heap → Prop} {d : DefRec} {K : Params → PySem.W.Frag} (hn : l.most = some 63) (hdf : d.params.defaults = [])
    (hY : ∀ (w : World) (h : Heap), YP w h → (K w.params).In h)
    (F : ∀ (w : World) (mg : Str → Option Value) (fa : Addr) (h : Heap), (K w.params).In h → h.Ns mainGlobals mg → mg d.name = some (.ref fa) →
      ∃ fd : FuncData, (∀ (s : Shared) (u : Value), BindsTo s fd ⟨[u], []⟩ [("_law_script", u)]) ∧ ∀ base : Heap, (K w.params).In base → base.Ns mainGlobals mg → FnOk l.prog w (K w.params) mg base CX0 3 fa fd ["_law_script"] (spLaw (K w.params))) :
    PySem.W.WalkO q loose XP YP l.row.toRowW d [] (fun f vs => PySem.call f vs) :=
  L2.walk_ofB (n := 63) (k := 3) (x := "_law_script") (CX := fun _ => CX0) (sp := fun w => spLaw (K w.params)) hn (by decide) hdf ⟨rfl, by decide, by decide⟩ hY F (fun _ _ a ns hl hb _ hS => ⟨a, ns, rfl, hS, hl, bits_of hb, fun _ => rfl⟩) fun _ _ _ _ _ z => z
end T
open PySem PySem.W PyProof.Rows
set_option maxRecDepth 100000 in
set_option maxHeartbeats 0 in
theorem PySem.Challenge.cw_threeroad_k02_beneath_holds : PySem.Challenge.rw_threeroad_k02_beneath.Holds := by
  w_on; o_law; k_head; (case hw => w_witness2)
  k_fill
  refine T.walk (l := PySem.Challenge.rw_threeroad_k02_beneath) rfl rfl (fun w h Y => PySem.W.kIn_of Y) ?F
  case F =>
    intro w mg fa h KX G hmg
    refine' T.all_mk KX G hmg ?a0 ?l0 ?c0 ?k0 ?a1 ?l1 ?c1 ?k1 ?a2 ?l2 ?c2 ?k2 ?a3 ?l3 ?c3 ?k3 ?a4 ?l4 ?c4 ?k4 ?a5 ?l5 ?c5 ?k5 ?a6 ?l6 ?c6 ?k6 ?z_bool ?z_isinstance ?z_len ?z_max ?z_min ?z_range
    (case a0 => first | k_is | rfl)
    (case l0 => first | k_is | rfl)
    (case c0 => first | k_is | rfl)
    (case k0 => first | k_is | rfl)
    (case a1 => first | k_is | rfl)
    (case l1 => first | k_is | rfl)
    (case c1 => first | k_is | rfl)
    (case k1 => first | k_is | rfl)
    (case a2 => first | k_is | rfl)
    (case l2 => first | k_is | rfl)
    (case c2 => first | k_is | rfl)
    (case k2 => first | k_is | rfl)
    (case a3 => first | k_is | rfl)
    (case l3 => first | k_is | rfl)
    (case c3 => first | k_is | rfl)
    (case k3 => first | k_is | rfl)
    (case a4 => first | k_is | rfl)
    (case l4 => first | k_is | rfl)
    (case c4 => first | k_is | rfl)
    (case k4 => first | k_is | rfl)
    (case a5 => first | k_is | rfl)
    (case l5 => first | k_is | rfl)
    (case c5 => first | k_is | rfl)
    (case k5 => first | k_is | rfl)
    (case a6 => first | k_is | rfl)
    (case l6 => first | k_is | rfl)
    (case c6 => first | k_is | rfl)
    (case k6 => first | k_is | rfl)
    (case z_bool => first | k_is | rfl)
    (case z_isinstance => first | k_is | rfl)
    (case z_len => first | k_is | rfl)
    (case z_max => first | k_is | rfl)
    (case z_min => first | k_is | rfl)
    (case z_range => first | k_is | rfl)
#print axioms PySem.Challenge.cw_threeroad_k02_beneath_holds
