import PyProof.Rows.All
import Wide.All
import OpenK.AllK
import Wide.FinOn
import HandS.ForMost
import HandS.ForDict
import HandS.NoneIn
import HandS.EndBits
import HandS.IsInst
import HandS.More
import HandS.Walk
import HandS.Small
import HandS.Conv
import HandS.Style
import PyProof.NeKinds
import HandS.DeepEq
import HandS.WordsDict
import HandS.ListItems
import HandS.Iter
import HandS.SortInts
import PyProof.Rows.SortShellAny
import KE.KSortTupAny
import HandS.Text
import PyProof.Seq
import HandS.Comp
import HandS.HotCalls
import HandS.ExcIs
import HandS.Set
import HandS.TupSets
import HandS.Strs
import HandS.ExcCtx
import HandS.ExcOwn
import PySem.Challenge.RW_threeroad_k11_whole_every_version_stands
set_option Elab.async false
set_option linter.all false
set_option maxRecDepth 100000
set_option maxHeartbeats 4000000
/-! ### the small layer of this claim: a def of the text with its place, its promise as a callee, frames, loops of comprehensions -/
namespace M
open PySem PySem.Spec PyProof.Rows L2

/-! a def of the top: its function object, its name, how its arguments bind -/
structure Def (K : PySem.W.Frag) (mg : Str → Option Value) (x : Str) (st : Stmt) (ps : List Str) : Prop where
  ex : ∃ (f : Addr) (fd : FuncData), Fun K x x st f fd ∧ mg x = some (.ref f) ∧ Binds K fd ps []
/-! a def as its callers see it -/
structure Cal (P : Program) (w : World) (K : PySem.W.Frag) (mg : Str → Option Value) (base : Heap) (CX : CXT) (k : Nat) (x : Str) (ps : List Str) (sp : Sp) : Prop where
  ex : ∃ (f : Addr) (fd : FuncData), FnOk P w K mg base CX k f fd ps sp ∧ mg x = some (.ref f) ∧ PySem.W.keepIn K (.ref f) = true ∧ Binds K fd ps [] ∧ ∃ (oc : Value) (od : Option Addr) (osl : Array (Option Value)), K.lookup f = some ⟨oc, od, .func fd, osl⟩
section
variable {P : Program} {w : World} {K : PySem.W.Frag} {mg : Str → Option Value} {base : Heap}
/-- no exception leaves it -/
theorem Def.ok {x : Str} {st : Stmt} {N ps : List Str} {k : Nat} {sp : Sp} (D : Def K mg x st ps) (S : FnScope N ps (defScope st)) (len : ∀ vs H Q E, sp vs H Q E → vs.length = ps.length)
    (hbody : ∀ (f : Addr) (cdv : Value) (A : Around) (outer : List Env) (s : Shared) (H : Hp) (vs : List V) (Q : VK) (E : XK), Room k (A.deeper (envOfC x (defScope st) s.heap.objs.size f cdv)) → sp vs H Q E →
      ∃ t, PSs (cxOf CX0 P w K mg base N x (defScope st) f cdv A outer s H E).nox (defBody st) t ∧ t { nx := fun _ H' => Q .non H', rt := Q } (start N vs) H) : Cal P w K mg base CX0 (k + 1) x ps sp := by
  obtain ⟨f, fd, F, g, b⟩ := D.ex
  obtain ⟨oc, od, kV, doc, pm, an, cdv, ct, osl, e, lk, _⟩ := F.ex
  exact ⟨f, fd, F.ok S len fun cdv A outer s H vs Q E hr h => hbody f cdv A outer s H vs Q E hr h, g, F.kp, b, oc, od, osl, lk⟩
end
section
variable {X : Cx} {CX : CXT} {k : Nat} {ps : List Str} {sp : Sp} {E : XK}
theorem pe_calC {x : Str} {p pos : Pos} {e : Expr} {es : List Expr} {t : TA} (C : Cal X.prog X.w X.K X.mg X.base CX k x ps sp) (hr : Room k X.A) (hg : Gl X x) (hx : Passes CX X E) (ha : PA X (e :: es) t)
    (hdb : (x == ("__debug__" : Str)) = false := by decide +kernel) (he : starEach (e :: es) X.env = (false, eval e X.env) :: starEach es X.env := by rfl) (hpl : (backTo pos (starEach es X.env)).any (·.1) = false := by rfl) :
    PE X (.Call (.Name x p) (e :: es) [] pos) (tCall sp [] E t) := by
  obtain ⟨f, fd, F, g, kp, b, _⟩ := C.ex
  exact pe_call F hr hg g kp b .nil hx ha hdb he hpl
end

/-! ### frames: what was tracked is as it was -/
section
variable {K : PySem.W.Frag} {H H' H1 H2 : Hp} {p a : Addr} {o u : HO} {xs : List V}
theorem Same.new (h : H p = none) : Same H (upd H p o) := fun b w e => by rw [upd_ne (ne_of_none e h)]; exact e
theorem Same.mut (e : Same H H') (h : H p = none) : Same H (upd H' p o) := fun b w q => by rw [upd_ne (ne_of_none q h)]; exact e b w q
theorem Same.tup (e : Same H H') (h : SqT K H a xs) : SqT K H' a xs := by
  rcases h with (h | ⟨o, h⟩) | h
  · exact .inl (.inl (e _ _ h))
  · exact .inl (.inr ⟨o, e _ _ h⟩)
  · exact .inr h
theorem Same.rd (e : Same H H') (h : Rd H a u) : Rd H' a u := by
  rcases h with h | ⟨o, h⟩
  · exact .inl (e _ _ h)
  · exact .inr ⟨o, e _ _ h⟩
/-- behind the making of an object: the heap a letter -/
theorem new_at {R : Hp → Prop} (hp : H p = none) (h : ∀ H', Same H H' → H' p = some o → R H') : R (upd H p o) := h _ (Same.new hp) upd_same
end

/-! ### tests -/
section
variable {A B : Prop} {p : Prop} [Decidable p]
theorem iteD (h1 : p → A) (h2 : ¬ p → B) : if decide p = true then A else B := by
  by_cases h : p
  · rw [if_pos (decide_eq_true h)]; exact h1 h
  · rw [if_neg (by rw [decide_eq_false h]; exact Bool.false_ne_true)]; exact h2 h
theorem iteN (h1 : ¬ p → A) (h2 : p → B) : if (!decide p) = true then A else B := by
  by_cases h : p
  · rw [if_neg (by rw [decide_eq_true h]; exact Bool.false_ne_true)]; exact h2 h
  · rw [if_pos (by rw [decide_eq_false h]; rfl)]; exact h1 h
theorem iteB {b : Bool} (h1 : b = true → A) (h2 : b = false → B) : if b = true then A else B := by
  cases b with
  | true => rw [if_pos rfl]; exact h1 rfl
  | false => rw [if_neg Bool.false_ne_true]; exact h2 rfl
theorem iteBN {b : Bool} (h1 : b = false → A) (h2 : b = true → B) : if (!b) = true then A else B := by
  cases b with
  | true => exact iteF (h2 rfl)
  | false => exact iteT (h1 rfl)
end

theorem iteSelf {A B : Prop} {x : V} (h : B) : if (!decide (x = x)) = true then A else B := iteNS rfl h
theorem iteSelfT {A B : Prop} {x : V} (h : A) : if decide (x = x) = true then A else B := by rw [if_pos (decide_eq_true rfl)]; exact h
/-! an if without an else, its ways joined: I holds behind both; what follows is a letter in the way through -/
section
variable {p : Prop} [Decidable p] {t u : TS} {D : Ends} {σ : L2.St} {H : Hp}
theorem if_join (I : L2.St → Hp → Prop) (hj : ∀ σ' H', I σ' H' → D.nx σ' H') (ht : p → ∀ N : L2.St → Hp → Prop, (∀ σ' H', I σ' H' → N σ' H') → t { D with nx := N } σ H) (hf : ¬ p → I σ H) : if decide p = true then t D σ H else tNext D σ H :=
  iteD (fun h => ht h D.nx hj) fun h => hj _ _ (hf h)
theorem if_joinB {b : Bool} (I : L2.St → Hp → Prop) (hj : ∀ σ' H', I σ' H' → D.nx σ' H') (ht : b = true → ∀ N : L2.St → Hp → Prop, (∀ σ' H', I σ' H' → N σ' H') → t { D with nx := N } σ H) (hf : b = false → I σ H) : if b = true then t D σ H else tNext D σ H :=
  iteB (fun h => ht h D.nx hj) fun h => hj _ _ (hf h)
/-- .. with an else -/
theorem if_else (I : L2.St → Hp → Prop) (hj : ∀ σ' H', I σ' H' → D.nx σ' H') (ht : p → ∀ N : L2.St → Hp → Prop, (∀ σ' H', I σ' H' → N σ' H') → t { D with nx := N } σ H)
    (hf : ¬ p → ∀ N : L2.St → Hp → Prop, (∀ σ' H', I σ' H' → N σ' H') → u { D with nx := N } σ H) : if decide p = true then t D σ H else u D σ H :=
  iteD (fun h => ht h D.nx hj) fun h => hf h D.nx hj
theorem if_elseB {b : Bool} (I : L2.St → Hp → Prop) (hj : ∀ σ' H', I σ' H' → D.nx σ' H') (ht : b = true → ∀ N : L2.St → Hp → Prop, (∀ σ' H', I σ' H' → N σ' H') → t { D with nx := N } σ H)
    (hf : b = false → ∀ N : L2.St → Hp → Prop, (∀ σ' H', I σ' H' → N σ' H') → u { D with nx := N } σ H) : if b = true then t D σ H else u D σ H :=
  iteB (fun h => ht h D.nx hj) fun h => hf h D.nx hj
/-- a block cut behind a statement -/
theorem seq_join (I : L2.St → Hp → Prop) (ht : ∀ N : L2.St → Hp → Prop, (∀ σ' H', I σ' H' → N σ' H') → t { D with nx := N } σ H) (hu : ∀ σ' H', I σ' H' → u D σ' H') : tSeq t u D σ H := ht (u D) hu
end
/-! and, or as values, their ways joined: R holds of the value -/
section
variable {c : Bool} {tb : TE} {σ : L2.St} {H : Hp} {Q : VK}
theorem and_join (R : V → Hp → Prop) (hq : ∀ v H', R v H' → Q v H') (h1 : c = true → ∀ Q' : VK, (∀ v H', R v H' → Q' v H') → tb σ H Q') (h2 : c = false → R (.bl false) H) : if c = true then tb σ H Q else Q (.bl false) H :=
  iteB (fun h => h1 h Q hq) fun h => hq _ _ (h2 h)
theorem or_join (R : V → Hp → Prop) (hq : ∀ v H', R v H' → Q v H') (h1 : c = false → ∀ Q' : VK, (∀ v H', R v H' → Q' v H') → tb σ H Q') (h2 : c = true → R (.bl true) H) : if c = true then Q (.bl true) H else tb σ H Q :=
  iteB (fun h => hq _ _ (h2 h)) fun h => h1 h Q hq
end
/-! ### sizes -/
theorem sl_of {n : Nat} (h : n ≤ 16777216) : n ≤ sizeLine := by rw [sizeLine_eq]; exact h
theorem sl_lt {n : Nat} (h : n < 16777216) : n < sizeLine := by rw [sizeLine_eq]; exact h

/-! ### operators of this text -/
/-- * of ints that together have fewer than a hundred million bits -/
def CMulV (i j : Int) : Prop := i.natAbs.log2 + j.natAbs.log2 < 100000000
theorem CMulV.ok {i j : Int} (h : CMulV i j) : IntMulOk i j := by
  have b : ∀ x : Int, Builtin.Int.intBits x ≤ x.natAbs.log2 + 1 := fun x => by
    unfold Builtin.Int.intBits
    split <;> omega
  have h1 := b i
  have h2 := b j
  have h3 : i.natAbs.log2 + j.natAbs.log2 < 100000000 := h
  have e : bitsLine = 134217728 := by decide
  unfold IntMulOk
  intro z
  rw [Bool.and_eq_true] at z
  have z2 := z.2
  unfold Builtin.Int.intTooBig at z2
  have z3 := of_decide_eq_true z2
  rw [e] at z3
  omega
section
variable {X : Cx}
theorem op_mulV : OpR X (binaryOp .Mult) (rI CMulV fun i j => .int (i * j)) := opI fun _ _ _ _ _ _ _ hc q => mul_int q hc.ok
end
section
variable {X : Cx}
/-- a text times an int -/
theorem op_mulS : OpR X (binaryOp .Mult) (fun x y H Q => ∃ z i, x = .str z ∧ y = .int i ∧ PySem.MulOk z i ∧ Q (.str (Txt.mul z i)) H) := by
  intro pins s σ H x y v u Q I rx ry h
  obtain ⟨z, i, rfl, rfl, hz, q⟩ := h
  obtain ⟨t, rfl⟩ := rx
  obtain ⟨t', rfl⟩ := ry
  exact SB.mul hz fun t' k => ⟨.str (Txt.mul z i), H, I.tok _, ⟨_, rfl⟩, q⟩
end
/-- an int of at most n bits -/
def Bits (n : Nat) (i : Int) : Prop := i.natAbs < 2 ^ n
theorem Bits.log2 {n : Nat} {i : Int} (h : Bits n i) : i.natAbs.log2 ≤ n := by
  by_cases z : i.natAbs = 0
  · rw [z]; exact Nat.le_trans (by decide) (Nat.zero_le n)
  · exact Nat.le_of_lt ((Nat.log2_lt z).mpr h)
theorem Bits.mul {n m : Nat} {i j : Int} (a : Bits n i) (b : Bits m j) (h : n + m < 100000000) : CMulV i j := by
  have h1 := a.log2
  have h2 := b.log2
  unfold CMulV
  omega
theorem Bits.mono {n m : Nat} {i : Int} (a : Bits n i) (h : n ≤ m) : Bits m i := Nat.lt_of_lt_of_le a (Nat.pow_le_pow_right (by decide) h)
theorem Bits.prod {n m : Nat} {i j : Int} (a : Bits n i) (b : Bits m j) : Bits (n + m) (i * j) := by
  unfold Bits
  rw [Int.natAbs_mul, Nat.pow_add]
  exact Nat.mul_lt_mul'' a b
theorem Bits.add {n m : Nat} {i j : Int} (a : Bits n i) (b : Bits m j) : Bits (n + m + 1) (i + j) := by
  unfold Bits at *
  have h1 : 2 ^ n ≤ 2 ^ (n + m) := Nat.pow_le_pow_right (by decide) (by omega)
  have h2 : 2 ^ m ≤ 2 ^ (n + m) := Nat.pow_le_pow_right (by decide) (by omega)
  have h3 : 2 ^ (n + m + 1) = 2 ^ (n + m) * 2 := by rw [Nat.pow_succ]
  have h4 : (i + j).natAbs ≤ i.natAbs + j.natAbs := Int.natAbs_add_le i j
  omega
theorem ediv_natAbs_le (i : Int) {j : Int} (h : 0 < j) : (i / j).natAbs ≤ i.natAbs := by
  have e := Int.mul_ediv_add_emod i j
  have e1 := Int.emod_nonneg i (show j ≠ 0 by omega)
  have e2 := Int.emod_lt_of_pos i h
  by_cases h0 : 0 ≤ i
  · have z1 : 0 ≤ i / j := Int.ediv_nonneg h0 (by omega)
    have z2 : i / j ≤ i := Int.ediv_le_self j h0
    omega
  · have z1 : i / j < 0 := Int.ediv_neg_of_neg_of_pos (by omega) h
    have h5 : (j - 1) * (i / j + 1) ≤ 0 := Int.mul_nonpos_of_nonneg_of_nonpos (by omega) (by omega)
    have h6 : (j - 1) * (i / j + 1) = j * (i / j) + j - i / j - 1 := by rw [Int.sub_mul, Int.mul_add, Int.mul_one, Int.one_mul]; omega
    omega
theorem Bits.div {n : Nat} {i j : Int} (a : Bits n i) (h : 0 < j) : Bits n (i / j) := Nat.lt_of_le_of_lt (ediv_natAbs_le i h) a
theorem Bits.of {n : Nat} {i : Int} (h1 : -(2 ^ n : Int) < i) (h2 : i < 2 ^ n) : Bits n i := by
  unfold Bits
  have e : ((2 ^ n : Nat) : Int) = (2 : Int) ^ n := by simp
  omega
theorem Bits.small {i : Int} (h1 : -1000000000000 < i) (h2 : i < 1000000000000) : Bits 40 i := by
  unfold Bits
  omega

/-! ### walks over known items -/
section
variable {K : PySem.W.Frag} {a d : Addr} {xs : List V} {o : Obj}
theorem wL : Walk (Itl K a) xs.length (fun H => SqL K H a xs) (YAt xs) := walk_list
theorem wT : Walk (Itt K a) xs.length (fun H => SqT K H a xs) (YAt xs) := walk_tup
theorem wR {lo : Int} {n : Nat} : Walk (Itr lo n) n (fun _ => True) (YAt ((List.range n).map fun i : Nat => V.int (lo + (i : Int)))) :=
  walk_range.mono (fun _ h => h) fun i H x H' hi _ y => ⟨y.1, by rw [y.2, List.getElem?_map, List.getElem?_range hi]; rfl⟩
theorem wS {z : Str} : Walk (Its z) z.cps.size (fun _ => True) (YAt (z.cps.toList.map fun c => V.str ⟨#[c]⟩)) :=
  walk_str.mono (fun _ h => h) fun i H x H' hi _ y => by
    obtain ⟨e, c, hc, rfl⟩ := y
    exact ⟨e, by rw [List.getElem?_map, Array.getElem?_toList, hc]; rfl⟩
theorem wK {kvs : List (Key × V)} : Walk (Itk d o kvs) kvs.length (fun H => H d = some (.frz o (.dK kvs))) (YAt (kvs.map fun kv => kV kv.1)) :=
  walk_keys.mono (fun _ h => h) fun i H x H' hi _ y => by
    obtain ⟨e, k, v, hk, rfl⟩ := y
    exact ⟨e, by rw [List.getElem?_map, hk]; rfl⟩
end
/-! ### comprehensions whose elements change nothing that stood -/
section
variable {J : It} {n : Nat} {G : Hp → Prop} {te : TE} {tt : TT} {vs : List Nat} {σ : L2.St} {H1 : Hp} {D : Addr} {Qd : Hp → Prop} {xs : List V} {j : Nat}
/-- the element by a test, both known -/
theorem lcF (w : Walk J n G (YAt xs)) (hx : xs.length = n) (hG : ∀ H', Same H1 H' → G H') (hD : H1 D = none) (p : V → Bool) (f : V → V) (hn : n ≤ 16777216) (hw : ∀ x, wipe ((wipe σ vs).set j (some x)) vs = wipe σ vs)
    (ht : ∀ x H, x ∈ xs → Same H1 H → ∀ Q2 : Bool → Hp → Prop, (∀ H', Same H H' → Q2 (p x) H') → tt ((wipe σ vs).set j (some x)) H Q2)
    (hs : ∀ x H, x ∈ xs → p x = true → Same H1 H → ∀ Q2 : VK, (∀ H', Same H H' → Q2 (f x) H') → te ((wipe σ vs).set j (some x)) H Q2)
    (hd : ∀ H', Same H1 H' → H' D = some (.lst ((xs.filter p).map f)) → Qd H') :
    ∃ W : Nat → Nat → Hp → Prop, (∃ m, W 0 m (upd H1 D (.lst []))) ∧ ∀ i m H, W i m H →
      (J.stop i H ∧ Qd H) ∨ (J.go i H ∧ ∃ Nx : Hp → Prop, (∀ H', Nx H' → ∃ m', m' < m ∧ W (i + 1) m' H') ∧ ∀ x H', J.yld i H x H' → gName j x (wipe σ vs) H' fun σ2 H2 => wipe σ2 vs = wipe σ vs ∧ tt σ2 H2 fun b H3 =>
        if b = true then te σ2 H3 fun y H4 => ∃ acc, H4 D = some (.lst acc) ∧ acc.length < sizeLine ∧ Nx (upd H4 D (.lst (acc ++ [y]))) else Nx H3) := by
  have tk : ∀ {i : Nat} {x : V}, xs[i]? = some x → xs.take (i + 1) = xs.take i ++ [x] := fun h => by rw [List.take_add_one, h]; rfl
  refine lc_it w (fun i H => Same H1 H ∧ H D = some (.lst (((xs.take i).filter p).map f))) ⟨Same.new hD, by rw [upd_same]; rfl⟩ (fun i H _ q => hG H q.1) ?_ ?_
  · rintro i x H H0 hi ⟨e, hacc⟩ ⟨rfl, hix⟩
    have hx' : x ∈ xs := List.mem_of_getElem? hix
    refine ⟨hw _, ?_⟩
    refine ht x _ hx' e _ fun H' e' => ?_
    refine iteB (fun hp => ?_) fun hp => ?_
    · refine hs x H' hx' hp (e.trans e') _ fun H2 e2 => ?_
      refine ⟨_, e2 _ _ (e' _ _ hacc), sl_lt ?_, Same.mut ((e.trans e').trans e2) hD, ?_⟩
      · have h1 := List.length_filter_le p (xs.take i)
        rw [List.length_map]
        rw [List.length_take] at h1
        omega
      · rw [upd_same, tk hix, List.filter_append, List.map_append]
        simp [hp]
    · refine ⟨e.trans e', ?_⟩
      rw [e' _ _ hacc, tk hix, List.filter_append, List.map_append]
      simp [hp]
  · rintro H ⟨e, hacc⟩
    rw [← hx, List.take_length] at hacc
    exact hd H e hacc
/-- no test, the element known -/
theorem lcM (w : Walk J n G (YAt xs)) (hx : xs.length = n) (hG : ∀ H', Same H1 H' → G H') (hD : H1 D = none) (f : V → V) (hn : n ≤ 16777216) (hw : ∀ x, wipe ((wipe σ vs).set j (some x)) vs = wipe σ vs)
    (hs : ∀ x H, x ∈ xs → Same H1 H → ∀ Q2 : VK, (∀ H', Same H H' → Q2 (f x) H') → te ((wipe σ vs).set j (some x)) H Q2)
    (hd : ∀ H', Same H1 H' → H' D = some (.lst (xs.map f)) → Qd H') :
    ∃ W : Nat → Nat → Hp → Prop, (∃ m, W 0 m (upd H1 D (.lst []))) ∧ ∀ i m H, W i m H →
      (J.stop i H ∧ Qd H) ∨ (J.go i H ∧ ∃ Nx : Hp → Prop, (∀ H', Nx H' → ∃ m', m' < m ∧ W (i + 1) m' H') ∧ ∀ x H', J.yld i H x H' → gName j x (wipe σ vs) H' fun σ2 H2 => wipe σ2 vs = wipe σ vs ∧ tYes σ2 H2 fun b H3 =>
        if b = true then te σ2 H3 fun y H4 => ∃ acc, H4 D = some (.lst acc) ∧ acc.length < sizeLine ∧ Nx (upd H4 D (.lst (acc ++ [y]))) else Nx H3) :=
  lcF w hx hG hD (fun _ => true) f hn hw (fun x H _ _ Q2 q => q H (Same.refl H)) (fun x H h _ => hs x H h) fun H' e h => hd H' e (by rw [h, List.filter_eq_self.mpr fun _ _ => rfl])
/-- no test, of the element at turn i a fact is told -/
theorem lcP (w : Walk J n G (YAt xs)) (hx : xs.length = n) (hG : ∀ H', Same H1 H' → G H') (hD : H1 D = none) (P : V → V → Prop) (hn : n ≤ 16777216) (hw : ∀ x, wipe ((wipe σ vs).set j (some x)) vs = wipe σ vs)
    (hs : ∀ x H, x ∈ xs → Same H1 H → ∀ Q2 : VK, (∀ y H', Same H H' → P x y → Q2 y H') → te ((wipe σ vs).set j (some x)) H Q2)
    (hd : ∀ ys H', Paired P xs ys → Same H1 H' → H' D = some (.lst ys) → Qd H') :
    ∃ W : Nat → Nat → Hp → Prop, (∃ m, W 0 m (upd H1 D (.lst []))) ∧ ∀ i m H, W i m H →
      (J.stop i H ∧ Qd H) ∨ (J.go i H ∧ ∃ Nx : Hp → Prop, (∀ H', Nx H' → ∃ m', m' < m ∧ W (i + 1) m' H') ∧ ∀ x H', J.yld i H x H' → gName j x (wipe σ vs) H' fun σ2 H2 => wipe σ2 vs = wipe σ vs ∧ tYes σ2 H2 fun b H3 =>
        if b = true then te σ2 H3 fun y H4 => ∃ acc, H4 D = some (.lst acc) ∧ acc.length < sizeLine ∧ Nx (upd H4 D (.lst (acc ++ [y]))) else Nx H3) := by
  have tk : ∀ {i : Nat} {x : V}, xs[i]? = some x → xs.take (i + 1) = xs.take i ++ [x] := fun h => by rw [List.take_add_one, h]; rfl
  have pa : ∀ {as bs : List V} {x y : V}, Paired P as bs → P x y → Paired P (as ++ [x]) (bs ++ [y]) := fun {as bs x y} h hp => by
    induction h with
    | nil => exact .cons hp .nil
    | cons a t ih => exact .cons a ih
  refine lc_it w (fun i H => Same H1 H ∧ ∃ ys, H D = some (.lst ys) ∧ Paired P (xs.take i) ys) ⟨Same.new hD, [], upd_same, .nil⟩ (fun i H _ q => hG H q.1) ?_ ?_
  · rintro i x H H0 hi ⟨e, ys, hacc, hp⟩ ⟨rfl, hix⟩
    have hx' : x ∈ xs := List.mem_of_getElem? hix
    refine ⟨hw _, ?_⟩
    show te _ _ _
    refine hs x _ hx' e _ fun y H' e' py => ?_
    have hl : ys.length ≤ i := by
      rw [← hp.length, List.length_take]; omega
    exact ⟨ys, e' _ _ hacc, sl_lt (by omega), Same.mut (e.trans e') hD, ys ++ [y], upd_same, by rw [tk hix]; exact pa hp py⟩
  · rintro H ⟨e, ys, hacc, hp⟩
    rw [← hx, List.take_length] at hp
    exact hd ys H hp e hacc
end
/-- a module's constant -/
theorem pe_globI {X : Cx} {x : Str} {pos : Pos} {i : Int} (hg : Gl X x) (hm : ∃ t, X.mg x = some (.int i t)) (hdb : (x == ("__debug__" : Str)) = false := by decide +kernel) : PE X (.Name x pos) (tC (.int i)) := by
  obtain ⟨t, e⟩ := hm
  exact pe_glob (v := .int i) hg e ⟨t, rfl⟩ hdb
theorem pe_globS {X : Cx} {x z : Str} {pos : Pos} (hg : Gl X x) (hm : ∃ t, X.mg x = some (.str z t)) (hdb : (x == ("__debug__" : Str)) = false := by decide +kernel) : PE X (.Name x pos) (tC (.str z)) := by
  obtain ⟨t, e⟩ := hm
  exact pe_glob (v := .str z) hg e ⟨t, rfl⟩ hdb
/-- a reading in another writing -/
theorem PE.cv {X : Cx} {e : Expr} {t t' : TE} (h : PE X e t') (q : t' = t) : PE X e t := q ▸ h
theorem PG.cv {X : Cx} {e : Expr} {t t' : TG} (h : PG X e t') (q : t' = t) : PG X e t := q ▸ h
theorem PTs.cv {X : Cx} {e : List Expr} {t t' : TT} (h : PTs X e t') (q : t' = t) : PTs X e t := q ▸ h
theorem PSs.cv {X : Cx} {e : List Stmt} {t t' : TS} (h : PSs X e t') (q : t' = t) : PSs X e t := q ▸ h
/-- a promise by cases of how the thing stands -/
theorem PS.or {X : Cx} {st : Stmt} {t u : TS} (h : PS X st t) (h' : PS X st u) : PS X st (fun D σ H => t D σ H ∨ u D σ H) :=
  ⟨fun pins s σ H D I q => by
    rcases q with q | q
    · exact h.run pins s σ H D I q
    · exact h'.run pins s σ H D I q⟩
theorem PE.or {X : Cx} {e : Expr} {t u : TE} (h : PE X e t) (h' : PE X e u) : PE X e (fun σ H Q => t σ H Q ∨ u σ H Q) :=
  ⟨fun pins s σ H Q I q => by
    rcases q with q | q
    · exact h.run pins s σ H Q I q
    · exact h'.run pins s σ H Q I q⟩
end M

namespace M
open PySem PySem.Spec PyProof.Rows L2
/-! ### texts as lists of signs -/
abbrev cl (z : Str) : List Nat := z.cps.toList
theorem cl_inj {a b : Str} (h : cl a = cl b) : a = b := ext_toList h
/-- the text of one sign -/
def c1 (c : Nat) : Str := ⟨#[c]⟩
theorem cl_c1 (c : Nat) : cl (c1 c) = [c] := rfl
theorem cl_app (a b : Str) : cl (a ++ b) = cl a ++ cl b := by
  show (a.cps ++ b.cps).toList = _
  simp
theorem len_cl (z : Str) : z.length = (cl z).length := by
  show z.cps.size = _
  simp
theorem len_app (a b : Str) : (a ++ b).length = a.length + b.length := by
  rw [len_cl, cl_app, List.length_append, ← len_cl, ← len_cl]
theorem len_c1 (c : Nat) : (c1 c).length = 1 := rfl
/-- the signs of a part -/
def sgns : List Nat := cl "abcdefghijklmnopqrstuvwxyzABCDEFGHIJKLMNOPQRSTUVWXYZ0123456789.-_"
theorem sgns_len : sgns.length = 65 := by decide +kernel
/-- the script's cell -/
def cellZ (ns : List Int) (k : Int) : Int := if k < ns.length then ns.getD k.toNat 0 else 0
theorem cellZ_bits {ns : List Int} (h : ∀ z ∈ ns, Bits 1048576 z) (k : Int) : Bits 1048576 (cellZ ns k) := by
  have h0 : Bits 1048576 0 := by unfold Bits; exact Nat.two_pow_pos _
  unfold cellZ
  split
  · rw [List.getD_eq_getElem?_getD]
    cases e : ns[k.toNat]? with
    | none => exact h0
    | some v => exact h v (List.mem_of_getElem? e)
  · exact h0
theorem cell_at {ns : List Int} {k : Int} (h0 : 0 ≤ k) (h : k < ns.length) : atI (ns.map V.int) k = some (.int (cellZ ns k)) := by
  have e : k = ((k.toNat : Nat) : Int) := by omega
  have hl : k.toNat < ns.length := by omega
  have q : (ns.map V.int)[k.toNat]? = some (.int (cellZ ns k)) := by
    rw [List.getElem?_map, List.getElem?_eq_getElem hl]
    unfold cellZ
    rw [if_pos h, List.getD_eq_getElem?_getD, List.getElem?_eq_getElem hl]
    rfl
  have := atI_nat q
  rwa [← e] at this
theorem cell_none {ns : List Int} {k : Int} (h : ¬ k < ns.length) : cellZ ns k = 0 := if_neg h
/-- a sign of a written text at a place within -/
theorem at_in {xs : List Nat} {i : Int} (h0 : 0 ≤ i) (h : i < xs.length) : ∃ c, atI xs i = some c ∧ c ∈ xs := by
  have e : i = ((i.toNat : Nat) : Int) := by omega
  have hl : i.toNat < xs.length := by omega
  refine ⟨xs[i.toNat], ?_, List.getElem_mem _⟩
  have := atI_nat (List.getElem?_eq_getElem hl)
  rwa [← e] at this
theorem at_inV {xs : List V} {i : Int} (h0 : 0 ≤ i) (h : i < xs.length) : ∃ c, atI xs i = some c ∧ c ∈ xs := by
  have e : i = ((i.toNat : Nat) : Int) := by omega
  have hl : i.toNat < xs.length := by omega
  refine ⟨xs[i.toNat], ?_, List.getElem_mem _⟩
  have := atI_nat (List.getElem?_eq_getElem hl)
  rwa [← e] at this
theorem bits_of {ns : List Int} (h : ∀ z ∈ ns, Builtin.Int.intBits z ≤ 1048576) : ∀ z ∈ ns, Bits 1048576 z := fun z hz => by
  have q := h z hz
  unfold Builtin.Int.intBits at q
  unfold Bits
  split at q
  · rename_i h0
    have : z.natAbs = 0 := by simp_all
    rw [this]; exact Nat.two_pow_pos _
  · rename_i h0
    have h1 : z.natAbs ≠ 0 := by
      intro e; apply h0; simp_all
    exact (Nat.log2_lt h1).mp (by omega)
/-! ### values' functions -/
def fS (g : Str → V) : V → V | .str x => g x | _ => .non
def fI (g : Int → V) : V → V | .int x => g x | _ => .non
def pS (g : Str → Bool) : V → Bool | .str x => g x | _ => false
def pI (g : Int → Bool) : V → Bool | .int x => g x | _ => false
theorem fS_map (g : Str → V) (l : List Str) : (l.map V.str).map (fS g) = l.map g := by rw [List.map_map]; rfl
theorem fI_map (g : Int → V) (l : List Int) : (l.map V.int).map (fI g) = l.map g := by rw [List.map_map]; rfl
theorem pS_filter (g : Str → Bool) (l : List Str) : (l.map V.str).filter (pS g) = (l.filter g).map V.str := by rw [List.filter_map]; rfl
theorem pI_filter (g : Int → Bool) (l : List Int) : (l.map V.int).filter (pI g) = (l.filter g).map V.int := by rw [List.filter_map]; rfl
/-! ### slices -/
theorem sIx_of (n d : Nat) {i : Int} (h : 0 ≤ i) : HT.sIx n d (some i) = min i.toNat n := by
  have e : i = ((i.toNat : Nat) : Int) := by omega
  have := HT.sIx_nat n d i.toNat
  rwa [← e] at this
theorem cut_take (xs : List V) {i : Int} (h : 0 ≤ i) : cutV xs none (some i) = xs.take i.toNat := by
  show (xs.drop (HT.sIx xs.length 0 none)).take (HT.sIx xs.length xs.length (some i) - HT.sIx xs.length 0 none) = _
  rw [sIx_of _ _ h, HT.sIx_none, List.drop_zero, Nat.sub_zero]
  by_cases hl : i.toNat ≤ xs.length
  · rw [Nat.min_eq_left hl]
  · rw [Nat.min_eq_right (by omega), List.take_length, List.take_of_length_le (by omega)]
theorem cut_drop (xs : List V) {i : Int} (h : 0 ≤ i) : cutV xs (some i) none = xs.drop i.toNat := by
  show (xs.drop (HT.sIx xs.length 0 (some i))).take (HT.sIx xs.length xs.length none - HT.sIx xs.length 0 (some i)) = _
  rw [sIx_of _ _ h, HT.sIx_none]
  by_cases hl : i.toNat ≤ xs.length
  · rw [Nat.min_eq_left hl, List.take_of_length_le (by rw [List.length_drop]; exact Nat.le_refl _)]
  · rw [Nat.min_eq_right (by omega), List.drop_length, List.take_nil, List.drop_of_length_le (by omega)]
theorem cut_mid (xs : List V) {i j : Int} (h : 0 ≤ i) (h2 : i ≤ j) : cutV xs (some i) (some j) = (xs.drop i.toNat).take (j.toNat - i.toNat) := by
  show (xs.drop (HT.sIx xs.length 0 (some i))).take (HT.sIx xs.length xs.length (some j) - HT.sIx xs.length 0 (some i)) = _
  rw [sIx_of _ _ h, sIx_of _ _ (show 0 ≤ j by omega)]
  by_cases hl : i.toNat ≤ xs.length
  · rw [Nat.min_eq_left hl]
    by_cases hj : j.toNat ≤ xs.length
    · rw [Nat.min_eq_left hj]
    · rw [show min j.toNat xs.length = xs.length by omega, List.take_of_length_le (by rw [List.length_drop]; exact Nat.le_refl _), List.take_of_length_le (by rw [List.length_drop]; omega)]
  · rw [show min j.toNat xs.length = xs.length by omega, show min i.toNat xs.length = xs.length by omega, List.drop_length, List.take_nil, List.drop_of_length_le (by omega), List.take_nil]
theorem cut_last (xs : List V) (h : 0 < xs.length) : cutV xs none (some (-1)) = xs.dropLast := by
  show (xs.drop (HT.sIx xs.length 0 none)).take (HT.sIx xs.length xs.length (some (-1)) - HT.sIx xs.length 0 none) = _
  have e : HT.sIx xs.length xs.length (some (-1)) = xs.length - 1 := by
    show (if (-1 : Int) < 0 then ((-1 : Int) + (xs.length : Int)).toNat else min (-1 : Int).toNat xs.length) = _
    rw [if_pos (by decide)]
    omega
  rw [HT.sIx_none, List.drop_zero, Nat.sub_zero, e, List.dropLast_eq_take]
/-! ### paths -/
def slash : Str := "/"
/-- a part of a path -/
def isPartB (p : Str) : Bool := if p = (".": Str) ∨ p = ("..": Str) then false else (decide (1 ≤ p.length) && decide (p.length ≤ 12)) && (cl p).all fun c => decide (c ∈ sgns)
def partsOf (z : Str) : List Str := Txt.split z slash
def isPathB (z : Str) : Bool := decide ((partsOf z).length ≤ 8) && (partsOf z).all isPartB
theorem part_no {z : Str} (h : z = (".": Str) ∨ z = ("..": Str)) : isPartB z = false := if_pos h
theorem part_yes {z : Str} (h1 : z ≠ (".": Str)) (h2 : z ≠ ("..": Str)) : isPartB z = ((decide (1 ≤ z.length) && decide (z.length ≤ 12)) && (cl z).all fun c => decide (c ∈ sgns)) := if_neg fun h => h.elim h1 h2
/-- the folders above -/
def aboveL (z : Str) : List Str := (List.range ((partsOf z).length - 1)).map fun i => Txt.join slash ((partsOf z).take (i + 1))
/-- l cut at each 47 -/
def cut47 : List Nat → List Nat → List (List Nat)
  | acc, [] => [acc]
  | acc, c :: r => if c = 47 then acc :: cut47 [] r else cut47 (acc ++ [c]) r
theorem spl_cut : ∀ (l acc : List Nat), TL.spl [47] 0 acc l = cut47 acc l
  | [], acc => rfl
  | c :: r, acc => by
    show (if TL.pre [47] (c :: r) = true then acc :: TL.spl [47] 0 [] r else TL.spl [47] 0 (acc ++ [c]) r) = (if c = 47 then acc :: cut47 [] r else cut47 (acc ++ [c]) r)
    have e : TL.pre [47] (c :: r) = decide (c = 47) := by
      show (([c] : List Nat) == [47]) = _
      by_cases h : c = 47
      · subst h; rfl
      · rw [decide_eq_false h]; simp [h]
    rw [e, spl_cut r, spl_cut r]
    by_cases h : c = 47
    · rw [if_pos (decide_eq_true h), if_pos h]
    · rw [if_neg (by rw [decide_eq_false h]; exact Bool.false_ne_true), if_neg h]
theorem slash_cl : cl slash = [47] := by decide +kernel
theorem parts_cut (z : Str) : (partsOf z).map cl = cut47 [] (cl z) := by
  have h := TL.split_spl z slash (by show cl slash ≠ []; rw [slash_cl]; simp) (TL.kind_ok (by decide +kernel))
  have h2 : (partsOf z).map cl = TL.spl (cl slash) 0 [] (cl z) := h
  rw [h2, slash_cl, spl_cut]
theorem cut_len : ∀ (l acc : List Nat) (p : List Nat), p ∈ cut47 acc l → p.length ≤ acc.length + l.length
  | [], acc, p, h => by
    have : p = acc := by simpa [cut47] using h
    subst this; simp
  | c :: r, acc, p, h => by
    unfold cut47 at h
    split at h
    · rcases List.mem_cons.mp h with h | h
      · subst h; simp
      · have := cut_len r [] p h
        simp at this ⊢; omega
    · have := cut_len r (acc ++ [c]) p h
      simp at this ⊢; omega
theorem cut_many : ∀ (l acc : List Nat), (cut47 acc l).length ≤ l.length + 1
  | [], acc => by simp [cut47]
  | c :: r, acc => by
    unfold cut47
    split
    · have := cut_many r []
      simp; omega
    · have := cut_many r (acc ++ [c])
      simp; omega
theorem parts_many (z : Str) : (partsOf z).length ≤ z.length + 1 := by
  have h := cut_many (cl z) []
  rw [← parts_cut, List.length_map, ← len_cl] at h
  exact h
theorem parts_len {z p : Str} (h : p ∈ partsOf z) : p.length ≤ z.length := by
  have h1 : cl p ∈ cut47 [] (cl z) := by rw [← parts_cut]; exact List.mem_map.mpr ⟨p, h, rfl⟩
  have h2 := cut_len _ _ _ h1
  rw [← len_cl, ← len_cl] at h2
  simpa using h2
theorem cut_sum : ∀ (l acc : List Nat), ((cut47 acc l).map List.length).sum + (cut47 acc l).length = acc.length + l.length + 1
  | [], acc => by simp [cut47]
  | c :: r, acc => by
    unfold cut47
    split
    · have := cut_sum r []
      simp at this ⊢; omega
    · have := cut_sum r (acc ++ [c])
      simp at this ⊢; omega
theorem parts_sum (z : Str) : ((partsOf z).map Str.length).sum + (partsOf z).length = z.length + 1 := by
  have h := cut_sum (cl z) []
  rw [← parts_cut, List.length_map, ← len_cl, List.map_map] at h
  have e : (partsOf z).map Str.length = (partsOf z).map (List.length ∘ cl) := List.map_congr_left fun p _ => len_cl p
  rw [e]
  simpa using h
theorem sum_take_le (l : List Nat) : ∀ n, (l.take n).sum ≤ l.sum := fun n => by
  have h := List.take_append_drop n l
  have h2 : l.sum = (l.take n).sum + (l.drop n).sum := by rw [← List.sum_append, h]
  omega
theorem parts_take_sum (z : Str) (n : Nat) : (((partsOf z).take n).map fun x => x.length).sum + ((partsOf z).take n).length * slash.length ≤ z.length + 1 := by
  have h1 := parts_sum z
  have h2 := sum_take_le ((partsOf z).map Str.length) n
  rw [← List.map_take] at h2
  have h3 : ((partsOf z).take n).length ≤ (partsOf z).length := by rw [List.length_take]; omega
  have h4 : slash.length = 1 := by decide +kernel
  have h5 : (((partsOf z).take n).map fun x => x.length).sum = (((partsOf z).take n).map Str.length).sum := rfl
  rw [h4, h5]; omega
/-- the values of a list of texts -/
theorem map_strs (l : List Str) (g : Str → Bool) (f : V → V) (h : ∀ z ∈ l, f (.str z) = .bl (g z)) : (l.map V.str).map f = (l.map g).map V.bl := by
  rw [List.map_map, List.map_map]
  exact List.map_congr_left h
/-! ### texts made sign by sign -/
theorem signs_of {R : Nat → Prop} : ∀ {xs ys : List V}, Paired (fun _ y => ∃ c, y = V.str (c1 c) ∧ R c) xs ys → ∃ zs : List Nat, ys = (zs.map c1).map V.str ∧ zs.length = xs.length ∧ ∀ c ∈ zs, R c
  | _, _, .nil => ⟨[], rfl, rfl, fun _ h => absurd h (by simp)⟩
  | _, _, .cons h t => by
    obtain ⟨c, rfl, hc⟩ := h
    obtain ⟨zs, rfl, hl, hz⟩ := signs_of t
    refine ⟨c :: zs, rfl, by simp [hl], fun d hd => ?_⟩
    rcases List.mem_cons.mp hd with e | e
    · subst e; exact hc
    · exact hz d e
theorem strs_of {R : V → Str → Prop} : ∀ {xs ys : List V}, Paired (fun x y => ∃ c, y = V.str c ∧ R x c) xs ys → ∃ zs : List Str, ys = zs.map V.str ∧ zs.length = xs.length ∧ Paired R xs zs
  | _, _, .nil => ⟨[], rfl, rfl, .nil⟩
  | _, _, .cons h t => by
    obtain ⟨c, rfl, hc⟩ := h
    obtain ⟨zs, rfl, hl, hz⟩ := strs_of t
    exact ⟨c :: zs, rfl, by simp [hl], .cons hc hz⟩
theorem joinL_nil : ∀ l : List (List Nat), TL.joinL [] l = l.flatten
  | [] => rfl
  | [p] => by simp [TL.joinL]
  | p :: q :: r => by
    show p ++ ([] ++ TL.joinL [] (q :: r)) = _
    rw [joinL_nil (q :: r)]
    simp
theorem cl_join (y : Str) (parts : List Str) : cl (Txt.join y parts) = TL.joinL (cl y) (parts.map cl) := by
  rw [TL.join_eq]
  exact TL.tl_join y parts
theorem cl_empty : cl ("" : Str) = [] := by decide +kernel
theorem cl_glue (parts : List Str) : cl (Txt.join "" parts) = (parts.map cl).flatten := by
  rw [cl_join, cl_empty, joinL_nil]
theorem cl_signs (zs : List Nat) : cl (Txt.join "" (zs.map c1)) = zs := by
  rw [cl_glue, List.map_map]
  induction zs with
  | nil => rfl
  | cons a r ih =>
    rw [List.map_cons, List.flatten_cons, ih]
    rfl
theorem sum_signs (zs : List Nat) : ((zs.map c1).map fun x => x.length).sum = zs.length := by
  induction zs with
  | nil => rfl
  | cons a r ih =>
    rw [List.map_cons, List.map_cons, List.sum_cons, ih, List.length_cons]
    have : (c1 a).length = 1 := rfl
    omega
theorem join_room (zs : List Nat) (h : zs.length ≤ 16777000) : ((zs.map c1).map fun x => x.length).sum + (zs.map c1).length * ("" : Str).length ≤ 16777216 := by
  have e : ("" : Str).length = 0 := by decide +kernel
  rw [sum_signs, e]
  omega
/-- * of an int -/
theorem mulOk_small {z : Str} {i : Int} (h1 : 0 ≤ i) (h2 : i < 1000) (h3 : z.length ≤ 1000) : PySem.MulOk z i := by
  have l : z.length * i.toNat ≤ 1000 * 1000 := Nat.mul_le_mul h3 (by omega)
  refine ⟨?_, fun h _ => ?_, fun _ _ => ?_⟩
  · rw [decide_eq_false (by omega), decide_eq_false (by omega)]; rfl
  · have q : (1000 : Int) ≤ (2 ^ 63 - 1) / i := by
      rw [Int.le_ediv_iff_mul_le (by omega)]
      omega
    omega
  · show decide (z.length * i.toNat > sizeLine) = false
    rw [sizeLine_eq]
    exact decide_eq_false (by omega)
/-! ### places in lists -/
theorem ixN_in {n : Nat} {i : Int} (h0 : 0 ≤ i) (h : i < n) : ixN n i = some i.toNat := by
  unfold ixN
  rw [if_pos h0, if_pos h]
theorem at_strs {zs : List Str} {i : Int} (h0 : 0 ≤ i) (h : i < zs.length) : ∃ z, atI (zs.map V.str) i = some (.str z) ∧ z ∈ zs ∧ zs[i.toNat]? = some z := by
  have e : i = ((i.toNat : Nat) : Int) := by omega
  have hl : i.toNat < zs.length := by omega
  have q : (zs.map V.str)[i.toNat]? = some (.str zs[i.toNat]) := by rw [List.getElem?_map, List.getElem?_eq_getElem hl]; rfl
  have := atI_nat q
  rw [← e] at this
  exact ⟨zs[i.toNat], this, List.getElem_mem _, List.getElem?_eq_getElem hl⟩
theorem map_set {α β : Type} (f : α → β) : ∀ (l : List α) (i : Nat) (a : α), (l.set i a).map f = (l.map f).set i (f a)
  | [], _, _ => rfl
  | _ :: _, 0, _ => rfl
  | _ :: r, i + 1, a => congrArg _ (map_set f r i a)
theorem mem_set {α : Type} {l : List α} {i : Nat} {a b : α} (h : b ∈ l.set i a) : b = a ∨ b ∈ l := by
  rcases List.mem_or_eq_of_mem_set h with h | h
  · exact .inr h
  · exact .inl h
theorem join_len (zs : List Str) : (Txt.join slash zs).length ≤ (zs.map fun x => x.length).sum + zs.length * slash.length := by
  have h4 : slash.length = 1 := by decide +kernel
  rw [len_cl, cl_join, slash_cl, h4]
  have h : ∀ l : List Str, (TL.joinL [47] (l.map cl)).length ≤ (l.map fun x => x.length).sum + l.length * 1 := fun l => by
    induction l with
    | nil => simp [TL.joinL]
    | cons x r ih =>
      have ex := len_cl x
      cases r with
      | nil =>
        show (cl x).length ≤ (x.length + 0) + 1 * 1
        omega
      | cons y s =>
        show (cl x ++ ([47] ++ TL.joinL [47] ((y :: s).map cl))).length ≤ (x.length + ((y :: s).map fun x => x.length).sum) + ((y :: s).length + 1) * 1
        rw [List.length_append, List.length_append, ← ex]
        simp only [List.length_cons, List.length_nil] at ih ⊢
        omega
  exact h zs
theorem ixN_last {n : Nat} (h : 0 < n) : ixN n (-1) = some (n - 1) := by
  unfold ixN
  rw [if_neg (by decide), if_pos (by omega)]
  congr 1
  omega
theorem set_last {α : Type} (l : List α) (x y : α) {n : Nat} (h : n = l.length) : (l ++ [x]).set n y = l ++ [y] := by
  subst h
  induction l with
  | nil => rfl
  | cons a r ih => exact congrArg (a :: ·) ih
/-- isinstance's wants of the built-in kinds -/
theorem isB {K : PySem.W.Frag} {H : Hp} {b : Bool} {Q : VK} (q : Q (.bl true) H) : rIsi K [.bl b, .ty "bool"] H Q := ⟨_, _, _, _, _, rfl, .ty _, .base (.bl b), kit_ty (by decide +kernel), q⟩
theorem isL {K : PySem.W.Frag} {H : Hp} {p : Addr} {xs : List V} {Q : VK} (h : H p = some (.lst xs)) (q : Q (.bl true) H) : rIsi K [.ref p, .ty "list"] H Q := ⟨_, _, _, _, _, rfl, .ty _, .base (.lst h), kit_ty (by decide +kernel), q⟩
theorem isS {K : PySem.W.Frag} {H : Hp} {z : Str} {Q : VK} (q : Q (.bl true) H) : rIsi K [.str z, .ty "str"] H Q := ⟨_, _, _, _, _, rfl, .ty _, .base (.str z), kit_ty (by decide +kernel), q⟩
theorem isT {K : PySem.W.Frag} {H : Hp} {p : Addr} {xs : List V} {Q : VK} (h : H p = some (.tup xs)) (q : Q (.bl true) H) : rIsi K [.ref p, .ty "tuple"] H Q := ⟨_, _, _, _, _, rfl, .ty _, .base (.tup h), kit_ty (by decide +kernel), q⟩
theorem isD {K : PySem.W.Frag} {H : Hp} {p : Addr} {xs : List (Key × V)} {Q : VK} (h : H p = some (.dK xs)) (q : Q (.bl true) H) : rIsi K [.ref p, .ty "dict"] H Q := ⟨_, _, _, _, _, rfl, .ty _, .base (.dK h), kit_ty (by decide +kernel), q⟩
theorem isI {K : PySem.W.Frag} {H : Hp} {i : Int} {Q : VK} (q : Q (.bl true) H) : rIsi K [.int i, .ty "int"] H Q := ⟨_, _, _, _, _, rfl, .ty _, .base (.int i), kit_ty (by decide +kernel), q⟩
theorem isIB {K : PySem.W.Frag} {H : Hp} {i : Int} {Q : VK} (q : Q (.bl false) H) : rIsi K [.int i, .ty "bool"] H Q := ⟨_, _, _, _, _, rfl, .ty _, .base (.int i), kit_ty (by decide +kernel), q⟩
end M

namespace M
open PySem PySem.Spec PyProof.Rows L2
/-! ### what lies beneath what -/
/-- q lies beneath p, as the program asks it -/
def beneathB (q p : Str) : Bool := Txt.startswith q (p ++ slash)
theorem cl_slash (p : Str) : cl (p ++ slash) = cl p ++ [47] := by rw [cl_app, slash_cl]
theorem beneath_iff (q p : Str) : beneathB q p = true ↔ ∃ r, cl q = cl p ++ 47 :: r := by
  have hy : TL.tl (p ++ slash) ≠ [] := by
    show cl (p ++ slash) ≠ []
    rw [cl_slash]; simp
  have h1 : beneathB q p = true ↔ TL.pre (cl (p ++ slash)) (cl q) = true := by
    have h := TL.at_iff (x := q) (y := p ++ slash) hy 0
    rw [List.drop_zero] at h
    rw [← show TL.tl (p ++ slash) = cl (p ++ slash) from rfl, ← show TL.tl q = cl q from rfl, ← h]
    show (decide (0 + (p ++ slash).length ≤ q.length) && _) = true ↔ (_ ∧ _)
    rw [Bool.and_eq_true, decide_eq_true_eq]
  rw [h1, cl_slash]
  show ((cl q).take (cl p ++ [47]).length == cl p ++ [47]) = true ↔ _
  rw [beq_iff_eq]
  constructor
  · intro h
    refine ⟨(cl q).drop (cl p ++ [47]).length, ?_⟩
    have e := List.take_append_drop (cl p ++ [47]).length (cl q)
    rw [h] at e
    generalize (cl q).drop (cl p ++ [47]).length = d at e
    rw [← e]; simp
  · rintro ⟨r, h⟩
    have e : cl q = (cl p ++ [47]) ++ r := by rw [h]; simp
    rw [e, List.take_left]
theorem cut_app : ∀ (x acc r : List Nat), cut47 acc (x ++ 47 :: r) = cut47 acc x ++ cut47 [] r
  | [], acc, r => by simp [cut47]
  | c :: x, acc, r => by
    show (if c = 47 then acc :: cut47 [] (x ++ 47 :: r) else cut47 (acc ++ [c]) (x ++ 47 :: r)) = (if c = 47 then acc :: cut47 [] x else cut47 (acc ++ [c]) x) ++ cut47 [] r
    split
    · rw [cut_app x [] r]; rfl
    · rw [cut_app x (acc ++ [c]) r]
theorem cut_ne (l acc : List Nat) : cut47 acc l ≠ [] := by
  cases l with
  | nil => simp [cut47]
  | cons c r =>
    unfold cut47
    split
    · simp
    · exact cut_ne r _
theorem joinL_app : ∀ (X Y : List (List Nat)), X ≠ [] → Y ≠ [] → TL.joinL [47] (X ++ Y) = TL.joinL [47] X ++ 47 :: TL.joinL [47] Y
  | [], _, h, _ => absurd rfl h
  | [x], [], _, h => absurd rfl h
  | [x], y :: Y, _, _ => by simp [TL.joinL]
  | x :: y :: X, Y, _, hY => by
    have ih := joinL_app (y :: X) Y (by simp) hY
    show x ++ ([47] ++ TL.joinL [47] (y :: X ++ Y)) = (x ++ ([47] ++ TL.joinL [47] (y :: X))) ++ _
    rw [ih]; simp
theorem joinL_cut : ∀ (l acc : List Nat), TL.joinL [47] (cut47 acc l) = acc ++ l
  | [], acc => by simp [cut47, TL.joinL]
  | c :: r, acc => by
    unfold cut47
    split
    · rename_i h
      subst h
      have := joinL_app [acc] (cut47 [] r) (by simp) (cut_ne _ _)
      rw [show acc :: cut47 [] r = [acc] ++ cut47 [] r from rfl, this, joinL_cut r []]
      simp [TL.joinL]
    · rw [joinL_cut r]; simp
theorem join_parts (z : Str) : Txt.join slash (partsOf z) = z := by
  refine cl_inj ?_
  rw [cl_join, slash_cl, parts_cut, joinL_cut]
  rfl
theorem cl_joinS (ps : List Str) : cl (Txt.join slash ps) = TL.joinL [47] (ps.map cl) := by rw [cl_join, slash_cl]
theorem parts_pos (z : Str) : 0 < (partsOf z).length := by
  have := cut_ne (cl z) []
  rw [← parts_cut] at this
  rcases h : partsOf z with _ | ⟨a, r⟩
  · rw [h] at this; simp at this
  · simp
theorem cl_mapInj : ∀ {a b : List Str}, a.map cl = b.map cl → a = b
  | [], [], _ => rfl
  | [], _ :: _, h => by simp at h
  | _ :: _, [], h => by simp at h
  | x :: a, y :: b, h => by
    rw [List.map_cons, List.map_cons] at h
    injection h with h1 h2
    rw [cl_inj h1, cl_mapInj h2]
theorem mem_above (q p : Str) : p ∈ aboveL q ↔ beneathB q p = true := by
  rw [beneath_iff]
  unfold aboveL
  constructor
  · intro h
    obtain ⟨i, hi, rfl⟩ := List.mem_map.mp h
    have hi := List.mem_range.mp hi
    refine ⟨TL.joinL [47] (((partsOf q).drop (i + 1)).map cl), ?_⟩
    rw [cl_joinS]
    have e : cl q = TL.joinL [47] (((partsOf q).take (i + 1)).map cl ++ ((partsOf q).drop (i + 1)).map cl) := by
      rw [← List.map_append, List.take_append_drop, ← cl_joinS, join_parts]
    rw [e, joinL_app]
    · intro z
      have := congrArg List.length z
      rw [List.length_map, List.length_take, List.length_nil] at this
      omega
    · intro z
      have := congrArg List.length z
      rw [List.length_map, List.length_drop] at this
      simp at this; omega
  · rintro ⟨r, h⟩
    have hp := parts_pos p
    have e : (partsOf q).map cl = (partsOf p).map cl ++ cut47 [] r := by rw [parts_cut, h, cut_app, ← parts_cut]
    have hl := congrArg List.length e
    rw [List.length_map, List.length_append, List.length_map] at hl
    have hc : 0 < (cut47 [] r).length := List.length_pos_iff.mpr (cut_ne _ _)
    have et : (partsOf q).take (partsOf p).length = partsOf p := by
      refine cl_mapInj ?_
      rw [List.map_take, e, List.take_left' (by rw [List.length_map])]
    refine List.mem_map.mpr ⟨(partsOf p).length - 1, List.mem_range.mpr (by omega), ?_⟩
    rw [show (partsOf p).length - 1 + 1 = (partsOf p).length by omega, et, join_parts]
/-- parts without a stroke, joined and cut again -/
theorem cut_free : ∀ (l acc : List Nat), 47 ∉ l → cut47 acc l = [acc ++ l]
  | [], acc, _ => by simp [cut47]
  | c :: r, acc, h => by
    have hc : c ≠ 47 := fun e => h (by rw [e]; exact List.mem_cons_self)
    unfold cut47
    rw [if_neg hc, cut_free r _ fun hm => h (List.mem_cons_of_mem _ hm)]
    simp
theorem cut_joinL : ∀ (X : List (List Nat)), X ≠ [] → (∀ x ∈ X, 47 ∉ x) → cut47 [] (TL.joinL [47] X) = X
  | [], h, _ => absurd rfl h
  | [x], _, h => by
    show cut47 [] x = [x]
    rw [cut_free x [] (h x List.mem_cons_self)]; rfl
  | x :: y :: X, _, h => by
    show cut47 [] (x ++ 47 :: TL.joinL [47] (y :: X)) = _
    rw [cut_app, cut_free x [] (h x List.mem_cons_self), cut_joinL (y :: X) (by simp) fun z hz => h z (List.mem_cons_of_mem _ hz)]
    rfl
theorem parts_join {ps : List Str} (hne : ps ≠ []) (h : ∀ p ∈ ps, 47 ∉ cl p) : partsOf (Txt.join slash ps) = ps := by
  refine cl_mapInj ?_
  rw [parts_cut, cl_joinS]
  refine cut_joinL _ (fun e => hne (List.map_eq_nil_iff.mp e)) fun x hx => ?_
  obtain ⟨p, hp, rfl⟩ := List.mem_map.mp hx
  exact h p hp
/-- one lies beneath the other just where its parts begin so -/
theorem beneath_join {A B : List Str} (hA : A ≠ []) (hB : B ≠ []) (fA : ∀ p ∈ A, 47 ∉ cl p) (fB : ∀ p ∈ B, 47 ∉ cl p) :
    beneathB (Txt.join slash B) (Txt.join slash A) = decide (A.length < B.length ∧ B.take A.length = A) := by
  rw [Bool.eq_iff_iff, beneath_iff, decide_eq_true_eq]
  constructor
  · rintro ⟨r, h⟩
    have e : B.map cl = A.map cl ++ cut47 [] r := by
      have h1 := parts_cut (Txt.join slash B)
      rw [h, cut_app, ← parts_cut, parts_join hA fA, parts_join hB fB] at h1
      exact h1
    have hl := congrArg List.length e
    rw [List.length_map, List.length_append, List.length_map] at hl
    have hc : 0 < (cut47 [] r).length := List.length_pos_iff.mpr (cut_ne _ _)
    refine ⟨by omega, cl_mapInj ?_⟩
    rw [List.map_take, e, List.take_left' (by rw [List.length_map])]
  · rintro ⟨hl, ht⟩
    refine ⟨TL.joinL [47] ((B.drop A.length).map cl), ?_⟩
    have e : B.map cl = A.map cl ++ (B.drop A.length).map cl := by
      rw [← List.map_append]
      congr 1
      conv => lhs; rw [← List.take_append_drop A.length B]
      rw [ht]
    rw [cl_joinS, cl_joinS, e, joinL_app]
    · intro z; exact hA (List.map_eq_nil_iff.mp z)
    · intro z
      have := congrArg List.length z
      rw [List.length_map, List.length_drop] at this
      simp at this; omega
theorem sgns_no47 : 47 ∉ sgns := by decide +kernel
/-! ### lists of texts -/
theorem strs_all {R : Str → Prop} : ∀ {xs ys : List V}, Paired (fun _ y => ∃ c, y = V.str c ∧ R c) xs ys → ∃ zs : List Str, ys = zs.map V.str ∧ zs.length = xs.length ∧ ∀ z ∈ zs, R z
  | _, _, .nil => ⟨[], rfl, rfl, fun _ h => absurd h (by simp)⟩
  | _, _, .cons h t => by
    obtain ⟨c, rfl, hc⟩ := h
    obtain ⟨zs, rfl, hl, hz⟩ := strs_all t
    refine ⟨c :: zs, rfl, by simp [hl], fun d hd => ?_⟩
    rcases List.mem_cons.mp hd with e | e
    · subst e; exact hc
    · exact hz d e
theorem eqV_strs (a b : Str) : eqV (.str a) (.str b) = decide (b = a) := by
  show (a == b) = _
  by_cases h : b = a
  · subst h; simp
  · rw [decide_eq_false h]; exact beq_eq_false_iff_ne.mpr fun q => h q.symm
theorem inV_strs (z : Str) (l : List Str) : inV (.str z) (l.map V.str) = decide (z ∈ l) := by
  show ((l.map V.str).any fun y => eqV y (.str z)) = _
  rw [List.any_map, Bool.eq_iff_iff, List.any_eq_true, decide_eq_true_eq]
  constructor
  · rintro ⟨y, hy, e⟩
    have e : eqV (.str y) (.str z) = true := e
    rw [eqV_strs] at e
    have := of_decide_eq_true e
    subst this; exact hy
  · intro h
    exact ⟨z, h, by show eqV (.str z) (.str z) = true; rw [eqV_strs]; simp⟩
theorem flat_strs (l : List Str) : (l.map V.str).all flatV = true := List.all_eq_true.mpr fun v hv => by
  obtain ⟨z, _, rfl⟩ := List.mem_map.mp hv
  rfl
theorem cutS_sub {z : Str} {lo hi : Option Int} {c : Nat} (h : c ∈ cl (cutS z lo hi)) : c ∈ cl z := by
  have h : c ∈ ((z.cps.toList.drop (HT.sIx z.length 0 lo)).take (HT.sIx z.length z.length hi - HT.sIx z.length 0 lo)) := by simpa [cutS] using h
  exact List.mem_of_mem_drop (List.mem_of_mem_take h)
theorem sum_le {l : List Str} {b : Nat} (h : ∀ z ∈ l, z.length ≤ b) : (l.map fun x => x.length).sum ≤ b * l.length := by
  induction l with
  | nil => simp
  | cons y r ih =>
    have := ih fun z hz => h z (List.mem_cons_of_mem _ hz)
    have := h y List.mem_cons_self
    rw [List.map_cons, List.sum_cons, List.length_cons, Nat.mul_add]; omega
theorem inV_above (p q : Str) : inV (.str p) ((aboveL q).map V.str) = beneathB q p := by
  rw [inV_strs, Bool.eq_iff_iff, decide_eq_true_eq, mem_above]
theorem slash_len : slash.length = 1 := by decide +kernel
end M

/-! ### == and != of things that are equal: lists, tuples, dicts, nested -/
namespace PySem.SeqAt
open AutoSeq1 (wpAny_loadPart')
open MeetsSeq MeetsSeq2 MeetsSeq3
section
variable {prog : Program} {w : World}
theorem m_tupEq (l b : Addr) (items items2 : Array Value) (n n2 : Nat) (dd dd2 : Option Addr) (sl sl2 : Array (Option Value)) (e : Nat → Bool) :
    MeetsIn prog w (Builtin.«tuple.__eq__» ⟨[.ref l, .ref b], []⟩)
      (fun A R s => s.heap.get? l = some { cls := .type "tuple", dict := dd, data := .seq items n, slots := sl } ∧ s.heap.get? b = some { cls := .type "tuple", dict := dd2, data := .seq items2 n2, slots := sl2 } ∧
        (∀ j (h1 : j < items.size) (h2 : j < items2.size), EqP prog w A.in1 s items[j] items2[j] (e j)) ∧
        R (.ok (.ret (.bool ((List.range (min items.size items2.size)).all e && items.size == items2.size)))) s) := by
  intro A R s h
  obtain ⟨hp, g, d, tk, os⟩ := s; obtain ⟨hl, hb, he, h⟩ := h
  have f2 := AutoSeq1.sub_tuple_tuple
  have hZ : (items.toList.zip items2.toList).length = min items.size items2.size := by simp
  wp_walk using wpAny_loadPart' hl, wpAny_loadPart' hb, wpAny_forIn_list _ (fun rest b s' => b.1 = none ∧ s' = ⟨hp, g, d, tk, os⟩ ∧ ∃ i, rest = (items.toList.zip items2.toList).drop i ∧
    R (.ok (.ret (.bool (((List.range (min items.size items2.size)).drop i).all e && items.size == items2.size)))) ⟨hp, g, d, tk, os⟩) _
  case turn =>
    rintro ⟨y, x⟩ rest b s' ⟨hb', rfl, i, hz, hR⟩
    have hlt : i < (items.toList.zip items2.toList).length := by
      rcases Nat.lt_or_ge i (items.toList.zip items2.toList).length with h' | h'
      · exact h'
      · rw [List.drop_of_length_le h'] at hz; cases hz
    have hm : i < min items.size items2.size := hZ ▸ hlt
    have h1 : i < items.size := Nat.lt_of_lt_of_le hm (Nat.min_le_left _ _)
    have h2 : i < items2.size := Nat.lt_of_lt_of_le hm (Nat.min_le_right _ _)
    rw [List.drop_eq_getElem_cons hlt] at hz
    injection hz with hyx hrest
    have hy : y = items[i] := by have := congrArg Prod.fst hyx; simpa using this
    have hx : x = items2[i] := by have := congrArg Prod.snd hyx; simpa using this
    subst hy hx
    have hd : (List.range (min items.size items2.size)).drop i = i :: (List.range (min items.size items2.size)).drop (i + 1) := by simp [List.drop_eq_getElem_cons, hm]
    rw [hd, List.all_cons] at hR
    refine wpAny_bind (he i h1 h2 _ _ ?_)
    cases hy : e i with
    | true =>
      rw [hy] at hR
      wp_walk
      exact ⟨rfl, rfl, i + 1, hrest, by simpa using hR⟩
    | false =>
      rw [hy] at hR
      wp_walk
      simpa using hR
  case fin =>
    rintro ⟨b1, b2⟩ s' ⟨hb', rfl, i, hz, hR⟩
    simp only at hb'
    subst hb'
    have hge : min items.size items2.size ≤ i := by
      rcases Nat.lt_or_ge i (items.toList.zip items2.toList).length with h' | h'
      · rw [List.drop_eq_getElem_cons h'] at hz; cases hz
      · exact hZ ▸ h'
    rw [List.drop_of_length_le (by simpa using hge)] at hR
    wp_walk
    simpa [Builtin.Tuple.tupleCompareSizes] using hR
  case h =>
    exact ⟨rfl, rfl, 0, rfl, by simpa using h⟩
end
end PySem.SeqAt
namespace PySem.SeqAt
open AutoSeq1 (wpAny_loadPart')
open MeetsSeq MeetsSeq2 MeetsSeq3
section
variable {prog : Program} {w : World}
theorem m_tupNe (l b : Addr) (items items2 : Array Value) (n n2 : Nat) (dd dd2 : Option Addr) (sl sl2 : Array (Option Value)) (e : Nat → Bool) :
    MeetsIn prog w (Builtin.«tuple.__ne__» ⟨[.ref l, .ref b], []⟩)
      (fun A R s => s.heap.get? l = some { cls := .type "tuple", dict := dd, data := .seq items n, slots := sl } ∧ s.heap.get? b = some { cls := .type "tuple", dict := dd2, data := .seq items2 n2, slots := sl2 } ∧
        (∀ j (h1 : j < items.size) (h2 : j < items2.size), EqP prog w A.in1 s items[j] items2[j] (e j)) ∧
        R (.ok (.ret (.bool (!((List.range (min items.size items2.size)).all e && items.size == items2.size))))) s) := by
  intro A R s h
  obtain ⟨hp, g, d, tk, os⟩ := s; obtain ⟨hl, hb, he, h⟩ := h
  have f2 := AutoSeq1.sub_tuple_tuple
  have hZ : (items.toList.zip items2.toList).length = min items.size items2.size := by simp
  wp_walk using wpAny_loadPart' hl, wpAny_loadPart' hb, wpAny_forIn_list _ (fun rest b s' => b.1 = none ∧ s' = ⟨hp, g, d, tk, os⟩ ∧ ∃ i, rest = (items.toList.zip items2.toList).drop i ∧
    R (.ok (.ret (.bool (!(((List.range (min items.size items2.size)).drop i).all e && items.size == items2.size))))) ⟨hp, g, d, tk, os⟩) _
  case turn =>
    rintro ⟨y, x⟩ rest b s' ⟨hb', rfl, i, hz, hR⟩
    have hlt : i < (items.toList.zip items2.toList).length := by
      rcases Nat.lt_or_ge i (items.toList.zip items2.toList).length with h' | h'
      · exact h'
      · rw [List.drop_of_length_le h'] at hz; cases hz
    have hm : i < min items.size items2.size := hZ ▸ hlt
    have h1 : i < items.size := Nat.lt_of_lt_of_le hm (Nat.min_le_left _ _)
    have h2 : i < items2.size := Nat.lt_of_lt_of_le hm (Nat.min_le_right _ _)
    rw [List.drop_eq_getElem_cons hlt] at hz
    injection hz with hyx hrest
    have hy : y = items[i] := by have := congrArg Prod.fst hyx; simpa using this
    have hx : x = items2[i] := by have := congrArg Prod.snd hyx; simpa using this
    subst hy hx
    have hd : (List.range (min items.size items2.size)).drop i = i :: (List.range (min items.size items2.size)).drop (i + 1) := by simp [List.drop_eq_getElem_cons, hm]
    rw [hd, List.all_cons] at hR
    refine wpAny_bind (he i h1 h2 _ _ ?_)
    cases hy : e i with
    | true =>
      rw [hy] at hR
      wp_walk
      exact ⟨rfl, rfl, i + 1, hrest, by simpa using hR⟩
    | false =>
      rw [hy] at hR
      wp_walk
      simpa using hR
  case fin =>
    rintro ⟨b1, b2⟩ s' ⟨hb', rfl, i, hz, hR⟩
    simp only at hb'
    subst hb'
    have hge : min items.size items2.size ≤ i := by
      rcases Nat.lt_or_ge i (items.toList.zip items2.toList).length with h' | h'
      · rw [List.drop_eq_getElem_cons h'] at hz; cases hz
      · exact hZ ▸ h'
    rw [List.drop_of_length_le (by simpa using hge)] at hR
    wp_walk
    simpa [Builtin.Tuple.tupleCompareSizes, bne] using hR
  case h =>
    exact ⟨rfl, rfl, 0, rfl, by simpa using h⟩
theorem rcP_tuples {A : Around} {s : Shared} {l b : Addr} {items items2 : Array Value} {e : Nat → Bool} (hl : s.heap.IsTuple l items) (hb : s.heap.IsTuple b items2) (hu : A.units < cLine)
    (he : ∀ j (h1 : j < items.size) (h2 : j < items2.size), EqP prog w A.in1 s items[j] items2[j] (e j)) (E Q : Value → Shared → Prop) (h : Q (.bool ((List.range (min items.size items2.size)).all e && items.size == items2.size)) s) : wpAny (model prog w) A (richCompare .Eq (.ref l) (.ref b)) Q E s := by
  obtain ⟨⟨cls, dd, data, sl⟩, ho, hc, n, hd⟩ := id hl
  obtain ⟨⟨cls2, dd2, data2, sl2⟩, ho2, hc2, n2, hd2⟩ := id hb
  simp only at hc hd hc2 hd2
  subst hc hd hc2 hd2
  have ta : s.TypeIs (.ref l) "tuple" := ⟨_, ho, rfl⟩
  have tb : s.TypeIs (.ref b) "tuple" := ⟨_, ho2, rfl⟩
  exact wpAny_richCompare_same_room (op := .Eq) ta tb F.slot_tuple_eq (call_meetsIn F.slot_tuple_eq ta F.entry_tuple_eq (F.args_tuple_eq_2 _ _) (m_tupEq l b items items2 n n2 dd dd2 sl sl2 e)
    ⟨ho, ho2, he, show Value.bool _ ≠ Value.notImplemented ∧ Q (.bool _) s from ⟨(fun x => nomatch x), h⟩⟩) hu
theorem rcN_tuples {A : Around} {s : Shared} {l b : Addr} {items items2 : Array Value} {e : Nat → Bool} (hl : s.heap.IsTuple l items) (hb : s.heap.IsTuple b items2) (hu : A.units < cLine)
    (he : ∀ j (h1 : j < items.size) (h2 : j < items2.size), EqP prog w A.in1 s items[j] items2[j] (e j)) (E Q : Value → Shared → Prop) (h : Q (.bool (!((List.range (min items.size items2.size)).all e && items.size == items2.size))) s) : wpAny (model prog w) A (richCompare .NotEq (.ref l) (.ref b)) Q E s := by
  obtain ⟨⟨cls, dd, data, sl⟩, ho, hc, n, hd⟩ := id hl
  obtain ⟨⟨cls2, dd2, data2, sl2⟩, ho2, hc2, n2, hd2⟩ := id hb
  simp only at hc hd hc2 hd2
  subst hc hd hc2 hd2
  have ta : s.TypeIs (.ref l) "tuple" := ⟨_, ho, rfl⟩
  have tb : s.TypeIs (.ref b) "tuple" := ⟨_, ho2, rfl⟩
  exact wpAny_richCompare_same_room (op := .NotEq) ta tb F.slot_tuple_ne (call_meetsIn F.slot_tuple_ne ta F.entry_tuple_ne (F.args_tuple_ne_2 _ _) (m_tupNe l b items items2 n n2 dd dd2 sl sl2 e)
    ⟨ho, ho2, he, show Value.bool _ ≠ Value.notImplemented ∧ Q (.bool _) s from ⟨(fun x => nomatch x), h⟩⟩) hu
theorem m_lstNeLoop (l b : Addr) (items items2 : Array Value) (n n2 : Nat) (dd dd2 : Option Addr) (sl sl2 : Array (Option Value)) (hsz : items.size = items2.size) (e : Nat → Bool) (k : Nat) :
    ∀ i : Nat, items.size - i = k → MeetsIn prog w (Builtin.«list.__eq__.loop» ⟨[.ref l, .ref b, rawInt i, rawInt 3], []⟩)
      (fun A R s => s.heap.get? l = some { cls := .type "list", dict := dd, data := .seq items n, slots := sl } ∧ s.heap.get? b = some { cls := .type "list", dict := dd2, data := .seq items2 n2, slots := sl2 } ∧
        (∀ j (h1 : j < items.size) (h2 : j < items2.size), EqP prog w A.in1 s items[j] items2[j] (e j)) ∧
        R (.ok (.ret (.bool (!((List.range items.size).drop i).all e)))) s) := by
  induction k with
  | zero =>
    intro i hk A R s h
    obtain ⟨hp, g, d, tk, os⟩ := s; obtain ⟨hl, hb, he, h⟩ := h
    wp_walk using wpAny_loadPart' hl, wpAny_loadPart' hb
    have hi1 : items[((i : Nat) : Int).toNat]? = none := by simp; omega
    have hi2 : items2[((i : Nat) : Int).toNat]? = none := by simp; omega
    have hd : (List.range items.size).drop i = [] := by simp; omega
    rw [hd] at h
    rw [hi1, hi2]
    wp_walk using wpAny_loadPart' hl, wpAny_loadPart' hb
    show R (.ok (.ret (.bool (items.size != items2.size)))) _
    rw [hsz]
    simpa using h
  | succ k ih =>
    intro i hk A R s h
    obtain ⟨hp, g, d, tk, os⟩ := s; obtain ⟨hl, hb, he, h⟩ := h
    wp_walk using wpAny_loadPart' hl, wpAny_loadPart' hb
    have hlt : i < items.size := by omega
    have hlt2 : i < items2.size := by omega
    have hi1 : items[((i : Nat) : Int).toNat]? = some items[i] := by simp [hlt]
    have hi2 : items2[((i : Nat) : Int).toNat]? = some items2[i] := by simp [hlt2]
    have hd : (List.range items.size).drop i = i :: (List.range items.size).drop (i + 1) := by simp [List.drop_eq_getElem_cons, hlt]
    have hc : ((i : Int) + 1) = ((i + 1 : Nat) : Int) := by push_cast; rfl
    rw [hd, List.all_cons] at h
    rw [hi1, hi2]
    refine wpAny_bind (he i hlt hlt2 _ _ ?_)
    cases hb' : e i with
    | true =>
      rw [hb'] at h
      wp_walk
      rw [hc]
      exact ⟨plainId_quiet plain_eq_loop _, codeAny_builtin entry_eq_loop (by
        rw [Around.under_plainId plain_eq_loop _]
        exact ih (i + 1) (by omega) A R _ ⟨hl, hb, he, by simpa using h⟩)⟩
    | false =>
      rw [hb'] at h
      wp_walk using wpAny_loadPart' hl, wpAny_loadPart' hb
      rw [hi1, hi2]
      wp_walk
      simpa using h
theorem m_lstNe (l b : Addr) (items items2 : Array Value) (n n2 : Nat) (dd dd2 : Option Addr) (sl sl2 : Array (Option Value)) (hsz : items.size = items2.size) (e : Nat → Bool) :
    MeetsIn prog w (Builtin.«list.__ne__» ⟨[.ref l, .ref b], []⟩)
      (fun A R s => s.heap.get? l = some { cls := .type "list", dict := dd, data := .seq items n, slots := sl } ∧ s.heap.get? b = some { cls := .type "list", dict := dd2, data := .seq items2 n2, slots := sl2 } ∧
        (∀ j (h1 : j < items.size) (h2 : j < items2.size), EqP prog w A.in1 s items[j] items2[j] (e j)) ∧
        R (.ok (.ret (.bool (!(List.range items.size).all e)))) s) := by
  intro A R s h
  obtain ⟨hp, g, d, tk, os⟩ := s; obtain ⟨hl, hb, he, h⟩ := h
  have f3 := AutoSeq1.sub_list_list
  have hne : ¬ (items.size != items2.size) = true := by simp [hsz]
  wp_walk using wpAny_loadPart' hl, wpAny_loadPart' hb
  exact ⟨plainId_quiet plain_eq_loop _, codeAny_builtin entry_eq_loop (by
    rw [Around.under_plainId plain_eq_loop _]
    exact m_lstNeLoop l b items items2 n n2 dd dd2 sl sl2 hsz e _ 0 rfl A R _ ⟨hl, hb, he, by simpa using h⟩)⟩
theorem rcN_lists {A : Around} {s : Shared} {l b : Addr} {items items2 : Array Value} {e : Nat → Bool} (hl : s.heap.IsList l items) (hb : s.heap.IsList b items2) (hsz : items.size = items2.size) (hu : A.units < cLine)
    (he : ∀ j (h1 : j < items.size) (h2 : j < items2.size), EqP prog w A.in1 s items[j] items2[j] (e j)) (E Q : Value → Shared → Prop) (h : Q (.bool (!(List.range items.size).all e)) s) : wpAny (model prog w) A (richCompare .NotEq (.ref l) (.ref b)) Q E s := by
  obtain ⟨⟨cls, dd, data, sl⟩, ho, hc, n, hd⟩ := id hl
  obtain ⟨⟨cls2, dd2, data2, sl2⟩, ho2, hc2, n2, hd2⟩ := id hb
  simp only at hc hd hc2 hd2
  subst hc hd hc2 hd2
  have ta : s.TypeIs (.ref l) "list" := ⟨_, ho, rfl⟩
  have tb : s.TypeIs (.ref b) "list" := ⟨_, ho2, rfl⟩
  exact wpAny_richCompare_same_room (op := .NotEq) ta tb F.slot_list_ne (call_meetsIn F.slot_list_ne ta F.entry_list_ne (F.args_list_ne_2 _ _) (m_lstNe l b items items2 n n2 dd dd2 sl sl2 hsz e)
    ⟨ho, ho2, he, show Value.bool _ ≠ Value.notImplemented ∧ Q (.bool _) s from ⟨(fun x => nomatch x), h⟩⟩) hu
end
end PySem.SeqAt
namespace PySem.W
open PySem PySem.Calls PyProof.Rows PyProof.V PySem.Spec
section
variable {prog : Program} {w : World} {K : Type} [DecidableEq K] {knd : KeyKind prog w K} {A : Around} {E : Value → Shared → Prop} {s : Shared}
theorem rcN_dicts {a b : Addr} {ka kb : List (K × Value)} {r : Bool} (ha : (a == sysModules) = false) (hb : (b == sysModules) = false)
    (da : s.heap.DictOf knd a ka) (db : s.heap.DictOf knd b kb) (hu : A.units < cLine) (hits : ka.length = kb.length → KeqHitsP prog w A.in1 s kb ka r) (E Q : Value → Shared → Prop) (h : Q (.bool (!(ka.length == kb.length && r))) s) : wpAny (model prog w) A (richCompare .NotEq (.ref a) (.ref b)) Q E s := by
  refine wpAny_richCompare_same_room (op := .NotEq) da.typeIs db.typeIs PySem.F.slot_dict_ne (wpAny_call_entry PySem.F.slot_dict_ne da.typeIs PySem.F.entry_dict_ne ?_ (PySem.F.args_dict_ne_2 _ _)) hu
  show wpAny _ _ (Builtin.Dict.dictSlotArgs "__ne__" ⟨[.ref a, .ref b], []⟩ >>= _) _ _ s
  refine wpAny_bind ?_
  unfold Builtin.Dict.dictSlotArgs
  refine wpAny_bind (wpAny_notOrdered_dict da.typeIs ?_)
  show wpAny _ _ (pure (Value.ref a, Value.ref b)) _ _ s
  refine wpAny_pure ?_
  refine wpAny_bind (wpAny_isInstance (T := "dict") db.typeIs PySem.F.sub_dict_dict ?_)
  simp only [Bool.not_true, Bool.false_eq_true, if_false]
  refine wpAny_bind (wpAny_pure (wpAny_bind (wpAny_pure ?_)))
  refine wpAny_bind (samePairsP ha hb da db hits ?_)
  refine wpAny_pure ⟨_, rfl, ?_, ?_⟩
  · exact fun x => nomatch x
  · simpa using h
end
end PySem.W
namespace M
open PySem PySem.Spec PyProof.Rows L2
/-- two lists, two tuples of equal items; two dicts of the same keys, their values equal -/
def EqR (K : PySem.W.Frag) (H : Hp) (E : V → V → Prop) (x y : V) : Prop :=
  (∃ a b xs ys, x = .ref a ∧ y = .ref b ∧ SqL K H a xs ∧ SqL K H b ys ∧ Paired E xs ys) ∨
  (∃ a b xs ys, x = .ref a ∧ y = .ref b ∧ SqT K H a xs ∧ SqT K H b ys ∧ Paired E xs ys) ∨
    ∃ a b ks ls, x = .ref a ∧ y = .ref b ∧ Rd H a (.dK ks) ∧ Rd H b (.dK ls) ∧ ks.length = ls.length ∧ ∀ p ∈ ks, ∃ u, valV ls p.1 = some u ∧ E p.2 u
def EqN (K : PySem.W.Frag) (H : Hp) : Nat → V → V → Prop
  | 0 => fun _ _ => False
  | n + 1 => fun x y => (x = y ∧ flatB x = true) ∨ (∃ a, x = .ref a ∧ y = .ref a) ∨ EqR K H (EqN K H n) x y
section
variable {X : Cx} {pins : List (Addr × Obj)} {σ : L2.St} {H : Hp} {s : Shared}
theorem EqR.refs {K : PySem.W.Frag} {F : V → V → Prop} {x y : V} (h : EqR K H F x y) : ∃ a b, x = .ref a ∧ y = .ref b := by
  rcases h with ⟨a, b, _, _, e1, e2, _⟩ | ⟨a, b, _, _, e1, e2, _⟩ | ⟨a, b, _, _, e1, e2, _⟩ <;> exact ⟨a, b, e1, e2⟩
theorem eqR_both (I : Inv X pins σ H s) {A : Around} {F : V → V → Prop} (hu : A.units < cLine) (ih : ∀ x y v u, F x y → RelV x v → RelV y u → SeqAt.EqP X.prog X.w A.in1 s v u true) {x y : V} {v u : Value} (h : EqR X.K H F x y) (rx : RelV x v) (ry : RelV y u)
    (E Q : Value → Shared → Prop) : (Q (.bool true) s → wpAny (model X.prog X.w) A (richCompare .Eq v u) Q E s) ∧ (Q (.bool false) s → wpAny (model X.prog X.w) A (richCompare .NotEq v u) Q E s) := by
  rcases h with ⟨a, b, xs, ys, rfl, rfl, ha, hb, hp⟩ | ⟨a, b, xs, ys, rfl, rfl, ha, hb, hp⟩ | ⟨a, b, ks, ls, rfl, rfl, ha, hb, hl, hp⟩
  · cases (show v = Value.ref a from rx)
    cases (show u = Value.ref b from ry)
    obtain ⟨us, r1, p1, _⟩ := I.list ha
    obtain ⟨ws, r2, p2, _⟩ := I.list hb
    have hsz : us.toArray.size = ws.toArray.size := by
      rw [List.size_toArray, List.size_toArray, ← r1.length, ← r2.length]
      exact Paired.length hp
    have it : ∀ j (h1 : j < us.toArray.size) (h2 : j < ws.toArray.size), SeqAt.EqP X.prog X.w A.in1 s us.toArray[j] ws.toArray[j] true := fun j h1 h2 => by
      have k := items_run ih hp r1 r2 j (by simpa using h1) (by simpa using h2)
      simpa using k
    have al : ((List.range us.toArray.size).all fun _ => true) = true := List.all_eq_true.mpr fun _ _ => rfl
    exact ⟨fun q => SeqAt.rcP_lists (e := fun _ => true) p1.isList p2.isList hsz hu it E Q (by rw [al]; exact q), fun q => SeqAt.rcN_lists (e := fun _ => true) p1.isList p2.isList hsz hu it E Q (by rw [al]; exact q)⟩
  · cases (show v = Value.ref a from rx)
    cases (show u = Value.ref b from ry)
    obtain ⟨us, r1, p1, _⟩ := I.tuple ha
    obtain ⟨ws, r2, p2, _⟩ := I.tuple hb
    have hsz : us.toArray.size = ws.toArray.size := by
      rw [List.size_toArray, List.size_toArray, ← r1.length, ← r2.length]
      exact Paired.length hp
    have it : ∀ j (h1 : j < us.toArray.size) (h2 : j < ws.toArray.size), SeqAt.EqP X.prog X.w A.in1 s us.toArray[j] ws.toArray[j] true := fun j h1 h2 => by
      have k := items_run ih hp r1 r2 j (by simpa using h1) (by simpa using h2)
      simpa using k
    have al : (((List.range (min us.toArray.size ws.toArray.size)).all fun _ => true) && us.toArray.size == ws.toArray.size) = true := by
      rw [hsz]; simp
    exact ⟨fun q => SeqAt.rcP_tuples (e := fun _ => true) p1 p2 hu it E Q (by rw [al]; exact q), fun q => SeqAt.rcN_tuples (e := fun _ => true) p1 p2 hu it E Q (by rw [al]; exact q)⟩
  · cases (show v = Value.ref a from rx)
    cases (show u = Value.ref b from ry)
    obtain ⟨_, ya, va, ra, da⟩ := dk_rd I.hok ha
    obtain ⟨_, yb, vb, rb, db⟩ := dk_rd I.hok hb
    have e : (va.length == vb.length && true) = true := by
      rw [show va.length = vb.length by rw [← ra.length, ← rb.length]; exact hl]; simp
    exact ⟨fun q => PySem.W.rcP_dicts (knd := mixKind X.prog X.w) (r := true) ya yb da db hu (fun _ => hits_run ih rb ra hp) E Q (by rw [e]; exact q), fun q => PySem.W.rcN_dicts (knd := mixKind X.prog X.w) (r := true) ya yb da db hu (fun _ => hits_run ih rb ra hp) E Q (by rw [e]; exact q)⟩
theorem eqN_run (I : Inv X pins σ H s) : ∀ (n : Nat) (A : Around), A.units + n < cLine → ∀ (x y : V) (v u : Value), EqN X.K H n x y → RelV x v → RelV y u → SeqAt.EqP X.prog X.w A s v u true
  | 0, _, _, _, _, _, _, h, _, _ => (show False from h).elim
  | n + 1, A, hu, x, y, v, u, h, rx, ry => by
    rcases h with ⟨rfl, f⟩ | ⟨a, rfl, rfl⟩ | h
    · exact (eqAt_same rx ry f).eqP
    · cases (show v = Value.ref a from rx)
      cases (show u = Value.ref a from ry)
      exact (SeqAt.EqAt.same _).eqP
    · have step := fun E Q => (eqR_both I (A := A) (by omega) (eqN_run I n A.in1 (by show A.units + 1 + n < cLine; omega)) h rx ry E Q).1
      obtain ⟨a, b, rfl, rfl⟩ := h.refs
      cases (show v = Value.ref a from rx)
      cases (show u = Value.ref b from ry)
      by_cases e : a = b
      · subst e
        exact (SeqAt.EqAt.same _).eqP
      · exact SeqAt.eqP_refs e step
end
section
variable {X : Cx}
def rEqT (K : PySem.W.Frag) : R2 := fun x y H Q => EqR K H (EqN K H 8) x y ∧ Q (.bl true) H
def rNeT (K : PySem.W.Frag) : R2 := fun x y H Q => EqR K H (EqN K H 8) x y ∧ Q (.bl false) H
theorem op_eqT (hu : X.A.units + 64 < cLine) : OpR X (compareOp .Eq) (rEqT X.K) := by
  intro pins s σ H x y v u Q I rx ry h
  obtain ⟨h, q⟩ := h
  exact (eqR_both I (A := X.A) (by omega) (eqN_run I 8 X.A.in1 (by show X.A.units + 1 + 8 < cLine; omega)) h rx ry _ _).1 ⟨.bl true, H, I, rfl, q⟩
theorem op_neT (hu : X.A.units + 64 < cLine) : OpR X (compareOp .NotEq) (rNeT X.K) := by
  intro pins s σ H x y v u Q I rx ry h
  obtain ⟨h, q⟩ := h
  exact (eqR_both I (A := X.A) (by omega) (eqN_run I 8 X.A.in1 (by show X.A.units + 1 + 8 < cLine; omega)) h rx ry _ _).2 ⟨.bl false, H, I, rfl, q⟩
end
end M

namespace M
open PySem PySem.Spec PyProof.Rows L2
theorem b01 (b : Bool) : 0 ≤ (if b = true then (1 : Int) else 0) ∧ (if b = true then (1 : Int) else 0) ≤ 1 := by cases b <;> decide
theorem mul_b {k : Int} {b : Bool} (h : Bits 1048576 k) : CMulV k (if b = true then 1 else 0) := Bits.mul (m := 40) h (Bits.small (by have := b01 b; omega) (by have := b01 b; omega)) (by decide)
theorem mul_sb {k : Int} {b : Bool} (h1 : 0 ≤ k) (h2 : k < 1000000) : CMulV k (if b = true then 1 else 0) := Bits.mul (n := 40) (m := 40) (Bits.small (by omega) (by omega)) (Bits.small (by have := b01 b; omega) (by have := b01 b; omega)) (by decide)
theorem at_ints {ns : List Int} {i : Int} (h0 : 0 ≤ i) (h : i < ns.length) : ∃ n, atI (ns.map V.int) i = some (.int n) ∧ n ∈ ns := by
  obtain ⟨v, h1, h2⟩ := at_inV (xs := ns.map V.int) h0 (by rw [List.length_map]; exact h)
  obtain ⟨n, hn, rfl⟩ := List.mem_map.mp h2
  exact ⟨n, h1, hn⟩
theorem at2 {x y : V} (b : Bool) : atI [x, y] (if b = true then (1 : Int) else 0) = some (if b = true then y else x) := by cases b <;> rfl
theorem mul_26 {k : Int} {b : Bool} (h : Bits 1048576 k) : CMulV k (if b = true then 26 else 1) := Bits.mul (m := 40) h (Bits.small (by cases b <;> decide) (by cases b <;> decide)) (by decide)
theorem at2i {i j : Int} (b : Bool) : atI [V.int i, V.int j] (if b = true then (1 : Int) else 0) = some (.int (if b = true then j else i)) := by cases b <;> rfl
theorem if_int (b : Bool) (i j : Int) : (if b = true then V.int i else V.int j) = V.int (if b = true then i else j) := by cases b <;> rfl
theorem mul_le {k : Int} {b : Bool} (h1 : 0 ≤ k) : 0 ≤ k * (if b = true then (1 : Int) else 0) ∧ k * (if b = true then (1 : Int) else 0) ≤ k := by
  cases b
  · show 0 ≤ k * 0 ∧ k * 0 ≤ k
    omega
  · show 0 ≤ k * 1 ∧ k * 1 ≤ k
    omega
def nmAt (s sz : Int) : Int := s / 20 % sz * (if decide (V.int (s / 5 % 4) = V.int 1) = true then 1 else 0)
/-- a text of signs of a part, one to twelve -/
def NameOk (z : Str) : Prop := (∀ c ∈ cl z, c ∈ sgns) ∧ 1 ≤ z.length ∧ z.length ≤ 12
theorem NameOk.part {z : Str} (h : NameOk z) (h1 : z ≠ (".": Str)) (h2 : z ≠ ("..": Str)) : isPartB z = true := by
  rw [part_yes h1 h2, decide_eq_true h.2.1, decide_eq_true h.2.2, Bool.and_self, Bool.true_and, List.all_eq_true]
  exact fun c hc => decide_eq_true (h.1 c hc)
theorem glue_len (zs : List Nat) : (Txt.join "" (zs.map c1)).length = zs.length := by rw [len_cl, cl_signs]
theorem NameOk.signs {zs : List Nat} (h : ∀ c ∈ zs, c ∈ sgns) (h1 : 1 ≤ zs.length) (h2 : zs.length ≤ 12) : NameOk (Txt.join "" (zs.map c1)) := ⟨by rw [cl_signs]; exact h, by rw [glue_len]; exact h1, by rw [glue_len]; exact h2⟩
theorem NameOk.mid {zs : List Nat} {c : Nat} {n sz : Int} (h : ∀ c ∈ zs, c ∈ sgns) (hl : zs.length = 12) (hc : c ∈ sgns) (h0 : 0 ≤ n) (hn : n < sz) (hs : sz ≤ 12) :
    NameOk (Txt.join "" ((zs.take n.toNat).map c1) ++ c1 c ++ Txt.join "" (((zs.drop n.toNat).take ((sz - 1).toNat - n.toNat)).map c1)) := by
  refine ⟨?_, ?_, ?_⟩
  · intro d hd
    rw [cl_app, cl_app, cl_signs, cl_signs, cl_c1, List.mem_append, List.mem_append] at hd
    rcases hd with (hd | hd) | hd
    · exact h d (List.mem_of_mem_take hd)
    · rw [List.mem_singleton.mp hd]; exact hc
    · exact h d (List.mem_of_mem_drop (List.mem_of_mem_take hd))
  all_goals
    rw [len_app, len_app, glue_len, glue_len, len_c1, List.length_take, List.length_take, List.length_drop]
    omega
theorem part_nm {z : Str} (h : isPartB z = true) : NameOk z := by
  by_cases h1 : z = (".": Str) ∨ z = ("..": Str)
  · rw [part_no h1] at h; cases h
  · rw [part_yes (fun e => h1 (.inl e)) (fun e => h1 (.inr e)), Bool.and_eq_true, Bool.and_eq_true, decide_eq_true_eq, decide_eq_true_eq, List.all_eq_true] at h
    exact ⟨fun c hc => of_decide_eq_true (h.2 c hc), h.1.1, h.1.2⟩
theorem part_47 {z : Str} (h : isPartB z = true) : 47 ∉ cl z := fun hc => sgns_no47 ((part_nm h).1 _ hc)
/-- parts joined make a path -/
theorem path_join {ps : List Str} (hne : ps ≠ []) (h : ∀ p ∈ ps, isPartB p = true) (hl : ps.length ≤ 8) : isPathB (Txt.join slash ps) = true := by
  rw [isPathB, parts_join hne fun p hp => part_47 (h p hp), decide_eq_true hl, Bool.true_and, List.all_eq_true]
  exact h
theorem path_len {z : Str} (h : isPathB z = true) : z.length ≤ 103 := by
  rw [isPathB, Bool.and_eq_true, decide_eq_true_eq, List.all_eq_true] at h
  have hs := parts_sum z
  have hb := sum_le (l := partsOf z) (b := 12) fun p hp => (part_nm (h.2 p hp)).2.2
  have : ((partsOf z).map Str.length).sum ≤ 12 * (partsOf z).length := hb
  omega
theorem join_parts_room {ps : List Str} (h : ∀ p ∈ ps, isPartB p = true) (hl : ps.length ≤ 8) : (ps.map fun x => x.length).sum + ps.length * slash.length ≤ 16777216 := by
  have hb := sum_le (l := ps) (b := 12) fun p hp => (part_nm (h p hp)).2.2
  rw [slash_len]; omega
/-- the signs of lines -/
def lineS : Str := " !\"#$&'()*+,-./0123456789:;<=>?@ABCDEFGHIJKLMNOPQRSTUVWXYZ[\\]^_`" ++ "abcdefghijklmnopqrstuvwxyz{|}~\n\t"
theorem lineS_len : (cl lineS).length = 96 := by decide +kernel
theorem lineA_len : (" !\"#$&'()*+,-./0123456789:;<=>?@ABCDEFGHIJKLMNOPQRSTUVWXYZ[\\]^_`" : Str).length + ("abcdefghijklmnopqrstuvwxyz{|}~\n\t" : Str).length ≤ 16777216 := by decide +kernel
theorem lineS_small : lineS.length ≤ sizeLine := sl_of (by rw [len_cl, lineS_len]; decide)
theorem line_at {i : Int} (h0 : 0 ≤ i) (h : i < 96) : ∃ c, atI (cl lineS) i = some c ∧ c ∈ cl lineS := at_in h0 (by rw [lineS_len]; exact h)
theorem log_small {i : Int} (h0 : 0 ≤ i) (h : i < 1000000) : i.natAbs.log2 < 1920 := Nat.lt_of_le_of_lt (Bits.log2 (Bits.small (by omega) (by omega))) (by decide)
theorem tops_part : ∀ i : Fin 200, isPartB (("tops" : Str) ++ Str.ofString (toString ((0 : Int) + ((i.val : Nat) : Int)))) = true := by decide +kernel
theorem tops_len : ∀ i : Fin 200, (("tops" : Str).length + (Str.ofString (toString ((0 : Int) + ((i.val : Nat) : Int)))).length ≤ 20) := by decide +kernel
theorem join2 (a b : Str) : a ++ slash ++ b = Txt.join slash [a, b] := by
  refine cl_inj ?_
  rw [cl_joinS, cl_app, cl_app, slash_cl]
  simp [TL.joinL]
theorem path2 {a b : Str} (ha : isPartB a = true) (hb : isPartB b = true) : isPathB (a ++ slash ++ b) = true := by
  rw [join2]
  refine path_join (by simp) (fun p hp => ?_) (by simp)
  simp only [List.mem_cons, List.mem_nil_iff, or_false] at hp
  rcases hp with e | e
  · subst e; exact ha
  · subst e; exact hb
end M

/-! ### names and paths do not begin with tops -/
namespace M
open PySem PySem.Spec PyProof.Rows L2
def sgn (k : Int) : Nat := sgns.getD (k % 65).toNat 0
theorem sgn_at (k : Int) : atI sgns (k % 65) = some (sgn k) := by
  have h0 : 0 ≤ k % 65 := Int.emod_nonneg _ (by decide)
  have h1 : k % 65 < 65 := Int.emod_lt_of_pos _ (by decide)
  obtain ⟨n, hn⟩ := Int.eq_ofNat_of_zero_le h0
  have hl : n < sgns.length := by rw [sgns_len]; omega
  have e : sgn k = sgns[n] := by
    show sgns.getD (k % 65).toNat 0 = _
    rw [hn, List.getD_eq_getElem?_getD]
    show (sgns[n]?).getD 0 = _
    rw [List.getElem?_eq_getElem hl]; rfl
  rw [hn, e]
  exact atI_nat (List.getElem?_eq_getElem hl)
theorem sgn_mem (k : Int) : sgn k ∈ sgns := by
  have h0 : 0 ≤ k % 65 := Int.emod_nonneg _ (by decide)
  have h1 : k % 65 < 65 := Int.emod_lt_of_pos _ (by decide)
  unfold sgn
  rw [List.getD_eq_getElem?_getD, List.getElem?_eq_getElem (by rw [sgns_len]; omega)]
  exact List.getElem_mem _
theorem sgn_mod (k : Int) : sgn (k % 65) = sgn k := by unfold sgn; rw [Int.emod_emod_of_dvd _ (Int.dvd_refl 65)]
def tops4 : List Nat := [116, 111, 112, 115]
def noTops (z : Str) : Prop := (cl z).take 4 ≠ tops4
def Apart (a b : Nat) : Prop := ¬ (a = 116 ∧ b = 111) ∧ ¬ (a = 111 ∧ b = 112) ∧ ¬ (a = 112 ∧ b = 115)
instance (a b : Nat) : Decidable (Apart a b) := by unfold Apart; infer_instance
theorem apart_fin : ∀ i : Fin 65, Apart (sgn (i.val : Int)) (sgn ((i.val : Int) + 7)) := by decide +kernel
theorem apart_step (k : Int) : Apart (sgn k) (sgn (k + 7)) := by
  have h0 : 0 ≤ k % 65 := Int.emod_nonneg _ (by decide)
  have h1 : k % 65 < 65 := Int.emod_lt_of_pos _ (by decide)
  have h := apart_fin ⟨(k % 65).toNat, by omega⟩
  have e : (((k % 65).toNat : Nat) : Int) = k % 65 := Int.toNat_of_nonneg h0
  simp only [e] at h
  rw [sgn_mod] at h
  have e2 : sgn (k % 65 + 7) = sgn (k + 7) := by
    rw [← sgn_mod, ← sgn_mod (k + 7)]
    congr 1
    omega
  rwa [e2] at h
theorem tops_take {a b : Nat} {r : List Nat} (h : Apart a b) : ∀ n, ((a :: b :: r).take n).take 4 ≠ tops4
  | 0 => by simp [tops4]
  | 1 => by simp [tops4]
  | n + 2 => fun e => by
    simp only [List.take_succ_cons, tops4, List.cons.injEq] at e
    exact h.1 ⟨e.1, e.2.1⟩
theorem tops_mid {a b d c : Nat} {r : List Nat} (h1 : Apart a b) (h2 : Apart b d) : ∀ n m, (((a :: b :: d :: r).take n ++ [c]) ++ ((a :: b :: d :: r).drop n).take m).take 4 ≠ tops4
  | 0, 0 => by simp [tops4]
  | 0, 1 => by simp [tops4]
  | 0, m + 2 => fun e => by
    simp only [List.take_zero, List.nil_append, List.drop_zero, List.take_succ_cons, List.cons_append, tops4, List.cons.injEq] at e
    exact h1.2.1 ⟨e.2.1, e.2.2.1⟩
  | 1, 0 => by simp [tops4]
  | 1, 1 => by simp [tops4]
  | 1, m + 2 => fun e => by
    simp only [List.take_succ_cons, List.take_zero, List.cons_append, List.nil_append, List.drop_succ_cons, List.drop_zero, tops4, List.cons.injEq] at e
    exact h2.2.2 ⟨e.2.2.1, e.2.2.2.1⟩
  | n + 2, m => fun e => by
    simp only [List.take_succ_cons, List.cons_append, tops4, List.cons.injEq] at e
    exact h1.1 ⟨e.1, e.2.1⟩
/-- the rest of a name: signs seven apart -/
def restL (B : Int) : List Nat := (List.range 12).map fun i : Nat => sgn (B + 7 * (0 + (i : Int)))
theorem restL_len (B : Int) : (restL B).length = 12 := by unfold restL; rw [List.length_map, List.length_range]
theorem restL_mem {B : Int} {c : Nat} (h : c ∈ restL B) : c ∈ sgns := by
  obtain ⟨i, _, rfl⟩ := List.mem_map.mp h
  exact sgn_mem _
theorem restL_cons (B : Int) : ∃ r, restL B = sgn B :: sgn (B + 7) :: sgn (B + 7 + 7) :: r := ⟨(List.range 12).tail.tail.tail.map fun i : Nat => sgn (B + 7 * (0 + (i : Int))), by
  have e0 : B + 7 * (0 + ((0 : Nat) : Int)) = B := by omega
  have e1 : B + 7 * (0 + ((1 : Nat) : Int)) = B + 7 := by omega
  have e2 : B + 7 * (0 + ((2 : Nat) : Int)) = B + 7 + 7 := by omega
  conv => rhs; rw [← e2, ← e1]
  conv => rhs; arg 1; rw [← e0]
  rfl⟩
theorem noTops_rest (B : Int) (n : Nat) : noTops (Txt.join "" (((restL B).take n).map c1)) := by
  obtain ⟨r, e⟩ := restL_cons B
  unfold noTops
  rw [cl_signs, e]
  exact tops_take (apart_step B) n
theorem noTops_mid (B : Int) (n m c : Nat) : noTops (Txt.join "" (((restL B).take n).map c1) ++ c1 c ++ Txt.join "" ((((restL B).drop n).take m).map c1)) := by
  obtain ⟨r, e⟩ := restL_cons B
  unfold noTops
  rw [cl_app, cl_app, cl_signs, cl_signs, cl_c1, e]
  exact tops_mid (apart_step B) (apart_step (B + 7)) n m
theorem take4_app {a b : List Nat} (h : (a ++ 47 :: b).take 4 = tops4) : a.take 4 = tops4 := by
  match a with
  | [] => simp [tops4] at h
  | [_] => simp [tops4] at h
  | [_, _] => simp [tops4] at h
  | [_, _, _] => simp [tops4] at h
  | _ :: _ :: _ :: _ :: r => simpa [tops4] using h
theorem noTops_join {p : Str} {r : List Str} (h : noTops p) : noTops (Txt.join slash (p :: r)) := fun e => by
  rw [cl_joinS] at e
  cases r with
  | nil => exact h e
  | cons q r => exact h (take4_app e)
theorem noTops_slash {z : Str} {r : List Nat} {q : Str} (h : noTops z) (e : cl z = cl q ++ 47 :: r) : noTops q := fun t => by
  refine h ?_
  rw [e]
  have hl : 4 ≤ (cl q).length := by
    have := congrArg List.length t
    rw [List.length_take] at this
    have e4 : tops4.length = 4 := rfl
    omega
  rw [List.take_append_of_le_length hl]
  exact t
theorem tops_yes (s : Str) : ¬ noTops (("tops" : Str) ++ s) := fun h => h (by
  rw [cl_app, show cl ("tops" : Str) = tops4 by decide +kernel]
  rfl)
end M
namespace M
open PySem PySem.Spec PyProof.Rows L2
/-- a name that a script draws -/
def NmB (z : Str) : Prop := isPartB z = true ∧ noTops z
/-- a path that a script draws, of at most n parts -/
structure PathN (n : Nat) (z : Str) : Prop where
  path : isPathB z = true
  few : (partsOf z).length ≤ n
  nt : noTops z
theorem PathN.join {n : Nat} {ps : List Str} (hne : ps ≠ []) (h : ∀ p ∈ ps, NmB p) (hl : ps.length ≤ n) (hn : n ≤ 8) : PathN n (Txt.join slash ps) := by
  refine ⟨path_join hne (fun p hp => (h p hp).1) (by omega), ?_, ?_⟩
  · rw [parts_join hne fun p hp => part_47 (h p hp).1]; exact hl
  · obtain ⟨p, r, rfl⟩ := List.exists_cons_of_ne_nil hne
    exact noTops_join (h p List.mem_cons_self).2
theorem NmB.room {ps : List Str} (h : ∀ p ∈ ps, NmB p) (hl : ps.length ≤ 8) : (ps.map fun x => x.length).sum + ps.length * slash.length ≤ 16777216 := join_parts_room (fun p hp => (h p hp).1) hl
end M

/-! ### no path that a script draws is the odd path -/
namespace M
open PySem PySem.Spec PyProof.Rows L2
def szB (s : Int) : Int := if s / 65 % 3 = 1 then 1 + s / 195 % 12 else 1
def NS (s : Int) (z : Str) : Prop := z = "0x" ∨ (s / 5 % 4 ≠ 2 ∧ (z.length : Int) = szB s) ∨ (s / 5 % 4 = 2 ∧ (cl z).head? = some (sgn (s / 195)))
theorem ns_clash {s : Int} (h1 : NS s "no") (h2 : NS s "such") : False := by
  have n1 : ("no" : Str) ≠ "0x" := by decide +kernel
  have n2 : ("such" : Str) ≠ "0x" := by decide +kernel
  have l1 : ("no" : Str).length = 2 := by decide +kernel
  have l2 : ("such" : Str).length = 4 := by decide +kernel
  have c1 : (cl ("no" : Str)).head? = some 110 := by decide +kernel
  have c2 : (cl ("such" : Str)).head? = some 115 := by decide +kernel
  rcases h1 with h | ⟨h, e⟩ | ⟨h, e⟩
  · exact n1 h
  · rcases h2 with g | ⟨g, f⟩ | ⟨g, f⟩
    · exact n2 g
    · rw [l1] at e; rw [l2] at f; omega
    · exact h g
  · rcases h2 with g | ⟨g, f⟩ | ⟨g, f⟩
    · exact n2 g
    · exact g h
    · rw [c1] at e; rw [c2] at f
      rw [← e] at f
      cases f
def Nm (s : Int) (z : Str) : Prop := isPartB z = true ∧ NS s z
def badP : Str := "no/such/path/here"
theorem bad_parts : partsOf badP = (["no", "such", "path", "here"] : List Str) := by decide +kernel
structure PathX (z : Str) : Prop where
  path : isPathB z = true
  nb : z ≠ badP
theorem PathX.join {s : Int} {ps : List Str} (hne : ps ≠ []) (h : ∀ p ∈ ps, Nm s p) (hl : ps.length ≤ 8) : PathX (Txt.join slash ps) := by
  refine ⟨path_join hne (fun p hp => (h p hp).1) hl, fun e => ?_⟩
  have e2 := parts_join hne fun p hp => part_47 (h p hp).1
  rw [e, bad_parts] at e2
  exact ns_clash (h "no" (by rw [← e2]; simp)).2 (h "such" (by rw [← e2]; simp)).2
theorem Nm.room {s : Int} {ps : List Str} (h : ∀ p ∈ ps, Nm s p) (hl : ps.length ≤ 8) : (ps.map fun x => x.length).sum + ps.length * slash.length ≤ 16777216 := join_parts_room (fun p hp => (h p hp).1) hl
theorem topsX : ∀ i : Fin 200, ("tops" : Str) ++ Str.ofString (toString ((0 : Int) + ((i.val : Nat) : Int))) ++ "/x" ≠ badP := by decide +kernel
theorem ns_mid {s : Int} {zs : List Nat} {c : Nat} {n sz : Int} (hl : zs.length = 12) (h0 : 0 ≤ n) (hn : n < sz) (hs : sz ≤ 12) (e : sz = szB s) (hw : s / 5 % 4 ≠ 2) :
    NS s (Txt.join "" ((zs.take n.toNat).map c1) ++ c1 c ++ Txt.join "" (((zs.drop n.toNat).take ((sz - 1).toNat - n.toNat)).map c1)) := by
  refine .inr (.inl ⟨hw, ?_⟩)
  rw [len_app, len_app, glue_len, glue_len, len_c1, List.length_take, List.length_take, List.length_drop]
  omega
theorem ns_rest {s B : Int} {m : Nat} (hw : s / 5 % 4 = 2) (hB : B = s / 195) : NS s (Txt.join "" (((restL B).take (m + 1)).map c1)) := by
  refine .inr (.inr ⟨hw, ?_⟩)
  obtain ⟨r, e⟩ := restL_cons B
  rw [cl_signs, e, hB]
  rfl
end M

namespace M
open PySem PySem.Spec PyProof.Rows L2
/-! ### dicts from texts -/
theorem call_lenRd {X : Cx} : CallR X (.builtin "len") (fun xs H Q => ∃ a kvs, xs = [V.ref a] ∧ Rd H a (.dK kvs) ∧ Q (.int kvs.length) H) := by
  intro pins s σ H xs us Q I r h
  obtain ⟨a, kvs, rfl, ha, q⟩ := h
  obtain ⟨u, rfl, ru⟩ := vals1 r
  cases ru
  exact d_len I ha fun t s' I' => ⟨.int kvs.length, H, I', ⟨t, rfl⟩, q⟩
abbrev Tr := List (Str × V)
def kvs (T : Tr) : List (Key × V) := T.map fun p => (.inr p.1, p.2)
abbrev keys (T : Tr) : List Str := T.map (·.1)
theorem kvs_val (T : Tr) (k : Str) : valV (kvs T) (.inr k) = valV T k := by
  induction T with
  | nil => rfl
  | cons p r ih =>
    by_cases e : p.1 = k
    · rw [valV_pos e]; exact valV_pos (p := ((.inr p.1 : Key), p.2)) (by rw [e])
    · rw [valV_neg e, ← ih]; exact valV_neg (p := ((.inr p.1 : Key), p.2)) (fun z => e (Sum.inr.inj z))
theorem kvs_put (T : Tr) (k : Str) (v : V) : putK (kvs T) (.inr k) v = kvs (putK T k v) := by
  have h1 : ((kvs T).any fun kv => decide (kv.1 = .inr k)) = T.any fun kv => decide (kv.1 = k) := by
    rw [valV_any, valV_any, kvs_val]
  unfold putK
  rw [h1]
  split
  · unfold kvs
    rw [List.map_map, List.map_map]
    refine List.map_congr_left fun p _ => ?_
    by_cases e : p.1 = k
    · show (if (Sum.inr p.1 : Key) = .inr k then _ else _) = _
      rw [if_pos (by rw [e])]
      show _ = ((Sum.inr (if p.1 = k then (p.1, v) else p).1 : Key), (if p.1 = k then (p.1, v) else p).2)
      rw [if_pos e]
    · show (if (Sum.inr p.1 : Key) = .inr k then _ else _) = _
      rw [if_neg (fun z => e (Sum.inr.inj z))]
      show _ = ((Sum.inr (if p.1 = k then (p.1, v) else p).1 : Key), (if p.1 = k then (p.1, v) else p).2)
      rw [if_neg e]
  · unfold kvs
    rw [List.map_append]; rfl
theorem kvs_drop (T : Tr) (k : Str) : dropK (kvs T) (.inr k) = kvs (dropK T k) := by
  unfold dropK kvs
  rw [List.filter_map]
  congr 1
  refine List.filter_congr fun p _ => ?_
  show decide ((Sum.inr p.1 : Key) ≠ .inr k) = decide (p.1 ≠ k)
  by_cases e : p.1 = k
  · rw [decide_eq_false (show ¬ ((Sum.inr p.1 : Key) ≠ .inr k) from fun z => z (by rw [e])), decide_eq_false (show ¬ (p.1 ≠ k) from fun z => z e)]
  · rw [decide_eq_true (show (Sum.inr p.1 : Key) ≠ .inr k from fun z => e (Sum.inr.inj z)), decide_eq_true (show p.1 ≠ k from e)]
theorem kvs_len (T : Tr) : (kvs T).length = T.length := List.length_map _
theorem kvs_keys (T : Tr) : ((kvs T).map fun kv => kV kv.1) = (keys T).map V.str := by
  unfold kvs keys
  rw [List.map_map, List.map_map]; rfl
theorem val_mem {T : Tr} {k : Str} {v : V} (h : valV T k = some v) : (k, v) ∈ T := by
  unfold valV at h
  obtain ⟨p, hp, rfl⟩ := Option.map_eq_some_iff.mp h
  have h1 := List.mem_of_find?_eq_some hp
  have h2 := List.find?_some hp
  have h2 : p.1 = k := of_decide_eq_true h2
  rw [← h2]; exact h1
theorem val_some {T : Tr} {k : Str} : (valV T k).isSome = decide (k ∈ keys T) := by
  rw [Bool.eq_iff_iff, decide_eq_true_eq, ← valV_any, List.any_eq_true, List.mem_map]
  constructor
  · rintro ⟨p, hp, e⟩; exact ⟨p, hp, of_decide_eq_true e⟩
  · rintro ⟨p, hp, e⟩; exact ⟨p, hp, decide_eq_true e⟩
theorem val_none {T : Tr} {k : Str} (h : k ∉ keys T) : valV T k = none := by
  have := val_some (T := T) (k := k)
  rw [decide_eq_false h] at this
  cases hv : valV T k with
  | none => rfl
  | some v => rw [hv] at this; cases this
theorem val_of_mem {T : Tr} {k : Str} {v : V} (nd : (keys T).Nodup) (h : (k, v) ∈ T) : valV T k = some v := by
  induction T with
  | nil => cases h
  | cons p r ih =>
    have nd : (p.1 :: keys r).Nodup := nd
    obtain ⟨h1, h2⟩ := List.nodup_cons.mp nd
    rcases List.mem_cons.mp h with e | h
    · subst e; exact valV_pos rfl
    · rw [valV_neg, ih h2 h]
      intro e
      exact h1 (List.mem_map.mpr ⟨_, h, e.symm⟩)
theorem mem_put {T : Tr} {k : Str} {v : V} {p : Str × V} (h : p ∈ putK T k v) : p = (k, v) ∨ (p ∈ T ∧ p.1 ≠ k) := by
  unfold putK at h
  split at h
  · obtain ⟨q, hq, rfl⟩ := List.mem_map.mp h
    by_cases e : q.1 = k
    · rw [if_pos e]; exact .inl (by rw [e])
    · rw [if_neg e]; exact .inr ⟨hq, e⟩
  · rename_i hn
    rcases List.mem_append.mp h with h | h
    · refine .inr ⟨h, fun e => hn (List.any_eq_true.mpr ⟨p, h, decide_eq_true e⟩)⟩
    · exact .inl (List.mem_singleton.mp h)
theorem keys_put (T : Tr) (k : Str) (v : V) : keys (putK T k v) = if k ∈ keys T then keys T else keys T ++ [k] := by
  have h0 := val_some (T := T) (k := k)
  rw [← valV_any] at h0
  unfold putK
  rw [h0]
  by_cases h : k ∈ keys T
  · rw [decide_eq_true h, if_pos rfl, if_pos h]
    unfold keys
    rw [List.map_map]
    refine List.map_congr_left fun p _ => ?_
    show (if p.1 = k then (p.1, v) else p).1 = p.1
    split <;> rfl
  · rw [decide_eq_false h, if_neg (by simp), if_neg h]
    unfold keys
    rw [List.map_append]; rfl
theorem mem_keys_put {T : Tr} {k q : Str} {v : V} : q ∈ keys (putK T k v) ↔ q = k ∨ q ∈ keys T := by
  rw [keys_put]
  split
  · rename_i h
    exact ⟨.inr, fun x => x.elim (fun e => e ▸ h) id⟩
  · rw [List.mem_append, List.mem_singleton]; exact Or.comm
theorem nd_put {T : Tr} {k : Str} {v : V} (h : (keys T).Nodup) : (keys (putK T k v)).Nodup := by
  rw [keys_put]
  split
  · exact h
  · rename_i hn; exact nd_snoc h hn
theorem keys_drop (T : Tr) (k : Str) : keys (dropK T k) = (keys T).filter fun q => decide (q ≠ k) := by
  unfold keys dropK
  rw [List.filter_map]; rfl
theorem mem_keys_drop {T : Tr} {k q : Str} : q ∈ keys (dropK T k) ↔ q ∈ keys T ∧ q ≠ k := by
  rw [keys_drop, List.mem_filter, decide_eq_true_eq]
theorem val_drop (T : Tr) (k j : Str) : valV (dropK T k) j = if j = k then none else valV T j := by
  induction T with
  | nil => rw [show dropK ([] : Tr) k = [] from rfl, valV_nil]; split <;> rfl
  | cons p r ih =>
    by_cases e : p.1 = k
    · rw [dropK_pos e, ih]
      split
      · rfl
      · rename_i hj
        rw [valV_neg (fun z => hj (z.symm.trans e))]
    · rw [dropK_neg e]
      by_cases e2 : p.1 = j
      · rw [valV_pos e2, valV_pos e2, if_neg (fun z => e (e2.trans z))]
      · rw [valV_neg e2, valV_neg e2, ih]
theorem mem_drop {T : Tr} {k : Str} {p : Str × V} (h : p ∈ dropK T k) : p ∈ T := dropK_mem h
theorem nd_drop {T : Tr} {k : Str} (h : (keys T).Nodup) : (keys (dropK T k)).Nodup := nd_dropK h
theorem val_ex {T : Tr} {k : Str} (h : k ∈ keys T) : ∃ v, valV T k = some v := by
  have := val_some (T := T) (k := k)
  rw [decide_eq_true h] at this
  exact Option.isSome_iff_exists.mp this
theorem nd_at {l : List Str} (nd : l.Nodup) {i j : Nat} {p q : Str} (hi : l[i]? = some p) (hj : l[j]? = some q) (h : i ≠ j) : p ≠ q := fun e => by
  subst e
  have hl : i < l.length := by
    rcases Nat.lt_or_ge i l.length with h | h
    · exact h
    · rw [List.getElem?_eq_none h] at hi; cases hi
  exact h ((List.getElem?_inj hl nd).mp (hi.trans hj.symm))
theorem put_len (T : Tr) (k : Str) (v : V) : (putK T k v).length ≤ T.length + 1 := by
  have h := congrArg List.length (keys_put T k v)
  rw [List.length_map] at h
  rw [h]
  split
  · rw [List.length_map]; omega
  · rw [List.length_append, List.length_map]; exact Nat.le_refl _
/-! ### a dict at d, plain -/
def AtD (H : Hp) (d : Addr) (T : Tr) : Prop := H d = some (.dK (kvs T))
def RdD (H : Hp) (d : Addr) (T : Tr) : Prop := Rd H d (.dK (kvs T))
theorem AtD.rd {H : Hp} {d : Addr} {T : Tr} (h : AtD H d T) : RdD H d T := Rd.of h
theorem RdD.get {H : Hp} {d : Addr} {T : Tr} (h : RdD H d T) (k : Str) : DGet H d (.str k) (valV T k) := .inl ⟨_, .inr k, h, rfl, (kvs_val T k).symm⟩
theorem RdD.getS {H : Hp} {d : Addr} {T : Tr} {k : Str} {v : V} (h : RdD H d T) (e : valV T k = some v) : DGet H d (.str k) (some v) := by
  rw [← e]; exact h.get k
theorem AtD.put {H : Hp} {d : Addr} {T : Tr} (h : AtD H d T) (hl : T.length < 16777216) (k : Str) (v : V) : DPut H d (.str k) v (upd H d (.dK (kvs (putK T k v)))) := by
  rw [← kvs_put]
  exact DPut.k (k := .inr k) h (by rw [kvs_len]; exact sl_lt hl)
theorem AtD.pop {H : Hp} {d : Addr} {T : Tr} {k : Str} {v : V} {R : V → Hp → Prop} (h : AtD H d T) (e : valV T k = some v) (q : R v (upd H d (.dK (kvs (dropK T k))))) :
    ∃ ks k' v', H d = some (.dK ks) ∧ V.str k = kV k' ∧ valV ks k' = some v' ∧ R v' (upd H d (.dK (dropK ks k'))) :=
  ⟨_, .inr k, v, h, rfl, by rw [kvs_val]; exact e, by rw [kvs_drop]; exact q⟩
theorem Same.rdd {H H' : Hp} {d : Addr} {T : Tr} (e : Same H H') (h : RdD H d T) : RdD H' d T := Same.rd e h
theorem Same.lock {H : Hp} {d : Addr} {u : HO} {od : Obj} (h : H d = some u) : ∀ b w, b ≠ d → H b = some w → upd H d (.frz od u) b = some w := fun b w n e => by rw [upd_ne n]; exact e
theorem Same.unlock {H H' : Hp} {d : Addr} {u : HO} {od : Obj} (h : H d = some u) (e : Same (upd H d (.frz od u)) H') : Same H (upd H' d u) := fun b w hb => by
  by_cases n : b = d
  · subst n
    rw [upd_same]; rw [h] at hb; exact hb
  · rw [upd_ne n]
    exact e b w (by rw [upd_ne n]; exact hb)
theorem Same.frz {H H' : Hp} {d : Addr} {u : HO} {od : Obj} (e : Same (upd H d (.frz od u)) H') : H' d = some (.frz od u) := e d _ upd_same
theorem rd_frz {H : Hp} {d : Addr} {T : Tr} {od : Obj} (h : H d = some (.frz od (.dK (kvs T)))) : RdD H d T := .inr ⟨od, h⟩
theorem seq_frz {K : PySem.W.Frag} {H : Hp} {d : Addr} {T : Tr} {od : Obj} {a : Addr} {xs : List V} (h : H d = some (.dK (kvs T))) (hs : SqL K H a xs) : SqL K (upd H d (.frz od (.dK (kvs T)))) a xs := by
  have ne : ∀ o, H a = some o → (∀ ks, o ≠ .dK ks) → a ≠ d := fun o ho hn e => by
    subst e; rw [h] at ho; exact hn _ (Option.some.inj ho).symm
  rcases hs with (hs | ⟨o, hs⟩) | hs
  · refine .inl (.inl ?_)
    rw [upd_ne (ne _ hs fun ks => by intro z; cases z)]
    exact hs
  · refine .inl (.inr ⟨o, ?_⟩)
    rw [upd_ne (ne _ hs fun ks => by intro z; cases z)]
    exact hs
  · exact .inr hs
theorem items_eqN {K : PySem.W.Frag} {H : Hp} {n : Nat} {ts : List Addr} {ks : List (Key × V)} (hf : ∀ q ∈ ks, flatB q.2 = true) (h1 : Paired (fun (t : Addr) (q : Key × V) => H t = some (.tup [kV q.1, q.2])) ts ks) :
    ∀ {us : List Addr}, Paired (fun (t : Addr) (q : Key × V) => H t = some (.tup [kV q.1, q.2])) us ks → Paired (EqN K H (n + 2)) (ts.map V.ref) (us.map V.ref) := by
  induction h1 with
  | nil => intro us h2; cases h2; exact .nil
  | @cons t q ts ks h1 _ ih =>
    intro us h2
    cases h2 with
    | @cons u _ us _ h2 r2 =>
      refine .cons (.inr (.inr (.inr (.inl ⟨t, u, _, _, rfl, rfl, SqT.of h1, SqT.of h2, ?_⟩)))) (ih (fun q hq => hf q (List.mem_cons_of_mem _ hq)) r2)
      refine .cons (.inl ⟨rfl, ?_⟩) (.cons (.inl ⟨rfl, hf q List.mem_cons_self⟩) .nil)
      cases q.1 <;> rfl
theorem Same.items {H H' : Hp} {ts : List Addr} {ks : List (Key × V)} (e : Same H H') (h : Paired (fun (t : Addr) (q : Key × V) => H t = some (.tup [kV q.1, q.2])) ts ks) : Paired (fun (t : Addr) (q : Key × V) => H' t = some (.tup [kV q.1, q.2])) ts ks := by
  induction h with
  | nil => exact .nil
  | cons h _ ih => exact .cons (e _ _ h) ih
theorem alloc {H : Hp} {p : Addr} {o : HO} (n : H p = none) : ∃ H', upd H p o = H' ∧ Same H H' ∧ H' p = some o := ⟨_, rfl, Same.new n, upd_same⟩
theorem kvs_mem {G : Tr} {x : Key × V} (h : x ∈ kvs G) : ∃ y ∈ G, x = (.inr y.1, y.2) := by
  obtain ⟨y, hy, rfl⟩ := List.mem_map.mp h
  exact ⟨y, hy, rfl⟩
theorem dict_eqR {K : PySem.W.Frag} {H : Hp} {a b : Addr} {G : Tr} (ha : RdD H a G) (hb : RdD H b G) (nd : (keys G).Nodup) (fl : ∀ x ∈ G, flatB x.2 = true) : EqR K H (EqN K H 8) (.ref a) (.ref b) := by
  refine .inr (.inr ⟨a, b, _, _, rfl, rfl, ha, hb, rfl, fun x hx => ?_⟩)
  obtain ⟨y, hy, rfl⟩ := kvs_mem hx
  exact ⟨y.2, by rw [kvs_val]; exact val_of_mem nd hy, .inl ⟨rfl, fl y hy⟩⟩
theorem drop_put (G : Tr) (k : Str) (v : V) : dropK (putK G k v) k = dropK G k := by
  unfold putK
  split
  · induction G with
    | nil => rfl
    | cons p r ih =>
      rw [List.map_cons]
      by_cases e : p.1 = k
      · rw [if_pos e, dropK_pos (p := (p.1, v)) e, dropK_pos e]
        by_cases h : (r.any fun kv => decide (kv.1 = k)) = true
        · exact ih h
        · have : r.map (fun kv => if kv.1 = k then (kv.1, v) else kv) = r := by
            refine (List.map_congr_left fun q hq => ?_).trans (List.map_id r)
            rw [if_neg]; rfl
            intro z; exact h (List.any_eq_true.mpr ⟨q, hq, decide_eq_true z⟩)
          rw [this]
      · rw [if_neg e, dropK_neg e, dropK_neg e]
        rename_i h
        rw [List.any_cons, decide_eq_false e, Bool.false_or] at h
        rw [ih h]
  · unfold dropK
    rw [List.filter_append]
    simp
/-! ### trees -/
/-- paths, each once, with texts -/
structure TreeOk (b : Nat) (G : Tr) : Prop where
  nd : (keys G).Nodup
  path : ∀ p ∈ keys G, isPathB p = true
  str : ∀ p ∈ G, ∃ z, p.2 = .str z
  len : G.length ≤ b
theorem TreeOk.nil : TreeOk 0 [] := ⟨List.nodup_nil, fun _ h => absurd h (by simp), fun _ h => absurd h (by simp), Nat.le_refl _⟩
theorem TreeOk.put {b : Nat} {G : Tr} (h : TreeOk b G) {k z : Str} (hk : isPathB k = true) : TreeOk (b + 1) (putK G k (.str z)) := by
  refine ⟨nd_put h.nd, fun p hp => ?_, fun p hp => ?_, Nat.le_trans (put_len _ _ _) (by have := h.len; omega)⟩
  · rcases mem_keys_put.mp hp with e | hp
    · subst e; exact hk
    · exact h.path p hp
  · rcases mem_put hp with e | hp
    · subst e; exact ⟨z, rfl⟩
    · exact h.str p hp.1
theorem TreeOk.mono {b c : Nat} {G : Tr} (h : TreeOk b G) (hl : b ≤ c) : TreeOk c G := ⟨h.nd, h.path, h.str, Nat.le_trans h.len hl⟩

theorem TreeOk.flat {b : Nat} {G : Tr} (ok : TreeOk b G) : ∀ x ∈ G, flatB x.2 = true := fun x hx => by obtain ⟨s, hs⟩ := ok.str x hx; rw [hs]; rfl
theorem TreeOk.drop {b : Nat} {G : Tr} (ok : TreeOk b G) (k : Str) : TreeOk b (dropK G k) :=
  ⟨nd_drop ok.nd, fun p hp => ok.path p (mem_keys_drop.mp hp).1, fun p hp => ok.str p (mem_drop hp), Nat.le_trans (List.length_filter_le _ _) ok.len⟩

theorem all_next {α : Type} {l : List α} {f : α → Bool} {j : Nat} {z : α} (h : l[j]? = some z) : (l.take (j + 1)).all f = ((l.take j).all f && f z) := by
  rw [List.take_add_one, h, List.all_append]
  simp
theorem any_next {α : Type} {l : List α} {f : α → Bool} {j : Nat} {z : α} (h : l[j]? = some z) : (l.take (j + 1)).any f = ((l.take j).any f || f z) := by
  rw [List.take_add_one, h, List.any_append]
  simp
theorem bl_map (f : Str → Bool) (ks : List Str) : (ks.map fun z => V.bl (f z)) = (ks.map f).map V.bl := by rw [List.map_map]; rfl
theorem all_kvs {G : Tr} {f : Str → Bool} : ((keys G).take (kvs G).length).all f = (keys G).all f := by
  rw [kvs_len, List.take_of_length_le]
  rw [List.length_map]; exact Nat.le_refl _
def isTreeB (T : Tr) : Bool := (keys T).all fun p => isPathB p && (aboveL p).all fun q => !(valV T q).isSome
/-- no file lies beneath another one -/
def clearB (T : Tr) : Bool := (keys T).all fun p => (keys T).all fun q => !beneathB q p
theorem isTreeB_iff (T : Tr) : isTreeB T = ((keys T).all isPathB && clearB T) := by
  rw [Bool.eq_iff_iff, Bool.and_eq_true]
  unfold isTreeB clearB
  simp only [List.all_eq_true, Bool.and_eq_true, Bool.not_eq_true']
  constructor
  · intro h
    refine ⟨fun p hp => (h p hp).1, fun p hp q hq => ?_⟩
    cases hb : beneathB q p with
    | false => rfl
    | true =>
      have := (h q hq).2 p ((mem_above q p).mpr hb)
      rw [val_some, decide_eq_true hp] at this; cases this
  · rintro ⟨h1, h2⟩ p hp
    refine ⟨h1 p hp, fun q hq => ?_⟩
    rw [val_some]
    refine decide_eq_false fun hk => ?_
    have := h2 q hk p hp
    rw [(mem_above p q).mp hq] at this; cases this
end M

/-! ### sorted at any length: texts, a dict's keys, tuples of texts -/
namespace M
open PySem PySem.Spec PyProof.Rows L2
theorem perm_uniq {α : Type} {lt : α → α → Bool} (anti : ∀ a b, lt a b = false → lt b a = false → a = b) : ∀ {l m : List α}, l.Perm m → l.Pairwise (fun a b => lt b a = false) → m.Pairwise (fun a b => lt b a = false) → l = m
  | [], m, h, _, _ => (List.Perm.eq_nil h.symm).symm
  | x :: l, [], h, _, _ => absurd h.length_eq (by simp)
  | x :: l, y :: m, h, hl, hm => by
    have e : x = y := by
      rcases List.mem_cons.mp (h.mem_iff.mp (List.mem_cons_self (a := x) (l := l))) with e | hx
      · exact e
      · rcases List.mem_cons.mp (h.mem_iff.mpr (List.mem_cons_self (a := y) (l := m))) with e | hy
        · exact e.symm
        · exact anti x y ((List.pairwise_cons.mp hm).1 x hx) ((List.pairwise_cons.mp hl).1 y hy)
    subst e
    rw [perm_uniq anti h.cons_inv (List.pairwise_cons.mp hl).2 (List.pairwise_cons.mp hm).2]
section
variable (O : KeyOrd) {β : Type} (k : β → O.α)
def srtK (l : List β) : List β := l.mergeSort fun a b => !O.blt (k b) (k a)
theorem srtK_perm (l : List β) : (srtK O k l).Perm l := List.mergeSort_perm _ _
theorem srtK_pw (l : List β) : (srtK O k l).Pairwise fun a b => O.blt (k b) (k a) = false := by
  have h := List.pairwise_mergeSort (le := fun a b : β => !O.blt (k b) (k a)) (fun a b c h1 h2 => ?_) (fun a b => ?_) l
  · exact h.imp fun {a b} h => by simpa using h
  · simp only [Bool.not_eq_true'] at h1 h2 ⊢
    cases hc : O.blt (k c) (k a) with
    | false => rfl
    | true =>
      rcases O.negTrans _ (k b) _ hc with h | h
      · rw [h2] at h; cases h
      · rw [h1] at h; cases h
  · cases h : O.blt (k b) (k a) with
    | false => rfl
    | true =>
      cases h2 : O.blt (k a) (k b) with
      | false => rfl
      | true =>
        have := O.trans _ _ _ h h2
        rw [O.irrefl] at this; cases this
theorem srtK_uniq (inj : ∀ a b, k a = k b → a = b) {l m : List β} (h : m.Perm l) (hs : m.Pairwise fun a b => O.blt (k b) (k a) = false) : m = srtK O k l :=
  perm_uniq (lt := fun a b => O.blt (k a) (k b)) (fun a b h1 h2 => inj a b (O.total _ _ h1 h2)) (h.trans (srtK_perm O k l).symm) hs (srtK_pw O k l)
end
/-- texts in order -/
def srt (l : List Str) : List Str := srtK strKind.toKeyOrd cl l
theorem srt_perm (l : List Str) : (srt l).Perm l := srtK_perm _ _ l
theorem srt_len (l : List Str) : (srt l).length = l.length := (srt_perm l).length_eq
theorem mem_srt {l : List Str} {z : Str} : z ∈ srt l ↔ z ∈ l := (srt_perm l).mem_iff
theorem nd_srt {l : List Str} (h : l.Nodup) : (srt l).Nodup := (srt_perm l).nodup_iff.mpr h
theorem rising_pw : ∀ (l : List Str) (p : Str), risingS p l = true → (p :: l).Pairwise fun a b => strKind.blt (cl b) (cl a) = false
  | [], p, _ => List.pairwise_singleton _ _
  | x :: r, p, h => by
    have h : (!ltCps x.cps.toList p.cps.toList && risingS x r) = true := h
    rw [Bool.and_eq_true, Bool.not_eq_true', ltCps_eq] at h
    have ih := rising_pw r x h.2
    refine List.pairwise_cons.mpr ⟨fun y hy => ?_, ih⟩
    rcases List.mem_cons.mp hy with e | hy
    · rw [e]; exact h.1
    · have h2 := (List.pairwise_cons.mp ih).1 y hy
      cases hc : strKind.blt (cl y) (cl p) with
      | false => rfl
      | true =>
        rcases strKind.negTrans _ (cl x) _ hc with q | q
        · rw [h2] at q; cases q
        · exact absurd (h.1.symm.trans q) (by decide)
theorem sorted_pw {l : List Str} (h : sortedS l = true) : l.Pairwise fun a b => strKind.blt (cl b) (cl a) = false := by
  cases l with
  | nil => exact .nil
  | cons p l => exact rising_pw l p h
theorem srt_uniq {l m : List Str} (h : m.Perm l) (hs : sortedS m = true) : m = srt l := srtK_uniq _ _ (fun a b e => cl_inj e) h (sorted_pw hs)
section
variable {X : Cx}
/-- sorted(xs), texts -/
def rSortedSA (K : PySem.W.Frag) : List V → Hp → VK → Prop := fun vs H Q => ∃ (a : Addr) (xs : List Str), vs = [V.ref a] ∧ SqL K H a (xs.map V.str) ∧ ∀ p, H p = none → Q (.ref p) (upd H p (.lst ((srt xs).map V.str)))
theorem cr_sortedSA : CallR X (.builtin "sorted") (rSortedSA X.K) := by
  intro pins s σ H vs us Q I r h
  obtain ⟨a, xs, rfl, hs, q⟩ := h
  obtain ⟨its, rv, hl, hz⟩ := I.list hs
  rw [Vals.ref1 r]
  refine PyProof.Rows.sorted_strsAny hl.isList rv.strs (by rw [← rv.length]; exact hz) fun out ys h1 h2 h3 => ?_
  obtain ⟨ep, he'⟩ := PyProof.Rows.sortedAll_at s.heap its out
  have e := srt_uniq h2 h3
  subst e
  have hlen : ((srt xs).map V.str).length ≤ sizeLine := by rw [List.length_map, srt_len]; rw [List.length_map] at hz; exact hz
  exact ⟨.ref _, upd H (s.heap.objs.size + 1) (.lst ((srt xs).map V.str)), I.laid (t' := s.toks) (fun _ _ => PyProof.Rows.sortedAll_old) (Nat.le_succ _) ⟨hlen, out.toList, ep, vals_of_strs h1, he'⟩, rfl, q _ (I.hok.fresh (Nat.le_succ _))⟩
/-- sorted(d), its keys texts -/
def rSortedDS : List V → Hp → VK → Prop := fun xs H Q => ∃ (a : Addr) (T : Tr), xs = [.ref a] ∧ RdD H a T ∧ T.length ≤ 16777216 ∧ ∀ p, H p = none → Q (.ref p) (upd H p (.lst ((srt (keys T)).map V.str)))
theorem cr_sortedDS (hcalm : X.calm = true) : CallR X (.builtin "sorted") rSortedDS := by
  intro pins s σ H xs us Q I r q
  obtain ⟨a, T, ex, hd, hT, q⟩ := q
  subst ex
  obtain ⟨u, eu, rx⟩ := vals1 r
  subst eu
  cases rx
  obtain ⟨z, lo, vs, rel, dd⟩ := dk_rd I.hok hd
  obtain ⟨ep, hat⟩ := dd.dictAt
  have hks : (kvs T).map (·.1) = (keys T).map Sum.inr := by unfold kvs keys; rw [List.map_map, List.map_map]; rfl
  have hkeys : vs.map (·.1) = (keys T).map Sum.inr := rel.keys.symm.trans hks
  have hl : vs.length = (keys T).length := by
    have e := congrArg List.length hkeys
    rw [List.length_map, List.length_map] at e
    exact e
  have h16 : vs.length ≤ sizeLine := by rw [hl, sizeLine_eq, List.length_map]; omega
  refine Calls.call_function_entry PyProof.Rows.kind_sorted PyProof.Rows.plain_sorted PyProof.Rows.entry_sorted (PyProof.Rows.args_sorted1 _) ?_
  unfold Builtin.«sorted»
  refine wpAny_bind (m := checkCount "sorted" 1 1 _) (wpAny_pure ?_)
  refine wpAny_bind (PySem.W.kdu_collect (A := X.A.in1) (PySem.W.kdl_dict (knd := mixKind X.prog X.w) (kvs := vs) (ep := ep) lo) (I.ok.hd hcalm) hat h16 fun h' tk acc hk hacc => ?_)
  have hal : acc.toList.length = (keys T).length := by rw [Array.length_toList, hacc.1, hl]
  have hS : StrsAre acc.toList (keys T) := strs_at hal fun j v e => by
    obtain ⟨k, x, e1, e2⟩ := hacc.2 j v (by rw [← Array.getElem?_toList]; exact e)
    have e3 : (vs.map (·.1))[j]? = some k := by rw [List.getElem?_map, e1]; all_goals rfl
    rw [hkeys, List.getElem?_map] at e3
    cases e4 : (keys T)[j]? with
    | none => rw [e4] at e3; cases e3
    | some y =>
      rw [e4] at e3
      have e5 : Sum.inr y = k := Option.some.inj e3
      subst e5
      obtain ⟨t, ev⟩ := Value.isStrOf_shape (x := y) (v := v) e2
      exact ⟨y, t, rfl, ev⟩
  have I1 : Inv X pins σ H { s with heap := h', toks := tk } := I.kept hk
  refine wpAny_bind (wpAny_newList ?_ (by rw [hal, ← hl]; exact h16))
  have hoL : (h'.push (seqObj "list" acc.toList.toArray 0)).get? h'.objs.size = some (seqObj "list" acc.toList.toArray 0) := Heap.get?_push_size _ rfl
  show wpAny _ _ _ _ _ { s with heap := h'.push (seqObj "list" acc.toList.toArray 0), toks := tk }
  refine wpAny_bind (wpAny_holding (wpAny_call_entry PyProof.Rows.slot_list_sort ⟨_, hoL, rfl⟩ PyProof.Rows.entry_list_sort
    (list_sort_treeKAny strKind_oneLt (s := { s with heap := h'.push (seqObj "list" acc.toList.toArray 0), toks := tk }) hoL hS.keysOf (fun v₁ v₂ rest e => keyKind_strs (by rw [← e]; exact hS)) (by rw [hal, ← hl]; exact h16) fun st' hp hs => ⟨_, rfl, ?_⟩)
    (PyProof.Rows.args_list_sort _)))
  obtain ⟨ys, g1, g2, g3⟩ := sorted_out_str hS hp hs
  have e := srt_uniq g2 g3
  subst e
  obtain ⟨e', he'⟩ := PyProof.Rows.sortedHeap_at (vs := acc.toList) (out := (arrOf st').map (·.2)) hoL
  have hlen : ((srt (keys T)).map V.str).length ≤ sizeLine := by
    rw [List.length_map, srt_len, ← hl]
    exact h16
  refine wpAny_pure ⟨_, rfl, .ref h'.objs.size, upd H h'.objs.size (.lst ((srt (keys T)).map V.str)), I1.laid (t' := tk) (fun b u e => ?_) (Nat.le_refl _)
    (show ObjOk X.prog X.w _ _ _ (.lst ((srt (keys T)).map V.str)) from ⟨hlen, ((arrOf st').map (·.2)).toList, e', vals_of_strs g1, by rw [Array.toArray_toList]; exact he'⟩), rfl, q _ (I1.hok.fresh (Nat.le_refl _))⟩
  have hb : b < h'.objs.size := Heap.lt_size e
  rw [PyProof.Rows.sortedHeap_old (Nat.ne_of_lt hb) (by rw [size_push']; exact Nat.lt_succ_of_lt hb)]
  exact Heap.get?_push_of_some _ e
end
end M

/-! ### sorted of tuples of texts -/
namespace M
open PySem PySem.Spec PyProof.Rows L2
abbrev tK (zs : List Str) : List (Int ⊕ List Nat) := zs.map fun z => Sum.inr (cl z)
theorem tK_inj : ∀ {a b : List Str}, tK a = tK b → a = b
  | [], [], _ => rfl
  | [], _ :: _, h => by cases h
  | _ :: _, [], h => by cases h
  | x :: a, y :: b, h => by
    have h1 := List.cons.inj (show Sum.inr (cl x) :: tK a = Sum.inr (cl y) :: tK b from h)
    rw [cl_inj (Sum.inr.inj h1.1), tK_inj h1.2]
/-- tuples of texts in order -/
def srtT (l : List (List Str)) : List (List Str) := srtK (listOrd itemOrd) tK l
theorem srtT_perm (l : List (List Str)) : (srtT l).Perm l := srtK_perm _ _ l
theorem srtT_uniq {l m : List (List Str)} (h : m.Perm l) (hs : m.Pairwise fun a b => lexLt itemOrd (tK b) (tK a) = false) : m = srtT l := srtK_uniq (listOrd itemOrd) tK (fun a b e => tK_inj e) h hs
def rSortedTS : List V → Hp → VK → Prop := fun vs H Q => ∃ (K : PySem.W.Frag) (a : Addr) (ts : List Addr) (k : Addr → List Str), vs = [V.ref a] ∧ H a = some (.lst (ts.map V.ref)) ∧ (∀ t ∈ ts, H t = some (.tup ((k t).map V.str)) ∧ k t ≠ []) ∧
  ∀ (us : List Addr) p, us.Perm ts → us.map k = srtT (ts.map k) → H p = none → Q (.ref p) (upd H p (.lst (us.map V.ref)))
def adr : Value → Addr
  | .ref a => a
  | _ => 0
theorem refs_its : ∀ {ts : List Addr} {its : List Value}, Vals (ts.map V.ref) its → its = ts.map Value.ref
  | [], _, .nil => rfl
  | t :: ts, _, .cons r q => by
    cases (show _ = Value.ref t from r)
    rw [refs_its q]; rfl
theorem items_key : ∀ {zs : List Str} {its : List Value} {i : Nat}, Vals (zs.map V.str) its → tupItems (fun _ => true) i its = some (tK zs)
  | [], _, i, .nil => rfl
  | z :: zs, _, i, .cons r q => by
    obtain ⟨t, rfl⟩ := r
    show (if (fun _ => true) i = true then (tupItems (fun _ => true) (i + 1) _).map (Sum.inr z.cps.toList :: ·) else none) = _
    rw [if_pos rfl, items_key q]; rfl
theorem tups_of {h : Heap} {shape : Nat → Bool} : ∀ {vs : List Value}, (∀ v ∈ vs, ∃ f, TupOf h shape v f) → ∃ fs, TupsOf h shape vs fs ∧ fs.length = vs.length
  | [], _ => ⟨[], .nil, rfl⟩
  | v :: vs, hv => by
    obtain ⟨f, hf⟩ := hv v List.mem_cons_self
    obtain ⟨fs, hfs, hl⟩ := tups_of fun u hu => hv u (List.mem_cons_of_mem _ hu)
    exact ⟨f :: fs, .cons hf hfs, by rw [List.length_cons, List.length_cons, hl]⟩
section
variable {X : Cx}
theorem cr_sortedTS : CallR X (.builtin "sorted") rSortedTS := by
  intro pins s σ H vs us Q I r h
  obtain ⟨_, a, ts, k, rfl, hs, hk, q⟩ := h
  obtain ⟨its, rv, hl, hz⟩ := I.list (SqL.of (K := X.K) hs)
  obtain ⟨u, rfl, ru⟩ := vals1 r
  obtain rfl : u = Value.ref a := ru
  have hi := refs_its rv
  subst hi
  rw [List.length_map] at hz
  have swo : SrtO.Swo fun v u : Value => lexLt itemOrd (tK (k (adr v))) (tK (k (adr u))) := by
    refine ⟨fun x y h => ?_, fun x y z h1 h2 => ?_⟩
    · cases hb : lexLt itemOrd (tK (k (adr y))) (tK (k (adr x))) with
      | false => rfl
      | true => exact absurd ((lex_trans _ _ _ h hb).symm.trans (lex_irrefl _)) (by decide)
    · cases hb : lexLt itemOrd (tK (k (adr z))) (tK (k (adr x))) with
      | false => rfl
      | true =>
        rcases lex_negTrans _ (tK (k (adr y))) _ hb with q | q
        · exact absurd (h2.symm.trans q) (by decide)
        · exact absurd (h1.symm.trans q) (by decide)
  refine SrtO.sorted_ord swo hl.isList (by rw [List.length_map]; exact hz) (fun h2 h₁ a' _ kk => ?_) fun out hs hb => ?_
  · intro h' keep
    have ob : ∀ t ∈ ts, ∃ its2 o n, Vals ((k t).map V.str) its2 ∧ h'.get? t = some o ∧ o.cls = .type "tuple" ∧ o.data = .seq its2.toArray n := fun t ht => by
      obtain ⟨_, its2, r2, o, ho, hc, n, hd⟩ := I.hok _ _ (hk t ht).1
      have h3 := kk t o ho
      exact ⟨its2, o, n, r2, keep t o h3.1 h3.2, hc, hd⟩
    obtain ⟨fs, hfs, hlen⟩ := tups_of (h := h') (shape := fun _ => true) (vs := ts.map Value.ref) fun v hv => by
      obtain ⟨t, ht, rfl⟩ := List.mem_map.mp hv
      obtain ⟨its2, o, n, r2, ho, hc, hd⟩ := ob t ht
      obtain ⟨z, zs, ez⟩ := List.exists_cons_of_ne_nil (hk t ht).2
      rw [ez] at r2
      cases r2 with
      | @cons _ y _ ys ry _ =>
        obtain ⟨tk, rfl⟩ := ry
        exact ⟨_, t, o, _, n, rfl, ho, hc, hd, rfl, fun h => (by cases h), fun _ => ⟨_, _, rfl⟩⟩
    refine ⟨tuples' true, fun Q E hq => tup_kind (s := { s with heap := h' }) (by rw [hlen]; omega) hfs hq, fun p q hm hm' => ?_⟩
    have key : ∀ v ∈ ts.map Value.ref, (tupKind h' fun _ => true).keyOf v = some (tK (k (adr v))) := fun v hv => by
      obtain ⟨t, ht, rfl⟩ := List.mem_map.mp hv
      obtain ⟨its2, o, n, r2, ho, hc, hd⟩ := ob t ht
      show tupKey h' _ (.ref t) = _
      simp only [tupKey, ho, hd]
      exact items_key r2
    exact tup_ltAt (s := { s with heap := h' }) true _ _ p.1 q.1 _ _ (key _ hm) (key _ hm') ⟨rfl, rfl⟩
  · obtain ⟨ep, he'⟩ := PyProof.Rows.sortedAll_at s.heap (ts.map Value.ref) out.toArray
    have pm : (out.map adr).Perm ts := by
      have := hb.perm.map adr
      rw [List.map_map] at this
      have e : (adr ∘ Value.ref) = id := rfl
      rw [e, List.map_id] at this
      exact this
    have ho : out = (out.map adr).map Value.ref := by
      rw [List.map_map]
      conv => lhs; rw [← List.map_id out]
      refine List.map_congr_left fun v hv => ?_
      obtain ⟨t, _, rfl⟩ := List.mem_map.mp (hb.perm.mem_iff.mp hv)
      rfl
    have hsort : (out.map adr).map k = srtT (ts.map k) := by
      refine srtT_uniq (pm.map k) ?_
      rw [List.map_map]
      exact List.pairwise_map.mpr hs
    have hv : Vals ((out.map adr).map V.ref) out := by
      rw [ho]
      have : ∀ l : List Addr, Vals ((l.map Value.ref).map adr |>.map V.ref) (l.map Value.ref) := fun l => by
        induction l with
        | nil => exact .nil
        | cons b l ih => exact .cons rfl ih
      exact this _
    have hlen : ((out.map adr).map V.ref).length ≤ sizeLine := by rw [List.length_map, pm.length_eq]; exact hz
    exact ⟨.ref _, upd H (s.heap.objs.size + 1) (.lst ((out.map adr).map V.ref)), I.laid (t' := s.toks) (fun _ _ => PyProof.Rows.sortedAll_old) (Nat.le_succ _) ⟨hlen, out, ep, hv, he'⟩, rfl, q _ _ pm hsort (I.hok.fresh (Nat.le_succ _))⟩
end
end M

/-! ### deeds and rows of deeds, as plain functions -/
namespace M
open PySem PySem.Spec PyProof.Rows L2
/-- whether a file of the tree lies above the path, or beneath it -/
def hindB (G : Tr) (p : Str) : Bool := ((aboveL p).any fun q => (valV G q).isSome) || (keys G).any fun q => beneathB q p
/-- no file of the tree lies above the path, or beneath it, as the law asks it -/
def freeB (G : Tr) (p : Str) : Bool := (keys G).all fun o => !(beneathB o p || beneathB p o)
theorem free_iff {G : Tr} {p : Str} : freeB G p = true ↔ ∀ o ∈ keys G, beneathB o p = false ∧ beneathB p o = false := by
  rw [freeB, List.all_eq_true]
  simp only [Bool.not_eq_true', Bool.or_eq_false_iff]
theorem hind_free (G : Tr) (p : Str) : hindB G p = !freeB G p := by
  rw [Bool.eq_iff_iff, hindB, Bool.or_eq_true, List.any_eq_true, List.any_eq_true, Bool.not_eq_true', ← Bool.not_eq_true, free_iff]
  constructor
  · rintro (⟨q, hq, h⟩ | ⟨q, hq, h⟩) hall
    · rw [val_some, decide_eq_true_eq] at h
      have := (hall q h).2
      rw [(mem_above p q).mp hq] at this; cases this
    · have := (hall q hq).1
      rw [h] at this; cases this
  · intro h
    refine Classical.byContradiction fun hno => h fun o ho => ?_
    refine ⟨Bool.eq_false_iff.mpr fun hb => hno (.inr ⟨o, ho, hb⟩), Bool.eq_false_iff.mpr fun hb => hno (.inl ⟨o, (mem_above p o).mpr hb, ?_⟩)⟩
    rw [val_some, decide_eq_true_eq]; exact ho
/-- a deed -/
inductive Deed where
  | cut (p : Str) | put (p z : Str)
def Deed.path : Deed → Str
  | .cut p => p
  | .put p _ => p
def Deed.strs : Deed → List Str
  | .cut p => ["cut", p]
  | .put p z => ["put", p, z]
def Deed.vs : Deed → List V
  | .cut p => [.str "cut", .str p]
  | .put p z => [.str "put", .str p, .str z]
/-- what a deed makes of a tree, or the refusal -/
inductive Told where
  | tree (G : Tr) | noPath | noFile | inTheWay
def toldWord : Told → Str
  | .tree _ => "made"
  | .noPath => "NoPath"
  | .noFile => "NoFile"
  | .inTheWay => "InTheWay"
def doneR (G : Tr) (e : Deed) : Told :=
  if isPathB e.path = false then .noPath else match e with
  | .cut p => if (valV G p).isSome = true then .tree (dropK G p) else .noFile
  | .put p z => if hindB G p = true then .inTheWay else .tree (putK G p (.str z))
section
variable {G : Tr} {e : Deed} {p z : Str}
theorem done_no (h : isPathB e.path = false) : doneR G e = .noPath := if_pos h
theorem done_cut (h : isPathB p = true) : doneR G (.cut p) = if (valV G p).isSome = true then .tree (dropK G p) else .noFile := if_neg (by show ¬ isPathB p = false; rw [h]; simp)
theorem done_put (h : isPathB p = true) : doneR G (.put p z) = if hindB G p = true then .inTheWay else .tree (putK G p (.str z)) := if_neg (by show ¬ isPathB p = false; rw [h]; simp)
end
theorem TreeOk.done {b : Nat} {G G' : Tr} {e : Deed} (ok : TreeOk b G) (h : doneR G e = .tree G') : TreeOk (b + 1) G' := by
  cases hb : isPathB e.path with
  | false => rw [done_no hb] at h; cases h
  | true =>
    cases e with
    | cut p =>
      rw [done_cut (show isPathB p = true from hb)] at h
      split at h
      · rw [← Told.tree.inj h]; exact (ok.drop p).mono (Nat.le_succ _)
      · cases h
    | put p z =>
      rw [done_put (show isPathB p = true from hb)] at h
      split at h
      · cases h
      · rw [← Told.tree.inj h]; exact ok.put hb
/-- a row of deeds -/
def foldR : Tr → List Deed → Told
  | G, [] => .tree G
  | G, e :: r => match doneR G e with
    | .tree G' => foldR G' r
    | x => x
theorem fold_ok {G G' : Tr} {e : Deed} {r : List Deed} (h : doneR G e = .tree G') : foldR G (e :: r) = foldR G' r := by
  rw [foldR, h]
theorem fold_no {G : Tr} {e : Deed} {r : List Deed} (h : ∀ G', doneR G e ≠ .tree G') : foldR G (e :: r) = doneR G e := by
  rw [foldR]
  cases hd : doneR G e with
  | tree G' => exact absurd hd (h G')
  | noPath => rfl
  | noFile => rfl
  | inTheWay => rfl
theorem fold_app : ∀ (ds : List Deed) (G G' : Tr) (es : List Deed), foldR G ds = .tree G' → foldR G (ds ++ es) = foldR G' es
  | [], G, G', es, h => by rw [← Told.tree.inj (show Told.tree G = .tree G' from h)]; rfl
  | e :: r, G, G', es, h => by
    cases hd : doneR G e with
    | tree G2 =>
      rw [fold_ok hd] at h
      show foldR G (e :: (r ++ es)) = _
      rw [fold_ok hd]
      exact fold_app r G2 G' es h
    | noPath => rw [fold_no (by rw [hd]; intro _ h; cases h), hd] at h; cases h
    | noFile => rw [fold_no (by rw [hd]; intro _ h; cases h), hd] at h; cases h
    | inTheWay => rw [fold_no (by rw [hd]; intro _ h; cases h), hd] at h; cases h
theorem vs_strs (e : Deed) : e.vs = e.strs.map V.str := by cases e <;> rfl
theorem fold_next {G Gi G2 : Tr} {ds : List Deed} {e : Deed} {i : Nat} (h : foldR G (ds.take i) = .tree Gi) (he : ds[i]? = some e) (hd : doneR Gi e = .tree G2) : foldR G (ds.take (i + 1)) = .tree G2 := by
  rw [List.take_add_one, he, show (some e).toList = [e] from rfl, fold_app _ _ _ _ h, fold_ok hd]; rfl
theorem fold_stop {G Gi : Tr} {ds : List Deed} {e : Deed} {i : Nat} (h : foldR G (ds.take i) = .tree Gi) (he : ds[i]? = some e) (hd : ∀ G', doneR Gi e ≠ .tree G') : foldR G ds = doneR Gi e := by
  obtain ⟨hi, hv⟩ := List.getElem?_eq_some_iff.mp he
  have e1 : ds = ds.take i ++ (e :: ds.drop (i + 1)) := by
    conv => lhs; rw [← List.take_append_drop i ds]
    rw [List.drop_eq_getElem_cons hi, hv]
  rw [e1, fold_app _ _ _ _ h, fold_no hd]
theorem TreeOk.fold : ∀ {ds : List Deed} {b : Nat} {G G' : Tr}, TreeOk b G → foldR G ds = .tree G' → TreeOk (b + ds.length) G'
  | [], b, G, G', ok, h => by rw [← Told.tree.inj (show Told.tree G = .tree G' from h)]; exact ok
  | e :: r, b, G, G', ok, h => by
    cases hd : doneR G e with
    | tree G2 =>
      rw [fold_ok hd] at h
      exact ((ok.done hd).fold h).mono (by rw [List.length_cons]; omega)
    | noPath => rw [fold_no (by rw [hd]; intro _ h; cases h), hd] at h; cases h
    | noFile => rw [fold_no (by rw [hd]; intro _ h; cases h), hd] at h; cases h
    | inTheWay => rw [fold_no (by rw [hd]; intro _ h; cases h), hd] at h; cases h
/-! trees in which no file lies beneath another one -/
def Clear (G : Tr) : Prop := ∀ p ∈ keys G, ∀ q ∈ keys G, beneathB q p = false
theorem beneath_irr (p : Str) : beneathB p p = false := Bool.eq_false_iff.mpr fun h => by
  obtain ⟨r, e⟩ := (beneath_iff p p).mp h
  have := congrArg List.length e
  rw [List.length_append, List.length_cons] at this
  omega
theorem Clear.nil : Clear [] := fun _ h => absurd h (by simp)
theorem Clear.put {G : Tr} {p : Str} {v : V} (c : Clear G) (h : freeB G p = true) : Clear (putK G p v) := fun a ha b hb => by
  have h := free_iff.mp h
  rcases mem_keys_put.mp ha with e | ha
  · rcases mem_keys_put.mp hb with e2 | hb
    · rw [e, e2]; exact beneath_irr p
    · rw [e]; exact (h b hb).1
  · rcases mem_keys_put.mp hb with e2 | hb
    · rw [e2]; exact (h a ha).2
    · exact c a ha b hb
theorem Clear.drop {G : Tr} (c : Clear G) (p : Str) : Clear (dropK G p) := fun a ha b hb => c a (mem_keys_drop.mp ha).1 b (mem_keys_drop.mp hb).1
theorem Clear.free {G N : Tr} (c : Clear N) (hs : ∀ q ∈ keys G, q ∈ keys N) {p : Str} (hp : p ∈ keys N) : freeB G p = true := free_iff.mpr fun o ho => ⟨c p hp o (hs o ho), c o (hs o ho) p hp⟩
theorem Clear.hind {G N : Tr} (c : Clear N) (hs : ∀ q ∈ keys G, q ∈ keys N) {p : Str} (hp : p ∈ keys N) : hindB G p = false := by rw [hind_free, c.free hs hp]; rfl
/-! what lies between two trees -/
def txtV : Option V → Str
  | some (.str z) => z
  | _ => ""
def txt (G : Tr) (p : Str) : Str := txtV (valV G p)
theorem TreeOk.val {b : Nat} {G : Tr} (ok : TreeOk b G) {p : Str} (h : p ∈ keys G) : valV G p = some (.str (txt G p)) := by
  obtain ⟨v, hv⟩ := val_ex h
  obtain ⟨z, hz⟩ := ok.str _ (val_mem hv)
  have hz : v = .str z := hz
  rw [txt, hv, hz]; rfl
theorem TreeOk.opt {b : Nat} {G : Tr} (ok : TreeOk b G) (p : Str) : valV G p = none ∨ ∃ z, valV G p = some (.str z) := by
  by_cases h : p ∈ keys G
  · exact .inr ⟨_, ok.val h⟩
  · exact .inl (val_none h)
def cutsL (A B : Tr) : List Str := (srt (keys A)).filter fun p => !(valV B p).isSome
def putsL (A B : Tr) : List Str := (srt (keys B)).filter fun p => !decide (valV A p = valV B p)
def betweenL (A B : Tr) : List Deed := (cutsL A B).map .cut ++ (putsL A B).map fun p => .put p (txt B p)
theorem mem_cuts {A B : Tr} {p : Str} : p ∈ cutsL A B ↔ p ∈ keys A ∧ p ∉ keys B := by
  rw [cutsL, List.mem_filter, mem_srt, val_some]
  simp
theorem mem_puts {A B : Tr} {p : Str} : p ∈ putsL A B ↔ p ∈ keys B ∧ valV A p ≠ valV B p := by
  rw [putsL, List.mem_filter, mem_srt]
  simp
theorem fold_cuts {ds : List Deed} : ∀ (L : List Str) (G : Tr), L.Nodup → (∀ p ∈ L, p ∈ keys G ∧ isPathB p = true) → foldR G (L.map .cut ++ ds) = foldR (L.foldl dropK G) ds
  | [], _, _, _ => rfl
  | p :: L, G, hn, h => by
    obtain ⟨n1, n2⟩ := List.nodup_cons.mp hn
    obtain ⟨hp, hb⟩ := h p List.mem_cons_self
    have hd : doneR G (.cut p) = .tree (dropK G p) := by rw [done_cut hb, val_some, decide_eq_true hp, if_pos rfl]
    show foldR G (.cut p :: (L.map .cut ++ ds)) = _
    rw [fold_ok hd]
    exact fold_cuts L (dropK G p) n2 fun q hq => ⟨mem_keys_drop.mpr ⟨(h q (List.mem_cons_of_mem _ hq)).1, fun e => n1 (by rw [← e]; exact hq)⟩, (h q (List.mem_cons_of_mem _ hq)).2⟩
theorem val_drops : ∀ (L : List Str) (G : Tr) (j : Str), valV (L.foldl dropK G) j = if j ∈ L then none else valV G j
  | [], _, _ => by simp
  | p :: L, G, j => by
    rw [List.foldl_cons, val_drops L, val_drop]
    by_cases e : j = p
    · subst e; simp
    · by_cases hj : j ∈ L
      · rw [if_pos hj, if_pos (List.mem_cons_of_mem _ hj)]
      · rw [if_neg hj, if_neg e, if_neg (fun h => (List.mem_cons.mp h).elim e hj)]
theorem mem_drops {L : List Str} {G : Tr} {q : Str} : q ∈ keys (L.foldl dropK G) ↔ q ∈ keys G ∧ q ∉ L := by
  have h1 := val_some (T := L.foldl dropK G) (k := q)
  have h2 := val_some (T := G) (k := q)
  rw [val_drops] at h1
  by_cases h : q ∈ L
  · rw [if_pos h] at h1
    have : ¬ q ∈ keys (L.foldl dropK G) := of_decide_eq_false h1.symm
    exact ⟨fun x => absurd x this, fun x => absurd h x.2⟩
  · rw [if_neg h] at h1
    rw [h1] at h2
    exact ⟨fun x => ⟨of_decide_eq_true (h2.symm.trans (decide_eq_true x)), h⟩, fun x => of_decide_eq_true (h2.trans (decide_eq_true x.1))⟩
theorem fold_puts {N : Tr} (c : Clear N) (f : Str → Str) : ∀ (L : List Str) (G : Tr), (∀ p ∈ L, p ∈ keys N ∧ isPathB p = true) → (∀ q ∈ keys G, q ∈ keys N) →
    foldR G (L.map fun p => .put p (f p)) = .tree (L.foldl (fun G p => putK G p (.str (f p))) G)
  | [], _, _, _ => rfl
  | p :: L, G, h, hs => by
    obtain ⟨hp, hb⟩ := h p List.mem_cons_self
    have hd : doneR G (.put p (f p)) = .tree (putK G p (.str (f p))) := by rw [done_put hb, c.hind hs hp, if_neg (by simp)]
    show foldR G (.put p (f p) :: L.map _) = _
    rw [fold_ok hd]
    exact fold_puts c f L (putK G p (.str (f p))) (fun q hq => h q (List.mem_cons_of_mem _ hq)) fun q hq => (mem_keys_put.mp hq).elim (fun e => by rw [e]; exact hp) (hs q)
theorem val_putsG (f : Str → Str) : ∀ (L : List Str) (G : Tr) (j : Str), valV (L.foldl (fun G p => putK G p (.str (f p))) G) j = if j ∈ L then some (.str (f j)) else valV G j
  | [], _, _ => by simp
  | p :: L, G, j => by
    rw [List.foldl_cons, val_putsG f L, valV_put]
    by_cases hj : j ∈ L
    · rw [if_pos hj, if_pos (List.mem_cons_of_mem _ hj)]
    · by_cases e : j = p
      · subst e; rw [if_neg hj, if_pos rfl, if_pos List.mem_cons_self]
      · rw [if_neg hj, if_neg e, if_neg (fun h => (List.mem_cons.mp h).elim e hj)]
/-- the row leads from the one to the other -/
theorem between_fold {A B : Tr} {b c : Nat} (hA : TreeOk b A) (hB : TreeOk c B) (cl : Clear B) : ∃ G, foldR A (betweenL A B) = .tree G ∧ (∀ j, valV G j = valV B j) := by
  have h1 : foldR A (betweenL A B) = _ := fold_cuts (cutsL A B) A ((nd_srt hA.nd).filter _) fun p hp => ⟨(mem_cuts.mp hp).1, hA.path p (mem_cuts.mp hp).1⟩
  refine ⟨_, h1.trans (fold_puts cl (txt B) (putsL A B) _ (fun p hp => ⟨(mem_puts.mp hp).1, hB.path p (mem_puts.mp hp).1⟩) fun q hq => ?_), fun j => ?_⟩
  · obtain ⟨q1, q2⟩ := mem_drops.mp hq
    exact Classical.byContradiction fun h => q2 (mem_cuts.mpr ⟨q1, h⟩)
  · rw [val_putsG, val_drops]
    by_cases hj : j ∈ putsL A B
    · rw [if_pos hj, hB.val (mem_puts.mp hj).1]
    · rw [if_neg hj]
      by_cases hb : j ∈ keys B
      · rw [if_neg fun h => (mem_cuts.mp h).2 hb]
        exact Classical.byContradiction fun h => hj (mem_puts.mpr ⟨hb, h⟩)
      · rw [val_none hb]
        split
        · rfl
        · rename_i h
          exact val_none fun ha => h (mem_cuts.mpr ⟨ha, hb⟩)
/-- two dicts of like files are equal -/
theorem nd_len {α : Type} [DecidableEq α] {a b : List α} (ha : a.Nodup) (hb : b.Nodup) (h : ∀ x, x ∈ a ↔ x ∈ b) : a.length = b.length :=
  Nat.le_antisymm (ha.length_le_of_subset fun x hx => (h x).mp hx) (hb.length_le_of_subset fun x hx => (h x).mpr hx)
theorem keys_iff {A B : Tr} (h : ∀ j, valV A j = valV B j) (x : Str) : x ∈ keys A ↔ x ∈ keys B := by
  have h1 := val_some (T := A) (k := x)
  have h2 := val_some (T := B) (k := x)
  rw [h x] at h1
  rw [h1] at h2
  exact decide_eq_decide.mp h2
theorem dict_eqV {K : PySem.W.Frag} {H : Hp} {a b : Addr} {A B : Tr} (ha : RdD H a A) (hb : RdD H b B) (n1 : (keys A).Nodup) (n2 : (keys B).Nodup) (fl : ∀ x ∈ A, flatB x.2 = true) (h : ∀ j, valV A j = valV B j) : EqR K H (EqN K H 8) (.ref a) (.ref b) := by
  refine .inr (.inr ⟨a, b, _, _, rfl, rfl, ha, hb, ?_, fun x hx => ?_⟩)
  · rw [kvs_len, kvs_len]
    have := nd_len n1 n2 (keys_iff h)
    rwa [List.length_map, List.length_map] at this
  · obtain ⟨y, hy, rfl⟩ := kvs_mem hx
    exact ⟨y.2, by rw [kvs_val, ← h]; exact val_of_mem n1 hy, .inl ⟨rfl, fl y hy⟩⟩
end M

/-! ### comprehensions that make objects; rows of deeds in memory -/
namespace M
open PySem PySem.Spec PyProof.Rows L2
theorem Paired.imp {α β : Type} {R S : α → β → Prop} (h : ∀ x y, R x y → S x y) : ∀ {xs : List α} {ys : List β}, Paired R xs ys → Paired S xs ys
  | _, _, .nil => .nil
  | _, _, .cons a t => .cons (h _ _ a) (Paired.imp h t)
theorem Paired.snoc {α β : Type} {R : α → β → Prop} {x : α} {y : β} (hp : R x y) : ∀ {as : List α} {bs : List β}, Paired R as bs → Paired R (as ++ [x]) (bs ++ [y])
  | _, _, .nil => .cons hp .nil
  | _, _, .cons a t => .cons a (Paired.snoc hp t)
theorem Paired.app {α β : Type} {R : α → β → Prop} {cs : List α} {ds : List β} (h2 : Paired R cs ds) : ∀ {as : List α} {bs : List β}, Paired R as bs → Paired R (as ++ cs) (bs ++ ds)
  | _, _, .nil => h2
  | _, _, .cons a t => .cons a (Paired.app h2 t)
theorem Paired.take {α β : Type} {R : α → β → Prop} : ∀ {as : List α} {bs : List β} (n : Nat), Paired R as bs → Paired R (as.take n) (bs.take n)
  | _, _, 0, _ => by rw [List.take_zero, List.take_zero]; exact .nil
  | _, _, _ + 1, .nil => .nil
  | _, _, n + 1, .cons a t => .cons a (Paired.take n t)
theorem Paired.drop {α β : Type} {R : α → β → Prop} : ∀ {as : List α} {bs : List β} (n : Nat), Paired R as bs → Paired R (as.drop n) (bs.drop n)
  | _, _, 0, h => h
  | _, _, _ + 1, .nil => .nil
  | _, _, n + 1, .cons _ t => Paired.drop n t
theorem Paired.get {α β : Type} {R : α → β → Prop} : ∀ {as : List α} {bs : List β} {i : Nat} {x : α}, Paired R as bs → as[i]? = some x → ∃ y, bs[i]? = some y ∧ R x y
  | _, _, _, _, .nil, h => by simp at h
  | _, _, 0, _, .cons a _, h => by cases (show some _ = some _ from h); exact ⟨_, rfl, a⟩
  | _, _, i + 1, _, .cons _ t, h => by
    obtain ⟨y, hy, r⟩ := Paired.get (i := i) t (by simpa using h)
    exact ⟨y, by simpa using hy, r⟩
theorem Paired.map {α β γ : Type} {R : γ → β → Prop} {f : α → γ} : ∀ {xs : List α} {ys : List β}, Paired R (xs.map f) ys → Paired (fun x y => R (f x) y) xs ys
  | [], _, .nil => .nil
  | _ :: _, _, .cons a t => .cons a (Paired.map t)
section
variable {K : PySem.W.Frag} {J : It} {n : Nat} {G : Hp → Prop} {te : TE} {tt : TT} {vs : List Nat} {σ : L2.St} {H1 : Hp} {D : Addr} {Qd : Hp → Prop} {xs : List V} {j : Nat}
/-- the elements that pass the test: of each a fact that holds of the memory, and stays while what stood stays -/
theorem lcR (w : Walk J n G (YAt xs)) (hx : xs.length = n) (hG : ∀ H', Same H1 H' → G H') (hD : H1 D = none) (p : V → Bool) (R : Hp → V → V → Prop)
    (mono : ∀ H H' x y, (∀ b o, b ≠ D → H b = some o → H' b = some o) → R H x y → R H' x y) (hn : n ≤ 16777216) (hw : ∀ x, wipe ((wipe σ vs).set j (some x)) vs = wipe σ vs)
    (ht : ∀ x H, x ∈ xs → Same H1 H → ∀ Q2 : Bool → Hp → Prop, (∀ H', Same H H' → Q2 (p x) H') → tt ((wipe σ vs).set j (some x)) H Q2)
    (hs : ∀ x H, x ∈ xs → p x = true → Same H1 H → (∃ acc, H D = some (.lst acc)) → ∀ Q2 : VK, (∀ y H', Same H H' → R H' x y → Q2 y H') → te ((wipe σ vs).set j (some x)) H Q2)
    (hd : ∀ ys H', Paired (R H') (xs.filter p) ys → Same H1 H' → H' D = some (.lst ys) → Qd H') :
    ∃ W : Nat → Nat → Hp → Prop, (∃ m, W 0 m (upd H1 D (.lst []))) ∧ ∀ i m H, W i m H →
      (J.stop i H ∧ Qd H) ∨ (J.go i H ∧ ∃ Nx : Hp → Prop, (∀ H', Nx H' → ∃ m', m' < m ∧ W (i + 1) m' H') ∧ ∀ x H', J.yld i H x H' → gName j x (wipe σ vs) H' fun σ2 H2 => wipe σ2 vs = wipe σ vs ∧ tt σ2 H2 fun b H3 =>
        if b = true then te σ2 H3 fun y H4 => ∃ acc, H4 D = some (.lst acc) ∧ acc.length < sizeLine ∧ Nx (upd H4 D (.lst (acc ++ [y]))) else Nx H3) := by
  have tk : ∀ {i : Nat} {x : V}, xs[i]? = some x → xs.take (i + 1) = xs.take i ++ [x] := fun h => by rw [List.take_add_one, h]; rfl
  refine lc_it w (fun i H => Same H1 H ∧ ∃ ys, H D = some (.lst ys) ∧ Paired (R H) ((xs.take i).filter p) ys) ⟨Same.new hD, [], upd_same, by simp; exact .nil⟩ (fun i H _ q => hG H q.1) ?_ ?_
  · rintro i x H H0 hi ⟨e, ys, hacc, hp⟩ ⟨rfl, hix⟩
    have hx' : x ∈ xs := List.mem_of_getElem? hix
    refine ⟨hw _, ?_⟩
    refine ht x _ hx' e _ fun H' e' => ?_
    have hp' : Paired (R H') ((xs.take i).filter p) ys := Paired.imp (fun x y r => mono _ _ _ _ (fun b o _ hb => e' b o hb) r) hp
    refine iteB (fun hb => ?_) fun hb => ?_
    · refine hs x H' hx' hb (e.trans e') ⟨ys, e' _ _ hacc⟩ _ fun y H2 e2 r => ?_
      have hl : ys.length ≤ i := by
        rw [← hp.length]
        refine Nat.le_trans (List.length_filter_le _ _) ?_
        rw [List.length_take]; omega
      refine ⟨ys, e2 _ _ (e' _ _ hacc), sl_lt (by omega), Same.mut ((e.trans e').trans e2) hD, ys ++ [y], upd_same, ?_⟩
      rw [tk hix, List.filter_append, show [x].filter p = [x] by simp [hb]]
      refine Paired.snoc ?_ (Paired.imp (fun x y r => mono _ _ _ _ (fun b o n hb => (upd_ne n).trans (e2 b o hb)) r) hp')
      exact mono _ _ _ _ (fun b o n hb => (upd_ne n).trans hb) r
    · refine ⟨e.trans e', ys, e' _ _ hacc, ?_⟩
      rw [tk hix, List.filter_append, show [x].filter p = [] by simp [hb], List.append_nil]
      exact hp'
  · rintro H ⟨e, ys, hacc, hp⟩
    rw [← hx, List.take_length] at hp
    exact hd ys H hp e hacc
end
/-- a tuple of texts, new -/
def TupAt (D : Addr) (f : V → List Str) : Hp → V → V → Prop := fun H x y => ∃ t, y = .ref t ∧ t ≠ D ∧ H t = some (.tup ((f x).map V.str))
theorem TupAt.mono {D : Addr} {f : V → List Str} (H H' : Hp) (x y : V) (h : ∀ b o, b ≠ D → H b = some o → H' b = some o) (r : TupAt D f H x y) : TupAt D f H' x y := by
  obtain ⟨t, e, n, q⟩ := r
  exact ⟨t, e, n, h _ _ n q⟩
/-- tuples of texts at their addresses -/
def TsAt (H : Hp) (ts : List Addr) (ks : List (List Str)) : Prop := Paired (fun t (k : List Str) => H t = some (.tup (k.map V.str))) ts ks
theorem TsAt.of {D : Addr} {f : V → List Str} {H : Hp} : ∀ {xs ys : List V}, Paired (TupAt D f H) xs ys → ∃ ts : List Addr, ys = ts.map V.ref ∧ TsAt H ts (xs.map f)
  | _, _, .nil => ⟨[], rfl, .nil⟩
  | _, _, .cons ⟨t, e, _, h⟩ r => by
    obtain ⟨ts, e2, h2⟩ := TsAt.of r
    exact ⟨t :: ts, by rw [e, e2]; rfl, .cons h h2⟩
theorem TsAt.same {H H' : Hp} {ts : List Addr} {ks : List (List Str)} (h : TsAt H ts ks) (e : Same H H') : TsAt H' ts ks := Paired.imp (fun _ _ r => e _ _ r) h
theorem TsAt.upd {H : Hp} {ts : List Addr} {ks : List (List Str)} {p : Addr} {o : HO} (h : TsAt H ts ks) (n : p ∉ ts) : TsAt (upd H p o) ts ks := by
  induction h with
  | nil => exact .nil
  | cons a t ih => exact .cons ((upd_ne (fun e => n (by rw [e]; exact List.mem_cons_self))).trans a) (ih fun hm => n (List.mem_cons_of_mem _ hm))
/-- two lists of like tuples are equal -/
theorem TsAt.eqN {K : PySem.W.Frag} {H : Hp} {n : Nat} {ks : List (List Str)} : ∀ {ts us : List Addr}, TsAt H ts ks → TsAt H us ks → Paired (EqN K H (n + 2)) (ts.map V.ref) (us.map V.ref) := by
  have flat : ∀ k : List Str, Paired (EqN K H (n + 1)) (k.map V.str) (k.map V.str) := fun k => by
    induction k with
    | nil => exact .nil
    | cons z k ih => exact .cons (.inl ⟨rfl, rfl⟩) ih
  intro ts us h1
  induction h1 generalizing us with
  | nil => intro h2; cases h2; exact .nil
  | cons a t ih =>
    intro h2
    cases h2 with
    | cons b u => exact .cons (.inr (.inr (.inr (.inl ⟨_, _, _, _, rfl, rfl, SqT.of a, SqT.of b, flat _⟩)))) (ih u)
theorem TsAt.eqR {K : PySem.W.Frag} {H : Hp} {p q : Addr} {ts us : List Addr} {ks : List (List Str)} (hp : SqL K H p (ts.map V.ref)) (hq : SqL K H q (us.map V.ref)) (h1 : TsAt H ts ks) (h2 : TsAt H us ks) : EqR K H (EqN K H 8) (.ref p) (.ref q) :=
  .inl ⟨p, q, _, _, rfl, rfl, hp, hq, h1.eqN h2⟩
/-! == of two things that are alike: texts, or data in memory -/
def rEqU (K : PySem.W.Frag) : R2 := fun x y H Q => ((∃ z, x = .str z ∧ y = .str z) ∨ EqR K H (EqN K H 8) x y) ∧ Q (.bl true) H
theorem op_eqU {X : Cx} (hu : X.A.units + 64 < cLine) : OpR X (compareOp .Eq) (rEqU X.K) := by
  intro pins s σ H x y v u Q I rx ry h
  rcases h with ⟨⟨z, rfl, rfl⟩ | h, q⟩
  · exact op_eq pins s σ H _ _ v u Q I rx ry ⟨rfl, by rw [decide_eq_true rfl]; exact q⟩
  · exact op_eqT hu pins s σ H _ _ v u Q I rx ry ⟨h, q⟩
theorem dict_eqG {K : PySem.W.Frag} {H : Hp} {n : Nat} {a b : Addr} {G : Tr} (ha : RdD H a G) (hb : RdD H b G) (nd : (keys G).Nodup) (fl : ∀ x ∈ G, flatB x.2 = true) : EqR K H (EqN K H (n + 1)) (.ref a) (.ref b) := by
  refine .inr (.inr ⟨a, b, _, _, rfl, rfl, ha, hb, rfl, fun x hx => ?_⟩)
  obtain ⟨y, hy, rfl⟩ := kvs_mem hx
  exact ⟨y.2, by rw [kvs_val]; exact val_of_mem nd hy, .inl ⟨rfl, fl y hy⟩⟩
theorem dict_eqN {K : PySem.W.Frag} {H : Hp} {n b : Nat} {p q : Addr} {G : Tr} (ha : RdD H p G) (hb : RdD H q G) (ok : TreeOk b G) : EqN K H (n + 2) (.ref p) (.ref q) := .inr (.inr (dict_eqG ha hb ok.nd ok.flat))
theorem pair_eqR {K : PySem.W.Frag} {H : Hp} {t u p q r s : Addr} {A B : Tr} {n m : Nat} (ht : SqT K H t [.ref p, .ref q]) (hu : SqT K H u [.ref r, .ref s]) (hp : RdD H p A) (hr : RdD H r A) (hq : RdD H q B) (hs : RdD H s B) (okA : TreeOk n A) (okB : TreeOk m B) : EqR K H (EqN K H 8) (.ref t) (.ref u) :=
  .inr (.inl ⟨t, u, _, _, rfl, rfl, ht, hu, .cons (dict_eqN hp hr okA) (.cons (dict_eqN hq hs okB) .nil)⟩)
/-- a block's reading by one that asks more -/
theorem PSs.weak {X : Cx} {b : List Stmt} {t u : TS} (h : PSs X b t) (q : ∀ D σ H, u D σ H → t D σ H) : PSs X b u := ⟨fun pins s σ H D I w => h.run pins s σ H D I (q _ _ _ w)⟩
/-- a if t else b, its ways joined -/
theorem ifx_join {p : Prop} [Decidable p] {t u : TE} {σ : L2.St} {H : Hp} {Q : VK} (R : V → Hp → Prop) (hq : ∀ v H', R v H' → Q v H') (h1 : p → ∀ Q' : VK, (∀ v H', R v H' → Q' v H') → t σ H Q') (h2 : ¬ p → ∀ Q' : VK, (∀ v H', R v H' → Q' v H') → u σ H Q') :
    if decide p = true then t σ H Q else u σ H Q := iteD (fun h => h1 h Q hq) fun h => h2 h Q hq
end M

namespace M
open PySem PySem.Spec PyProof.Rows L2
/-! ### texts that are no paths -/
theorem part_bad {z p : Str} (hp : p ∈ partsOf z) (h : isPartB p = false) : isPathB z = false := by
  unfold isPathB
  rw [show (partsOf z).all isPartB = false from List.all_eq_false.mpr ⟨p, hp, by rw [h]; simp⟩, Bool.and_false]
theorem parts_mem {z p : Str} (h : cl p ∈ cut47 [] (cl z)) : p ∈ partsOf z := by
  rw [← parts_cut] at h
  obtain ⟨q, hq, e⟩ := List.mem_map.mp h
  rw [← cl_inj e]; exact hq
theorem no_first (r : List Nat) {z : Str} (e : cl z = 47 :: r) : isPathB z = false := by
  refine part_bad (p := "") (parts_mem ?_) (by decide +kernel)
  rw [e, cl_empty]
  show [] ∈ cut47 [] ([] ++ 47 :: r)
  rw [cut_app]
  exact List.mem_append_left _ (by simp [cut47])
/-- a stroke, then something that is no part -/
theorem no_mid {z p : Str} (x : List Nat) (hp : isPartB p = false) (h47 : 47 ∉ cl p) (e : cl z = x ++ 47 :: cl p) : isPathB z = false := by
  refine part_bad (p := p) (parts_mem ?_) hp
  rw [e, cut_app]
  refine List.mem_append_right _ ?_
  rw [cut_free _ _ h47]
  simp
theorem no_double {z : Str} (x y : List Nat) (e : cl z = x ++ 47 :: (47 :: y)) : isPathB z = false := by
  refine part_bad (p := "") (parts_mem ?_) (by decide +kernel)
  rw [e, cut_app, cl_empty]
  refine List.mem_append_right _ ?_
  show [] ∈ cut47 [] ([] ++ 47 :: y)
  rw [cut_app]
  exact List.mem_append_left _ (by simp [cut47])
theorem cut_sign {c : Nat} (hc : c ≠ 47) : ∀ (l acc : List Nat), c ∈ acc ∨ c ∈ l → ∃ p ∈ cut47 acc l, c ∈ p
  | [], acc, h => ⟨acc, by simp [cut47], h.elim id fun h => absurd h (by simp)⟩
  | d :: r, acc, h => by
    unfold cut47
    split
    · rename_i e
      rcases h with h | h
      · exact ⟨acc, List.mem_cons_self, h⟩
      · rcases List.mem_cons.mp h with h | h
        · exact absurd (h.trans e) hc
        · obtain ⟨p, hp, h⟩ := cut_sign hc r [] (.inr h)
          exact ⟨p, List.mem_cons_of_mem _ hp, h⟩
    · refine cut_sign hc r (acc ++ [d]) ?_
      rcases h with h | h
      · exact .inl (List.mem_append_left _ h)
      · rcases List.mem_cons.mp h with h | h
        · exact .inl (List.mem_append_right _ (by rw [h]; simp))
        · exact .inr h
/-- a sign that no part has -/
theorem no_sign {z : Str} {c : Nat} (hc : c ≠ 47) (hs : c ∉ sgns) (h : c ∈ cl z) : isPathB z = false := by
  obtain ⟨p, hp, hm⟩ := cut_sign hc (cl z) [] (.inr h)
  rw [← parts_cut] at hp
  obtain ⟨q, hq, rfl⟩ := List.mem_map.mp hp
  refine part_bad hq ?_
  cases hb : isPartB q with
  | false => rfl
  | true => exact absurd ((part_nm hb).1 c hm) hs
/-- too many parts -/
theorem no_many {z : Str} (h : 8 < (partsOf z).length) : isPathB z = false := by
  unfold isPathB
  rw [decide_eq_false (by omega), Bool.false_and]
theorem parts_app {z a b : Str} (e : cl z = cl a ++ 47 :: cl b) : partsOf z = partsOf a ++ partsOf b := by
  refine cl_mapInj ?_
  rw [List.map_append, parts_cut, parts_cut, parts_cut, e, cut_app]
/-- a path with parts more -/
theorem path_app {z a b : Str} (e : cl z = cl a ++ 47 :: cl b) (ha : isPathB a = true) (hb : isPathB b = true) (h : (partsOf a).length + (partsOf b).length ≤ 8) : isPathB z = true := by
  rw [isPathB, Bool.and_eq_true, decide_eq_true_eq] at ha hb ⊢
  rw [parts_app e, List.length_append, List.all_append, ha.2, hb.2]
  exact ⟨h, rfl⟩
/-- the strokes of a path, one less than its parts -/
theorem count_parts {z : Str} (h : 1 ≤ z.length) : Txt.count z slash + 1 = ((partsOf z).length : Int) := by
  have h1 : (decide (z.length < slash.length) || decide (Builtin.Str.strKind z < Builtin.Str.strKind slash)) = false := by
    rw [slash_len, Bool.or_eq_false_iff, decide_eq_false_iff_not, decide_eq_false_iff_not]
    exact ⟨by omega, TL.kind_ok (by decide +kernel)⟩
  unfold partsOf Txt.split Txt.count
  rw [h1, if_neg (by simp)]
  split
  · rename_i he
    rw [List.isEmpty_iff] at he
    rw [he]; rfl
  · simp only [Builtin.Str.partsBetween]
    simp
theorem path_ne {z : Str} (h : isPathB z = true) : 1 ≤ z.length := by
  rcases Nat.eq_zero_or_pos z.length with e | e
  · have e2 : cl z = [] := List.length_eq_zero_iff.mp (by rw [← len_cl]; exact e)
    have : isPathB z = false := part_bad (p := "") (parts_mem (by rw [e2, cl_empty]; simp [cut47])) (by decide +kernel)
    rw [this] at h; cases h
  · exact e
def badL (z : Str) : List Str := ["", "/" ++ z, z ++ "/", z ++ "//a", z ++ "/..", z ++ "+", "a/b/c/d/e/f/g/h/" ++ z]
theorem bad_lens : ("/" : Str).length = 1 ∧ ("//a" : Str).length = 3 ∧ ("/.." : Str).length = 3 ∧ ("+" : Str).length = 1 ∧ ("a/b/c/d/e/f/g/h/" : Str).length = 16 ∧ ("" : Str).length = 0 := by decide +kernel
theorem bad_all {z : Str} (hz : isPathB z = true) : ∀ y ∈ badL z, isPathB y = false ∧ y.length ≤ 300 := by
  have lz := path_len hz
  obtain ⟨l1, l2, l3, l4, l5, l6⟩ := bad_lens
  intro y hy
  simp only [badL, List.mem_cons, List.mem_nil_iff, or_false] at hy
  rcases hy with rfl | rfl | rfl | rfl | rfl | rfl | rfl
  · exact ⟨by decide +kernel, by rw [l6]; decide⟩
  · exact ⟨no_first (cl z) (by rw [cl_app, show cl ("/" : Str) = [47] from slash_cl]; rfl), by rw [len_app]; omega⟩
  · exact ⟨no_mid (p := "") (cl z) (by decide +kernel) (by rw [cl_empty]; simp) (by rw [cl_app, show cl ("/" : Str) = [47] from slash_cl, cl_empty]), by rw [len_app]; omega⟩
  · exact ⟨no_double (cl z) [97] (by rw [cl_app, show cl ("//a" : Str) = [47, 47, 97] by decide +kernel]), by rw [len_app]; omega⟩
  · exact ⟨no_mid (p := "..") (cl z) (by decide +kernel) (by decide +kernel) (by rw [cl_app, show cl ("/.." : Str) = 47 :: cl (".." : Str) by decide +kernel]), by rw [len_app]; omega⟩
  · exact ⟨no_sign (c := 43) (by decide) (by decide +kernel) (by rw [cl_app, show cl ("+" : Str) = [43] by decide +kernel]; simp), by rw [len_app]; omega⟩
  · refine ⟨no_many ?_, by rw [len_app]; omega⟩
    rw [parts_app (a := "a/b/c/d/e/f/g/h") (b := z) (by rw [cl_app, show cl ("a/b/c/d/e/f/g/h/" : Str) = cl ("a/b/c/d/e/f/g/h" : Str) ++ [47] by decide +kernel]; simp), List.length_append, show (partsOf ("a/b/c/d/e/f/g/h" : Str)).length = 8 by decide +kernel]
    have := parts_pos z
    omega
end M

/-! ### a comprehension over a list within an except suite -/
namespace HotX
open PySem PySem.Spec PyProof.Rows
section
variable {prog : Program} {w : World} {A : Around} {E : Value → Shared → Prop} {s : Shared}
theorem pyNext_list_end_hot {it l x1 : Addr} {i : Nat} {items : Array Value} {Q : Option Value → Shared → Prop} (hot : HotAt A x1 s.heap) (hne : x1 ≠ it)
    (hit : s.heap.IsListIter it l i) (hl : s.heap.IsList l items) (hx : items[i]? = none)
    (hQ : ∀ h', (∀ b o, b ≠ it → s.heap.get? b = some o → h'.get? b = some o) → Q none { s with heap := h' }) : wpAny (model prog w) A (pyNext (.ref it)) Q E s := by
  obtain ⟨o, ho, hc, hd⟩ := id hit
  obtain ⟨ol, hol, _, nl, hdl⟩ := hl
  obtain ⟨hh, o1, vs1, h1, d1, c1⟩ := hot
  unfold pyNext
  refine wpAny_bind (wpAny_attempt (wpAny_callSpecial?_slot (name := Str.ofString "__next__") hit.typeIs slot_listiter_next
    (wpAny_call_entry slot_listiter_next hit.typeIs entry_listiter_next ?_ (args_listiter_next _))))
  show wpAny _ _ (field (.ref it) 0 >>= _) _ _ s
  refine wpAny_bind (wpAny_field ho hd (x := .ref l) rfl ?_)
  show wpAny _ _ (if (Value.ref l == Value.none) = true then _ else _) _ _ s
  rw [if_neg (show ¬ ((Value.ref l == Value.none) = true) from Bool.false_ne_true)]
  show wpAny _ _ (field (.ref it) 1 >>= _) _ _ s
  refine wpAny_bind (wpAny_field ho hd (x := .int i 0) rfl ?_)
  show wpAny _ _ (seqItems? (.ref l) >>= _) _ _ s
  refine wpAny_bind (wpAny_seqItems hol hdl ?_)
  simp only [Int.toNat_natCast, hx]
  refine wpAny_bind (wpAny_rule (wpAny_bind (wpAny_setField ho hd (by simp) ?_)))
  show wpAny _ _ (newExc (.type "StopIteration") [] >>= _) _ _ _
  refine wpAny_bind ?_
  simp only [newExc, newTuple]
  refine wpAny_bind (wpAny_newObj_type ?_ (by size_fits))
  refine wpAny_bind (m := firstArgMember _ _) (wpAny_of_eq (a := Value.none) (by first | rfl | (simp only [firstArgMember]; rfl)) ?_)
  refine wpAny_newObj_type ?_ (by size_fits)
  have h1' := (Heap.get?_update_other s.heap (Obj.mapFields (·.setIfInBounds 0 .none)) hne.symm).trans h1
  refine raiseNew_hot ⟨hh, o1, vs1, Heap.get?_push_of_some _ (Heap.get?_push_of_some _ h1'), d1, c1⟩ (Nat.ne_of_lt (Heap.lt_size (Heap.get?_push_of_some _ h1'))) (Heap.get?_push_size _ rfl) rfl (by first | (simp; done) | (simp; omega) | (simp only [Array.size_append]; simp; omega)) ?_
  refine wpAny_bind (wpAny_isInstance (T := "StopIteration") (b := true) ⟨_, Heap.get?_update_self _ (Heap.get?_push_size _ rfl) rfl, rfl⟩ isSubtype_stop ?_)
  refine wpAny_pure (hQ _ fun b o hb e => ?_)
  have e' := (Heap.get?_update_other s.heap (Obj.mapFields (·.setIfInBounds 0 .none)) (Ne.symm hb)).trans e
  rw [Heap.get?_update_other _ _ (Nat.ne_of_gt (Heap.lt_size (Heap.get?_push_of_some _ e')))]
  exact Heap.get?_push_of_some _ (Heap.get?_push_of_some _ e')
theorem next_tuple_end_hot {it t x1 : Addr} {i : Nat} {items : Array Value} {Q : Option Value → Shared → Prop} (hot : HotAt A x1 s.heap) (hne : x1 ≠ it) (hit : IsTupIter s.heap it t i) (ht : IsTup s.heap t items) (hx : items[i]? = none)
    (hQ : ∀ h', Heap.ExtBut it s.heap h' → Q none { s with heap := h' }) : wpAny (model prog w) A (pyNext (.ref it)) Q E s := by
  obtain ⟨o, ho, hc, hd⟩ := id hit
  obtain ⟨ol, hol, _, nl, hdl⟩ := ht
  obtain ⟨hh, o1, vs1, h1, d1, c1⟩ := hot
  unfold pyNext
  refine wpAny_bind (wpAny_attempt (wpAny_callSpecial?_slot (name := Str.ofString "__next__") hit.typeIs slot_tupleiter_next
    (wpAny_call_entry slot_tupleiter_next hit.typeIs entry_tupleiter_next ?_ (args_tupleiter_next _))))
  show wpAny _ _ (field (.ref it) 0 >>= _) _ _ s
  refine wpAny_bind (wpAny_field ho hd (x := .ref t) rfl ?_)
  show wpAny _ _ (if (Value.ref t == Value.none) = true then _ else _) _ _ s
  rw [if_neg (show ¬ ((Value.ref t == Value.none) = true) from Bool.false_ne_true)]
  show wpAny _ _ (field (.ref it) 1 >>= _) _ _ s
  refine wpAny_bind (wpAny_field ho hd (x := .int i 0) rfl ?_)
  show wpAny _ _ (seqItems? (.ref t) >>= _) _ _ s
  refine wpAny_bind (wpAny_seqItems hol hdl ?_)
  simp only [Int.toNat_natCast, hx]
  refine wpAny_bind (wpAny_rule (wpAny_bind (wpAny_setField ho hd (by simp) ?_)))
  show wpAny _ _ (newExc (.type "StopIteration") [] >>= _) _ _ _
  refine wpAny_bind ?_
  simp only [newExc, newTuple]
  refine wpAny_bind (wpAny_newObj_type ?_ (by size_fits))
  refine wpAny_bind (m := firstArgMember _ _) (wpAny_of_eq (a := Value.none) (by first | rfl | (simp only [firstArgMember]; rfl)) ?_)
  refine wpAny_newObj_type ?_ (by size_fits)
  have h1' := (Heap.get?_update_other s.heap (Obj.mapFields (·.setIfInBounds 0 .none)) hne.symm).trans h1
  refine raiseNew_hot ⟨hh, o1, vs1, Heap.get?_push_of_some _ (Heap.get?_push_of_some _ h1'), d1, c1⟩ (Nat.ne_of_lt (Heap.lt_size (Heap.get?_push_of_some _ h1'))) (Heap.get?_push_size _ rfl) rfl (by first | (simp; done) | (simp; omega) | (simp only [Array.size_append]; simp; omega)) ?_
  refine wpAny_bind (wpAny_isInstance (T := "StopIteration") (b := true) ⟨_, Heap.get?_update_self _ (Heap.get?_push_size _ rfl) rfl, rfl⟩ isSubtype_stop ?_)
  refine wpAny_pure (hQ _ fun b o hb e => ?_)
  have e' := (Heap.get?_update_other s.heap (Obj.mapFields (·.setIfInBounds 0 .none)) (Ne.symm hb)).trans e
  rw [Heap.get?_update_other _ _ (Nat.ne_of_gt (Heap.lt_size (Heap.get?_push_of_some _ e')))]
  exact Heap.get?_push_of_some _ (Heap.get?_push_of_some _ e')
theorem unpackItems_tupleH {t x1 : Addr} {items : Array Value} {Q : List Value → Shared → Prop} (hot : HotAt A x1 s.heap) (ht : IsTup s.heap t items)
    (hQ : ∀ h', Heap.ExtBut s.heap.objs.size s.heap h' → Q items.toList { s with heap := h' }) : wpAny (model prog w) A (unpackItems (.ref t) items.size none) Q E s := by
  have hlt : t ≠ s.heap.objs.size := by obtain ⟨o, ho, _⟩ := ht; exact Nat.ne_of_lt (Heap.lt_size ho)
  have hx1 : x1 ≠ s.heap.objs.size := by obtain ⟨_, o, vs, ho, _⟩ := hot; exact Nat.ne_of_lt (Heap.lt_size ho)
  unfold unpackItems
  refine wpAny_bind ?_
  · unfold notIterableAtAll
    refine wpAny_bind (wpAny_specialOf ht.typeIs slot_tuple_iter.lookup ?_)
    refine wpAny_pure ?_
    simp only [Bool.false_eq_true, if_false]
    refine wpAny_bind (wpAny_holding (iter_tuple ht ?_))
    refine wpAny_bind (wpAny_holding (draw_tuple hlt items.size 0 _ _ ⟨_, Heap.get?_push_size _ rfl, rfl, rfl⟩ (ht.push _) (by omega) fun h₁ hit₁ hs₁ => ?_))
    have hall : List.take items.size (List.drop 0 items.toList) = items.toList := by
      rw [List.drop_zero]; exact List.take_of_length_le (by simp)
    rw [hall]
    rw [if_neg (by simp)]
    have ht₁ : IsTup h₁ t items := (ht.push _).extBut hs₁.extBut hlt
    have hot₁ : HotAt A x1 h₁ := by
      obtain ⟨hh, o1, vs1, h1, d1, c1⟩ := hot
      exact ⟨hh, o1, vs1, hs₁.extBut x1 _ hx1 (Heap.get?_push_of_some _ h1), d1, c1⟩
    refine wpAny_bind (wpAny_holding (next_tuple_end_hot hot₁ hx1 hit₁ ht₁ (by simp) fun h₂ he₂ => ?_))
    simp only [Option.isSome_none, Bool.false_eq_true, if_false]
    refine wpAny_pure (hQ h₂ fun b o hb e => he₂ b o hb (hs₁.extBut b o hb (Heap.get?_push_of_some _ e)))
theorem assign_Tuple_tupleH {env : Env} {elts : List Expr} {x1 : Addr} {k : Nat} {pos : Pos} {t : Addr} {items : Array Value} {Q : Unit → Shared → Prop} (hot : HotAt A x1 s.heap) (ht : IsTup s.heap t items)
    (hn : (assignEach elts env).length = items.size) (hstar : (assignEach elts env).findIdx? (·.1) = none)
    (h : ∀ h', Heap.ExtBut s.heap.objs.size s.heap h' → wpAny (model prog w) A (assignInOrder ((assignEach elts env).map (·.2)) items.toList) Q E { s with heap := h' }) :
    wpAny (model prog w) A (assign (.Tuple elts k pos) env (.ref t)) Q E s := by
  rw [assign_Tuple]
  refine wpAny_bind (wpAny_standAt ?_)
  unfold unpack
  rw [hn, hstar]
  exact wpAny_bind (wpAny_holding (unpackItems_tupleH hot ht h))
end
end HotX
namespace L2H
open PySem PySem.Spec PyProof.Rows L2 HotX
theorem turn_listH {P : Program} {w : World} {K : PySem.W.Frag} {tg : Expr} (a it : Addr) : TurnH P w K tg (Itl K a) [it] it (fun i h => h.IsListIter it a i) where
  mem := by simp
  obj := (turn_list (P := P) (w := w) (K := K) (tg := tg) a it).obj
  keep := (turn_list (P := P) (w := w) (K := K) (tg := tg) a it).keep
  item := by
    intro X hP hw hK hc i pins s σ H E I hf st hg
    subst hP hw hK
    obtain ⟨xs, x, hq, hx⟩ := hg
    obtain ⟨its, rv, p, hz⟩ := I.list hq
    obtain ⟨u, hu, ru⟩ := rv.get hx
    obtain ⟨f0, f1, f2, f3, f4, f5⟩ := hf it (by simp)
    refine wpAny_pyNext_list_item st p.isList (x := u) (by simpa using hu) fun h' st' sb => ?_
    have I1 : Inv X pins σ H { s with heap := h' } := I.turned (t' := s.toks) (fun b o hb e => (sb.2 b hb).trans e) f0 f1 f3 f4 f5
    obtain ⟨o, e, c, d⟩ := id st'
    exact ⟨u, rfl, go_of (s := { s with heap := h' }) e c d (by decide) ⟨x, H, I1, ru, ⟨rfl, fun ys hy => by rw [I.list_inj hy hq]; exact hx⟩, st', fun b hb => (hf b hb).1⟩⟩
  done := by
    intro X hP hw hK hc i pins s σ H E I hf st hg
    subst hP hw hK
    obtain ⟨xs, hq, hx⟩ := hg
    obtain ⟨its, rv, p, hz⟩ := I.list hq
    obtain ⟨f0, f1, f2, f3, f4, f5⟩ := hf it (by simp)
    have hl := rv.length
    obtain ⟨px, ⟨hh, v1, e1, c1⟩, hp⟩ := hc
    have hot : HotAt X.A px.1 s.heap := ⟨hh, px.2, v1, (I.pin px (List.mem_append_left _ hp)).1, e1, c1⟩
    exact pyNext_list_end_hot hot (f5 px (List.mem_append_left _ hp)) st p.isList (by simp; omega) fun h' eb => ⟨rfl, I.turned (t' := s.toks) (fun b o hb e => eb b o hb e) f0 f1 f3 f4 f5⟩
  self := fun _ _ _ _ _ st h => wpAny_pyIter_listiter st h
section
variable {X : Cx} {tg : Expr}
theorem pi_listH {e : Expr} {te : TE} (he : PE X e te) : PIH X tg e (iList X.K te) := by
  refine ⟨fun pins s σ H R I h => ?_⟩
  refine thn (he.run pins s σ H _ I h) fun v s1 ⟨x, H1, I1, rx, a, ex, ⟨xs, hq⟩, q⟩ => ?_
  subst ex
  obtain rfl : v = Value.ref a := rx
  obtain ⟨its, rv, p, hz⟩ := I1.list hq
  refine wpAny_pyIter_list p.isList ?_
  refine ⟨s1.heap.objs.size, [s1.heap.objs.size], _, _, H1, rfl, I1.kept (t' := s1.toks) fun b o e => Heap.get?_push_of_some _ e, turn_listH a _, ⟨_, Heap.get?_push_size _ rfl, rfl, rfl⟩, fun b hb => ?_, q⟩
  have e : b = s1.heap.objs.size := by simpa using hb
  subst e
  exact I1.fpOk (Nat.le_refl _) (I1.hok.fresh (Nat.le_refl _))
end
theorem pg_tupH {X : Cx} {es : List Expr} {k : Nat} {pos : Pos} {t : TGs} {n : Nat} (hc : HotC X) (h : PGs X es t)
    (hn : (assignEach es X.env).length = n := by rfl) (hst : (assignEach es X.env).findIdx? (·.1) = none := by rfl) : PG X (.Tuple es k pos) (gTup X.K n t) := by
  refine ⟨fun pins s σ H v u Q I r hw => ?_⟩
  obtain ⟨a, xs, e1, hq, hl, hw⟩ := hw
  subst e1
  cases r
  obtain ⟨its, rv, ht, hz⟩ := I.tuple hq
  obtain ⟨x1, hot⟩ := hc.at I
  refine assign_Tuple_tupleH hot ht (by simp [hn, ← hl, rv.length]) hst fun h' hx => ?_
  have I1 : Inv X pins σ H { s with heap := h' } := I.kept (t' := s.toks) fun b o e => hx b o (Nat.ne_of_lt (Heap.lt_size e)) e
  exact h.run pins _ σ H xs _ Q I1 (by simpa using rv) hw
abbrev blkH (X : Cx) (s : Shared) (H : Hp) (scope : Scope) (cenv : Env) (fp : List Addr) (px : Addr × Obj) : Cx := { X.blk s H scope cenv fp with pn := [px] }
section
variable {X : Cx}
theorem _root_.L2.Inv.hotPin {s s4 : Shared} {H : Hp} {scope : Scope} {cenv : Env} {fp : List Addr} {px : Addr × Obj} {σ σ' : L2.St} {pins : List (Addr × Obj)} (I : Inv (X.blk s H scope cenv fp) [] σ H s4)
    (I3 : Inv X pins σ' H s) (hpx : px ∈ X.pn) (k : ∀ b o, s.heap.get? b = some o → s4.heap.get? b = some o) (hl : cenv.locals = s.heap.objs.size) : Inv (blkH X s H scope cenv fp px) [] σ H s4 := by
  obtain ⟨h1, h2, h3, h4, h5⟩ := I3.pin px (List.mem_append_left _ hpx)
  have nf : px.1 ∉ frs X.stack := by
    rcases I3.ok.stk with e | ⟨e, ef⟩
    · rw [e]; exact h4
    · rw [e]
      intro hm
      obtain ⟨ev, he, q⟩ := List.mem_filterMap.mp hm
      rcases List.mem_cons.mp he with z | he
      · subst z; rw [ef] at q; exact h3 (Option.some.inj q).symm
      · exact h4 (List.mem_filterMap.mpr ⟨ev, he, q⟩)
  exact ⟨⟨I.ok.mod, I.ok.kind, I.ok.glob, I.ok.blt, I.ok.above, I.ok.inj, I.ok.has, I.ok.cab, I.ok.hd, I.ok.frames, I.ok.stk, I.ok.exf, I.ok.bs, I.ok.bsz, I.ok.noex, I.ok.exfs, I.ok.funs, I.ok.frf⟩, I.os, I.bare, I.base, I.loc, I.cell, I.free, I.freeC,
    fun p hp => by
      have e : p = px := by simpa using (show p ∈ ([px] : List (Addr × Obj)) ++ [] from hp)
      subst e
      exact ⟨k _ _ h1, h2, by rw [hl]; exact Nat.ne_of_lt (Heap.lt_size h1), nf, h5⟩, I.hok, I.len⟩
theorem lc_coreH {pins : List (Addr × Obj)} {s : Shared} {σ : St} {H : Hp} {Q : VK} {elt tg iter : Expr} {ifs : List Expr} {scope : Scope} {own : List (Str × Nat)} {pos pos' : Pos} {wi : TI} {g : TG} {tt : TT} {te : TE} {use : Option (Value → Sem Unit)} {Qf : Value → Shared → Prop}
    {px : Addr × Obj} (hot : Hot1 X.A px) (hpx : px ∈ X.pn) (hN : X.N.Nodup) (I : Inv X pins σ H s) (hi : PIH X tg iter wi) (ok : BlkOk X.N X.env.scope scope own)
    (hg : ∀ (s : Shared) (H : Hp) (C : Addr) (cl : List (Str × Addr)) (fp : List Addr), PG (blkH X s H scope (compEnvC scope cl C X.env) fp px) tg g) (ht : ∀ (s : Shared) (H : Hp) (C : Addr) (cl : List (Str × Addr)) (fp : List Addr), PTs (blkH X s H scope (compEnvC scope cl C X.env) fp px) ifs tt)
    (he : ∀ (s : Shared) (H : Hp) (C : Addr) (cl : List (Str × Addr)) (fp : List Addr), PE (blkH X s H scope (compEnvC scope cl C X.env) fp px) elt te) (hs : ∀ x, foldedSetIterable iter X.env x = pure x)
    (h : tLc wi g tt te (own.map (·.2)) σ H Q)
    (hRR : ∀ D C s' m H', Inv X pins σ H' s' → Q (.ref D) H' → s'.heap.Ns C m → FpOk X pins H' C → compPost (model X.prog X.w) X.A X.xe use Qf (.ref D) C (.ok .next) s') :
    wpAny (model X.prog X.w) X.A (comprehension (.ListComp elt [⟨tg, iter, ifs, 0⟩] scope pos) scope X.env pos' (newList []) false (eval iter X.env) use) Qf X.xe s := by
  have hfree : ∀ y ∈ scope.names, y.2 = .free → ∃ c, X.env.cells.lookup y.1 = some c := fun y hy e => by
    rcases ok.free y hy e with k | k
    · exact I.ok.has _ (.inl k)
    · exact I.ok.has _ (.inr k)
  refine wpAny_comprehension_free (use := use) rfl hs (closure_ok hfree) ok.kind (fun y hy e => by rw [ok.uniq y hy, e])
    (thn (hi.run pins s σ H _ I h) fun xv s1 hx => thn hx fun itv s2 h2 => ?_)
  obtain ⟨it, fp, tn, J, H2, e, I2, T, st2, f2, q⟩ := h2
  subst e
  refine wpAny_newObj_type (newEnv_comp ?_) (by show 0 ≤ sizeLine; decide)
  generalize hD : s2.heap.objs.size = D
  have hDn : H2 D = none := I2.hok.fresh (Nat.le_of_eq hD)
  obtain ⟨W, ⟨m0, w0⟩, turn⟩ := q D hDn
  -- the new list
  generalize hs3 : ({ s2 with heap := s2.heap.push { cls := .type "list", data := .seq ([] : List Value).toArray } } : Shared) = s3
  have I3 : Inv X pins σ (upd H2 D (.lst [])) s3 := by
    rw [← hs3]
    refine I2.laid (t' := s2.toks) (fun b o e => Heap.get?_push_of_some _ e) (Nat.le_of_eq hD) ⟨Nat.zero_le _, [], 0, .nil, ?_⟩
    rw [← hD]
    exact Heap.get?_push_size _ rfl
  have h3 : s3.heap = s2.heap.push { cls := .type "list", data := .seq ([] : List Value).toArray } := by rw [← hs3]
  have sz : ∀ b ∈ fp, b < s2.heap.objs.size := fun b hb => by
    obtain ⟨o, e, _⟩ := T.obj _ _ st2 b hb
    exact Heap.lt_size e
  have f3 : ∀ b ∈ fp, FpOk X pins (upd H2 D (.lst [])) b ∧ b < s3.heap.objs.size := fun b hb => by
    have hlt := sz b hb
    refine ⟨⟨?_, (f2 b hb).2⟩, by rw [h3, Heap.size_push]; exact Nat.lt_succ_of_lt hlt⟩
    rw [upd_ne (by rw [← hD]; exact Nat.ne_of_lt hlt)]
    exact (f2 b hb).1
  have st3 : tn 0 s3.heap := T.keep _ _ _ st2 fun b _ o e => by rw [h3]; exact Heap.get?_push_of_some _ e
  have I4 := (block_start I3 ok hN f3).hotPin I3 hpx (fun b o e => pushCells_keeps _ _ _ _ (Heap.get?_push_of_some _ e)) rfl
  have pg := hg s3 (upd H2 D (.lst [])) s3.heap.objs.size (cellsFrom (s3.heap.objs.size + 1) scope.names (cloFrom X.env.cells scope.names [])) fp
  have pt := ht s3 (upd H2 D (.lst [])) s3.heap.objs.size (cellsFrom (s3.heap.objs.size + 1) scope.names (cloFrom X.env.cells scope.names [])) fp
  have pe := he s3 (upd H2 D (.lst [])) s3.heap.objs.size (cellsFrom (s3.heap.objs.size + 1) scope.names (cloFrom X.env.cells scope.names [])) fp
  show codeAny _ _ (.compStart (.ListComp elt [⟨tg, iter, ifs, 0⟩] scope pos) 0 (.ref it) (.ref D) (compEnvC scope (cellsFrom (s3.heap.objs.size + 1) scope.names (cloFrom X.env.cells scope.names [])) s3.heap.objs.size X.env)) (compPost (model X.prog X.w) X.A X.xe use Qf (.ref D) s3.heap.objs.size) { s3 with heap := pushCells (s3.heap.push { cls := .type "dict", data := .dict #[] }) scope.names }
  have nfp : ∀ b ∈ fp, (upd H2 D (.lst [])) b = none := fun b hb => (f3 b hb).1.1
  generalize hce : compEnvC scope (cellsFrom (s3.heap.objs.size + 1) scope.names (cloFrom X.env.cells scope.names [])) s3.heap.objs.size X.env = ce at I4 pg pt pe ⊢
  have cL : ce.locals = s3.heap.objs.size := by subst hce; rfl
  generalize hH3 : upd H2 D (.lst []) = H3 at I3 I4 pg pt pe w0 nfp f3
  generalize hs4 : ({ s3 with heap := pushCells (s3.heap.push { cls := .type "dict", data := .dict #[] }) scope.names } : Shared) = s4 at I4 ⊢
  have st4 : tn 0 s4.heap := T.keep _ _ _ st3 fun b _ o e => by rw [← hs4]; exact pushCells_keeps _ _ _ _ (Heap.get?_push_of_some _ e)
  have stat : ∀ {σ' : St} {H' : Hp} {s' : Shared}, Inv (blkH X s3 H3 scope ce fp px) [] σ' H' s' → (∀ b ∈ fp, H' b = none) → ∀ b ∈ fp, FpOk (blkH X s3 H3 scope ce fp px) [] H' b := fun {σ' H' s'} I' hn b hb =>
    ⟨hn b hb, (I'.ok.exf b hb).1, I'.ok.exfs b hb, .inl hb, fun x c e => (I'.ok.exf b hb).2 x c e, fun p hp => by
      have e : p = px := by simpa using (show p ∈ ([px] : List (Addr × Obj)) ++ [] from hp)
      subst e
      exact (f3 b hb).1.2.2.2.2.2 p (List.mem_append_left _ hpx)⟩
  have loop : codeAny (model X.prog X.w) X.A (.compLoop (.ListComp elt [⟨tg, iter, ifs, 0⟩] scope pos) 0 (.ref it) (.ref D) ce) (compPost (model X.prog X.w) X.A X.xe use Qf (.ref D) s3.heap.objs.size) s4 := by
    refine compLoop_any (fun n s' => ∃ i H', Inv (blkH X s3 H3 scope ce fp px) [] (wipe σ (own.map (·.2))) H' s' ∧ tn i s'.heap ∧ (∀ b ∈ fp, H' b = none) ∧ W i n H') ?_ m0 ⟨0, H3, I4, st4, nfp, w0⟩
    rintro n s5 ⟨i, H5, I5, st5, n5, w5⟩
    rcases turn i n H5 w5 with ⟨stop, qq⟩ | ⟨go, Nx, hNx, step⟩
    · have td := T.done (blkH X s3 H3 scope ce fp px) rfl rfl rfl ⟨px, hot, List.mem_singleton.mpr rfl⟩ i [] s5 _ H5 (fun _ _ => False) I5 (stat I5 n5) st5 stop
      refine thnF td fun r s6 ⟨hr, I6⟩ => ?_
      subst hr
      -- back in the def's context
      have I7 : Inv X pins σ H5 s6 := I3.call' (ch := fp) I6.os I6.base I6.hok I6.bare fun b hb => ⟨(f3 b hb).1.2.2.2.1, (f3 b hb).1.2.1, (f3 b hb).1.2.2.2.2.1, (f3 b hb).1.2.2.2.2.2⟩
      have nC : H5 s3.heap.objs.size = none := by
        have z : H5 ce.locals = none := I6.free
        rw [cL] at z
        exact z
      obtain ⟨m, hn, _⟩ := I6.loc
      have hn : s6.heap.Ns ce.locals m := hn
      rw [cL] at hn
      exact hRR D s3.heap.objs.size s6 m H5 I7 qq hn (I3.fpOk (Nat.le_refl _) nC)
    · have ti := T.item (blkH X s3 H3 scope ce fp px) rfl rfl rfl ⟨px, hot, List.mem_singleton.mpr rfl⟩ i [] s5 _ H5 (fun _ _ => False) I5 (stat I5 n5) st5 go
      refine thnF ti fun r s6 ⟨u, hr, h6⟩ => ?_
      subst hr
      refine thnF h6 fun _ s7 ⟨x, H7, I7, r7, y7, st7, n7⟩ => ?_
      have I7' := I7.pinned (stat I7 n7) (T.obj _ _ st7)
      refine thnF (pg.run _ s7 _ H7 x u _ I7' r7 (step x H7 y7)) fun _ s8 ⟨σ8, H8, I8, hw8, q8⟩ => ?_
      refine thnF (pt.run _ s8 σ8 H8 _ I8 q8) fun b s9 ⟨H9, I9, q9⟩ => ?_
      -- the turn's end
      have fin : ∀ {s' : Shared} {H' : Hp}, Inv (blkH X s3 H3 scope ce fp px) ([] ++ pinsAt fp s7.heap) σ8 H' s' → Nx H' → ∃ m, m < n ∧ ∃ i H', Inv (blkH X s3 H3 scope ce fp px) [] (wipe σ (own.map (·.2))) H' s' ∧ tn i s'.heap ∧ (∀ b ∈ fp, H' b = none) ∧ W i m H' := fun {s' H'} I' nx => by
        obtain ⟨m', hm, w'⟩ := hNx H' nx
        have pin' : ∀ b ∈ fp, ∀ o, s7.heap.get? b = some o → s'.heap.get? b = some o ∧ H' b = none := fun b hb o e =>
          let z := I'.pin (b, o) (List.mem_append_right _ (List.mem_append_right _ (mem_pinsAt hb e)))
          ⟨z.1, z.2.1⟩
        have hl : (wipe σ (own.map (·.2))).length = σ8.length := by rw [← hw8, wipe_length]
        refine ⟨m', hm, i + 1, H', (I'.unpinned (pins := [])).weak hl (fun j v e => ?_), T.keep _ _ _ st7 fun b hb o e => (pin' b hb o e).1, fun b hb => ?_, w'⟩
        · rw [← hw8] at e
          exact (wipe_some e).1
        · obtain ⟨o, e, _⟩ := T.obj _ _ st7 b hb
          exact (pin' b hb o e).2
      cases b with
      | false =>
        simp only [Bool.false_eq_true, if_false] at q9 ⊢
        exact fin I9 q9
      | true =>
        simp only [if_true] at q9 ⊢
        refine thnF (pe.run _ s9 σ8 H9 _ I9 q9) fun z s10 ⟨yv, H10, I10, r10, acc, hD10, hz10, nx⟩ => ?_
        exact app_ok (X := blkH X s3 H3 scope ce fp px) I10 hD10 hz10 r10 fun s11 I11 => fin I11 nx
  exact codeAny_compStart_list loop (T.self X.A 0 _ _ _ st4 loop)
/-- as a value -/
theorem hot_blk {X : Cx} {px : Addr × Obj} (h : Hot1 X.A px) {s : Shared} {H : Hp} {scope : Scope} {cenv : Env} {fp : List Addr} : HotC (blkH X s H scope cenv fp px) := ⟨px, h, List.mem_singleton.mpr rfl⟩
theorem pe_lcH {elt tg iter : Expr} {ifs : List Expr} {scope : Scope} {own : List (Str × Nat)} {pos : Pos} {wi : TI} {g : TG} {tt : TT} {te : TE} (hc : HotC X) (hN : X.N.Nodup) (hi : PIH X tg iter wi) (ok : BlkOk X.N X.env.scope scope own)
    (hg : ∀ (px : Addr × Obj) (_ : Hot1 X.A px) (s : Shared) (H : Hp) (C : Addr) (cl : List (Str × Addr)) (fp : List Addr), PG (blkH X s H scope (compEnvC scope cl C X.env) fp px) tg g) (ht : ∀ (px : Addr × Obj) (s : Shared) (H : Hp) (C : Addr) (cl : List (Str × Addr)) (fp : List Addr), PTs (blkH X s H scope (compEnvC scope cl C X.env) fp px) ifs tt)
    (he : ∀ (px : Addr × Obj) (s : Shared) (H : Hp) (C : Addr) (cl : List (Str × Addr)) (fp : List Addr), PE (blkH X s H scope (compEnvC scope cl C X.env) fp px) elt te) (hs : ∀ x, foldedSetIterable iter X.env x = pure x := by intro _; rfl) :
    PE X (.ListComp elt [⟨tg, iter, ifs, 0⟩] scope pos) (tLc wi g tt te (own.map (·.2))) := by
  refine ⟨fun pins s σ H Q I h => ?_⟩
  obtain ⟨px, hot, hpx⟩ := hc
  rw [eval_ListComp]
  refine lc_coreH hot hpx hN I hi ok (hg px hot) (ht px) (he px) hs h fun D C s' m H' I' q hn f => ⟨m, hn, fun h'' sb => ?_⟩
  obtain ⟨f0, f1, f2, f3, f4, f5⟩ := f
  exact ⟨.ref D, H', I'.turned (t' := s'.toks) (fun b o hb e => (sb.2 b hb).trans e) f0 f1 f3 f4 f5, rfl, q⟩
end
end L2H

/-! ### the trees that a script draws -/
namespace M
open PySem PySem.Spec PyProof.Rows L2
structure TreeN (n b : Nat) (G : Tr) : Prop where
  ok : TreeOk b G
  clear : Clear G
  few : ∀ p ∈ keys G, (partsOf p).length ≤ n
theorem TreeN.nil {n : Nat} : TreeN n 0 [] := ⟨TreeOk.nil, Clear.nil, fun _ h => absurd h (by simp)⟩
theorem TreeN.mono {n b c : Nat} {G : Tr} (h : TreeN n b G) (hl : b ≤ c) : TreeN n c G := ⟨h.ok.mono hl, h.clear, h.few⟩
theorem TreeN.put {n b : Nat} {G : Tr} {z y : Str} (h : TreeN n b G) (hp : isPathB z = true) (hf : (partsOf z).length ≤ n) (fr : freeB G z = true) : TreeN n (b + 1) (putK G z (.str y)) :=
  ⟨h.ok.put hp, h.clear.put fr, fun q hq => (mem_keys_put.mp hq).elim (fun e => e ▸ hf) (h.few q)⟩
theorem TreeN.drop {n b : Nat} {G : Tr} (h : TreeN n b G) (z : Str) : TreeN n b (dropK G z) := ⟨h.ok.drop z, h.clear.drop z, fun q hq => h.few q (mem_keys_drop.mp hq).1⟩
theorem TreeOk.short {b : Nat} {G : Tr} (h : TreeOk b G) : ∀ q ∈ keys G, q.length ≤ 16777000 := fun q hq => Nat.le_trans (path_len (h.path q hq)) (by decide)
/-! the files topsj/x -/
def topsN (j : Nat) : Str := ("tops" : Str) ++ Str.ofString (toString ((0 : Int) + (j : Int)))
theorem topsx_app (j : Nat) : topsN j ++ "/x" = topsN j ++ slash ++ "x" := cl_inj (by rw [cl_app, cl_app, cl_app, show cl ("/x" : Str) = cl slash ++ cl ("x" : Str) by decide +kernel, List.append_assoc])
theorem topsx_ok (i : Fin 200) : isPathB (topsN i.val ++ "/x") = true := by
  rw [topsx_app]
  exact path2 (tops_part i) (show isPartB "x" = true by decide +kernel)
theorem topsx_few (i : Fin 200) : (partsOf (topsN i.val ++ "/x")).length = 2 := by
  rw [topsx_app, join2, parts_join (by simp) fun p hp => part_47 ?_]; rfl
  simp only [List.mem_cons, List.mem_nil_iff, or_false] at hp
  rcases hp with e | e
  · rw [e]; exact tops_part i
  · rw [e]; decide +kernel
/-- what lies above topsj/x is topsj alone -/
theorem topsx_above {j : Nat} {q : Str} (h47 : 47 ∉ cl (topsN j)) (h : beneathB (topsN j ++ "/x") q = true) : q = topsN j := by
  obtain ⟨r, e⟩ := (beneath_iff _ _).mp h
  rw [cl_app, show cl ("/x" : Str) = [47, 120] by decide +kernel] at e
  refine cl_inj ?_
  have go : ∀ (a b r : List Nat), 47 ∉ a → a ++ [47, 120] = b ++ 47 :: r → b = a := by
    intro a
    induction a with
    | nil =>
      intro b r _ e
      match b with
      | [] => rfl
      | [x] => simp at e
      | x :: y :: b => simp at e
    | cons x a ih =>
      intro b r h e
      match b with
      | [] =>
        simp only [List.cons_append, List.nil_append, List.cons.injEq] at e
        exact absurd (by rw [e.1]; exact List.mem_cons_self) h
      | y :: b =>
        simp only [List.cons_append, List.cons.injEq] at e
        rw [ih b r (fun hm => h (List.mem_cons_of_mem _ hm)) e.2, e.1]
  exact go _ _ _ h47 e
theorem tops_ne {a : Nat} {i : Fin 200} : 47 ∉ cl (topsN i.val) := part_47 (tops_part i)
/-- keys that a script's names make, or files topsj/x of smaller j -/
def NewT (j : Nat) (G : Tr) : Prop := ∀ q ∈ keys G, noTops q ∨ ∃ k : Fin 200, k.val < j ∧ q = topsN k.val ++ "/x"
theorem topsx_free {j : Nat} {G : Tr} (i : Fin 200) (hj : i.val = j) (nw : NewT j G) (hn : topsN j ∉ keys G) : freeB G (topsN j ++ "/x") = true := by
  subst hj
  refine free_iff.mpr fun o ho => ⟨Bool.eq_false_iff.mpr fun hb => ?_, Bool.eq_false_iff.mpr fun hb => ?_⟩
  · obtain ⟨r, e⟩ := (beneath_iff _ _).mp hb
    rcases nw o ho with h | ⟨k, hk, h⟩
    · have : noTops (topsN i.val ++ "/x") := noTops_slash h e
      exact tops_yes _ (show noTops (("tops" : Str) ++ (Str.ofString (toString ((0 : Int) + (i.val : Int))) ++ "/x")) from by
        have e2 : topsN i.val ++ "/x" = ("tops" : Str) ++ (Str.ofString (toString ((0 : Int) + (i.val : Int))) ++ "/x") := cl_inj (by rw [topsN, cl_app, cl_app, cl_app, cl_app, List.append_assoc])
        rw [← e2]; exact this)
    · subst h
      have q := topsx_above (j := k.val) (part_47 (tops_part k)) hb
      have h47 := part_47 (tops_part k)
      have e3 : cl (topsN i.val ++ "/x") = cl (topsN k.val) := by rw [q]
      refine h47 ?_
      show 47 ∈ cl (topsN k.val)
      rw [← e3, cl_app, show cl ("/x" : Str) = [47, 120] by decide +kernel]
      simp
  · exact hn (topsx_above (part_47 (tops_part i)) hb ▸ ho)
theorem NewT.mono {j k : Nat} {G : Tr} (h : NewT j G) (hl : j ≤ k) : NewT k G := fun q hq => (h q hq).imp id fun ⟨i, h1, h2⟩ => ⟨i, by omega, h2⟩
theorem NewT.put {j : Nat} {G : Tr} {v : V} (i : Fin 200) (hj : i.val = j) (h : NewT j G) : NewT (j + 1) (putK G (topsN j ++ "/x") v) := fun q hq => by
  rcases mem_keys_put.mp hq with e | hq
  · exact .inr ⟨i, by omega, by rw [e, hj]⟩
  · exact h.mono (Nat.le_succ _) q hq
theorem part_one {u : Str} (h : isPartB u = true) : partsOf u = [u] := by
  have := parts_join (ps := [u]) (by simp) (fun p hp => by rw [List.mem_singleton.mp hp]; exact part_47 h)
  rwa [show Txt.join slash [u] = u from cl_inj (by rw [cl_joinS]; rfl)] at this
theorem part_path {u : Str} (h : isPartB u = true) : isPathB u = true := by
  rw [isPathB, part_one h]; simp [h]
theorem path_parts {z : Str} (h : isPathB z = true) : ∀ p ∈ partsOf z, isPartB p = true := by
  rw [isPathB, Bool.and_eq_true, List.all_eq_true] at h
  exact h.2
end M

/-! ### sets of keys of any kind that can be walked; sorted(set(xs)) of texts -/
namespace M
open PySem PySem.Spec PyProof.Rows L2
section
variable {P : Program} {w : World} {κ : Type} [DecidableEq κ]
/-- the set at a: its members, their number, a table that can be walked; kf reads a key off a value -/
def SetG (knd : PySem.KeyKind P w κ) (kf : Value → κ) (h : Heap) (a : Addr) (S : κ → Bool) (n : Nat) : Prop :=
  ∃ o es ep t, h.get? a = some o ∧ o.ExactSet ∧ o.data = .set es ep t ∧ ElemsOf knd es.toList ∧ (es.toList.map fun e => kf e.2).Nodup ∧ (∀ k, S k = true ↔ k ∈ es.toList.map fun e => kf e.2) ∧
    es.size < scanBound ∧ t.fits es.size = true ∧ es.size = n ∧ Ris t.place.toList ∧ (w.params.followText "set-order" = true ∨ t.led = true)
variable {knd : PySem.KeyKind P w κ} {kf : Value → κ} {h h' : Heap} {a : Addr} {S : κ → Bool} {n : Nat}
theorem SetG.at (R : SetG knd kf h a S n) (k : ∀ o, h.get? a = some o → h'.get? a = some o) : SetG knd kf h' a S n := by
  obtain ⟨o, es, ep, t, ho, r⟩ := R
  exact ⟨o, es, ep, t, k o ho, r⟩
theorem SetG.congr {S' : κ → Bool} (R : SetG knd kf h a S n) (e : ∀ k, S' k = S k) : SetG knd kf h a S' n := by
  rw [show S' = S from funext e]; exact R
theorem setG_mem (hk : ∀ k v, knd.is k v = true → kf v = k) {l : List (Int × Value)} (g : ElemsOf knd l) (k : κ) : (k ∈ l.map fun e => kf e.2) ↔ ∃ e ∈ l, knd.is k e.2 = true := by
  rw [List.mem_map]
  constructor
  · rintro ⟨e, he, q⟩
    obtain ⟨⟨k0, h0, _⟩, _⟩ := g e he
    exact ⟨e, he, by rw [← q, hk k0 _ h0]; exact h0⟩
  · rintro ⟨e, he, q⟩
    exact ⟨e, he, hk _ _ q⟩
theorem SetG.setOf (hk : ∀ k v, knd.is k v = true → kf v = k) (R : SetG knd kf h a S n) : h.SetOf knd a S n := by
  obtain ⟨o, es, ep, t, ho, hx, hd, g, nd, hm, hb, hf, hn, _⟩ := R
  exact ⟨o, es, ep, t, ho, hx, hd, g, fun k => (hm k).trans (setG_mem hk g k), hb, hf, hn⟩
theorem setG_fresh {h : Heap} {a : Addr} (ha : h.get? a = some { cls := .type "set", dict := none, data := .set #[] 0 (.fresh 0 0 (!w.params.followText "set-order")) }) : SetG knd kf h a (fun _ => false) 0 :=
  ⟨_, #[], 0, _, ha, ⟨rfl, rfl, rfl⟩, rfl, (fun e he => by simp at he), (by simp), (fun k => by simp), (by decide), (by rfl), rfl, List.Pairwise.nil, by
    cases w.params.followText "set-order" with
    | true => exact .inl rfl
    | false => exact .inr rfl⟩
variable {A : Around} {E : Value → Shared → Prop} {s : Shared}
/-- the store behind an added member, the table made larger where it is full -/
theorem setG_tail {g : Bool → Sem Unit} (hg : ∀ (b : Bool) (s₁ : Shared) (Q' : Unit → Shared → Prop), Q' () s₁ → wpAny (model P w) A (g b) Q' E s₁)
    {o : Obj} {es : Array (Int × Value)} {ep : Nat} {t : SetTable} (ho : s.heap.get? a = some o) (hex : o.ExactSet) (hd : o.data = .set es ep t)
    {es1 : Array (Int × Value)} {t2 : SetTable} {S' : κ → Bool} (g1 : ElemsOf knd es1.toList) (nd1 : (es1.toList.map fun e => kf e.2).Nodup) (m1 : ∀ k, S' k = true ↔ k ∈ es1.toList.map fun e => kf e.2)
    (hb1 : es1.size < scanBound) (hf2 : t2.fits es1.size = true) (hr : Ris t2.place.toList) (hl : w.params.followText "set-order" = true ∨ t2.led = true) {wasDummy : Bool} {R : Option Bool → Shared → Prop}
    (hR : ∀ h', Heap.SameBut a s.heap h' → SetG knd kf h' a S' es1.size → R (some true) { s with heap := h' }) :
    wpAny (model P w) A (do
        storeSet a es1 t2
        if (!wasDummy && t2.tooFull) = true then do
            g (relayAll t2 es1 (SetTable.grown es1.size)).2.2
            storeSet a (relayAll t2 es1 (SetTable.grown es1.size)).1 (relayAll t2 es1 (SetTable.grown es1.size)).2.1
            pure (some true)
          else pure (some true)) R E s := by
  refine wpAny_bind (wpAny_storeSet_of ho hd ?_ (fits_of_scanBound hb1))
  have ho1 := store_at (es' := es1) (t' := t2) ho hd
  have sb1 := Heap.SameBut.update s.heap a (Obj.putSet es1 t2)
  split
  · have pm := relayAll_perm t2 es1 (SetTable.grown es1.size)
    have hf3 := relayAll_fits t2 es1 (SetTable.grown es1.size)
    have hr3 := relayAll_ris t2 es1 (SetTable.grown es1.size)
    have hl3 := relayAll_led t2 es1 (SetTable.grown es1.size)
    generalize relayAll t2 es1 (SetTable.grown es1.size) = Z at pm hf3 hr3 hl3 ⊢
    obtain ⟨es2, t3, gave⟩ := Z
    dsimp only at pm hf3 hr3 hl3 ⊢
    have hsz : es2.size = es1.size := by rw [← Array.length_toList, pm.length_eq, Array.length_toList]
    refine wpAny_bind (hg _ _ _ ?_)
    refine wpAny_bind (wpAny_storeSet_of ho1 rfl ?_ (fits_of_scanBound (by rw [hsz]; exact hb1)))
    have ho2 := store_at (es' := es2) (t' := t3) ho1 rfl
    refine wpAny_pure (hR _ (sb1.trans (Heap.SameBut.update _ a _)) ?_)
    have pk := pm.map fun e => kf e.2
    exact ⟨_, es2, _, t3, ho2, hex, rfl, fun e he => g1 e (pm.mem_iff.mp he), pk.nodup_iff.mpr nd1, fun k => (m1 k).trans pk.mem_iff.symm, (by rw [hsz]; exact hb1), hf3, hsz, hr3, hl.imp id fun z => by rw [hl3]; exact z⟩
  · exact wpAny_pure (hR _ sb1 ⟨_, es1, _, t2, ho1, hex, rfl, g1, nd1, m1, hb1, hf2, rfl, hr, hl⟩)
theorem setG_add_hashed (hk : ∀ k v, knd.is k v = true → kf v = k) {k : κ} {v : Value} (hkey : knd.is k v = true) (hsc : v.scannable = true) {Q : Bool → Shared → Prop} (R : SetG knd kf s.heap a S n) (room : n + 1 < scanBound)
    (hQ : ∀ h', Heap.SameBut a s.heap h' → SetG knd kf h' a (fun j => S j || decide (j = k)) (if S k = true then n else n + 1) → Q (!S k) { s with heap := h' }) :
    wpAny (model P w) A (setAddHashed a v (knd.hash k)) Q E s := by
  obtain ⟨o, es, ep, t, ho, hex, hd, hel, nd, hm, hb, hf, hn, hr, hl⟩ := R
  unfold setAddHashed setAddHashedIn
  refine wpAny_holding (wpAny_bind (wpAny_setState_of ho hd hf ?_))
  dsimp only
  rw [byScan_of hsc hb hel]
  simp only [↓reduceIte]
  unfold setAddByScan
  refine wpAny_bind (wpAny_bind (wpAny_rule ?_))
  refine wpAny_bind (wpAny_setScan_of hkey ho hd hf hel ?_)
  cases hfi : List.findIdx? (fun e => knd.is k e.2) es.toList with
  | some j =>
    dsimp only
    obtain ⟨hj, pj, _⟩ := List.findIdx?_eq_some_iff_getElem.mp hfi
    have hSk : S k = true := (hm k).2 ((setG_mem hk hel k).2 ⟨es.toList[j], List.getElem_mem hj, pj⟩)
    have q := hQ s.heap (Heap.SameBut.refl a s.heap) ⟨o, es, ep, t, ho, hex, hd, hel, nd, fun i => by
      rw [Bool.or_eq_true, decide_eq_true_eq, ← hm i]
      exact ⟨fun z => z.elim id (fun e => e ▸ hSk), .inl⟩, hb, hf, by rw [if_pos hSk]; exact hn, hr, hl⟩
    rw [hSk] at q
    exact wpAny_pure (wpAny_pure q)
  | none =>
    dsimp only
    have hnk : k ∉ es.toList.map fun e => kf e.2 := fun z => by
      obtain ⟨e, he, q⟩ := (setG_mem hk hel k).1 z
      have c := List.findIdx?_eq_none_iff.mp hfi e he
      rw [q] at c
      cases c
    have hSk : S k = false := by
      cases q : S k with
      | false => rfl
      | true => exact absurd ((hm k).1 q) hnk
    have hgw : ∀ (b : Bool) {s₁ : Shared} {Q' : Unit → Shared → Prop}, Q' () s₁ → wpAny (model P w) A (match b with | true => rule "set.scan.the-table-gave-way" | false => pure ()) Q' E s₁ :=
      fun b s₁ Q' q => by cases b <;> first | exact wpAny_pure q | exact wpAny_rule q
    have pm := layNew_perm t es (knd.hash k) v
    have hf1 := layNew_fits t es (knd.hash k) v
    have hr1 := layNew_ris t es (knd.hash k) v hr
    have hl1 := layNew_led t es (knd.hash k) v
    generalize layNew t es (knd.hash k) v = Z at pm hf1 hr1 hl1 ⊢
    obtain ⟨es1, t1, wasDummy, gave⟩ := Z
    dsimp only at pm hf1 hr1 hl1 ⊢
    rw [Array.toList_push] at pm
    have pc : es1.toList.Perm ((knd.hash k, v) :: es.toList) := pm.trans (List.perm_append_singleton _ _)
    have pk : (es1.toList.map fun e => kf e.2).Perm (k :: es.toList.map fun e => kf e.2) := by
      have := pc.map fun e => kf e.2
      rw [List.map_cons, hk _ _ hkey] at this
      exact this
    have g1 : ElemsOf knd es1.toList := fun e he => by
      rcases List.mem_cons.mp (pc.mem_iff.mp he) with z | z
      · rw [z]; exact ⟨⟨k, hkey, rfl⟩, hsc⟩
      · exact hel e z
    have nd1 : (es1.toList.map fun e => kf e.2).Nodup := pk.nodup_iff.mpr (List.nodup_cons.mpr ⟨hnk, nd⟩)
    have m1 : ∀ i, (S i || decide (i = k)) = true ↔ i ∈ es1.toList.map fun e => kf e.2 := fun i => by
      rw [Bool.or_eq_true, decide_eq_true_eq, hm i, pk.mem_iff, List.mem_cons]
      exact Or.comm
    have hsz : es1.size = n + 1 := by rw [← Array.length_toList, pc.length_eq, List.length_cons, Array.length_toList, hn]
    have hb1 : es1.size < scanBound := by rw [hsz]; exact room
    have hled : w.params.followText "set-order" = true ∨ t1.led = true := hl.imp id fun z => by rw [hl1]; exact z
    have fin : ∀ h', Heap.SameBut a s.heap h' → SetG knd kf h' a (fun j => S j || decide (j = k)) es1.size → Q true { s with heap := h' } := fun h' sb r => by
      have q := hQ h' sb
      rw [hSk] at q
      rw [hsz] at r
      exact q r
    refine wpAny_bind (hgw _ ?_)
    split
    · refine wpAny_bind ?_
      rw [hashByValue_scannable 8 hsc]
      refine wpAny_pure ?_
      refine setG_tail (knd := knd) (kf := kf) ?_ ho hex hd g1 nd1 m1 hb1 ?_ ?_ ?_ ?_
      · intro b s₁ Q' q; cases b <;> first | exact wpAny_pure q | exact wpAny_rule q
      · first | (split <;> first | exact hf1 | exact SetTable.fits_plain_off hf1) | exact hf1
      · first | (split <;> exact hr1) | exact hr1
      · first | (split <;> exact hled) | exact hled
      · intro h' sb r; dsimp only; exact wpAny_pure (fin h' sb r)
    · refine wpAny_bind (wpAny_pure ?_)
      simp only [↓reduceIte]
      refine setG_tail (knd := knd) (kf := kf) ?_ ho hex hd g1 nd1 m1 hb1 hf1 hr1 hled ?_
      · intro b s₁ Q' q; cases b <;> first | exact wpAny_pure q | exact wpAny_rule q
      · intro h' sb r; dsimp only; exact wpAny_pure (fin h' sb r)
end
end M
namespace M
open PySem PySem.Spec PyProof.Rows L2
section
variable {P : Program} {w : World} {κ : Type} [DecidableEq κ] {knd : PySem.KeyKind P w κ} {kf : Value → κ}
variable {A : Around} {R : Result → Shared → Prop} {I : Addr} {fp wr : List Addr} {G : Array GenState → Array GenState → Prop} {n : Nat} {Pv : Nat → Value → Prop} {St : Nat → Shared → Prop}
/-- what is met so far -/
def met (val : Nat → κ) (i : Nat) (k : κ) : Bool := decide (k ∈ (List.range i).map val)
theorem met_succ (val : Nat → κ) (i : Nat) (k : κ) : met val (i + 1) k = (met val i k || decide (k = val i)) := by
  unfold met
  rw [List.range_succ, List.map_append, Bool.eq_iff_iff]
  simp
theorem setG_loop (hk : ∀ k v, knd.is k v = true → kf v = k) (W : WalksS P w A.in1 I fp wr G n Pv St) (D : Addr) (hD : D ∉ fp) (val : Nat → κ) (hval : ∀ i v, Pv i v → knd.is (val i) v = true ∧ v.scannable = true) (hb : n + 1 < scanBound) :
    ∀ (k i : Nat) (s : Shared), n - i = k → i ≤ n → St i s → (∃ m, m ≤ i ∧ SetG knd kf s.heap D (met val i) m) →
      (∀ s', Moved (D :: wr) G s s' → (∃ m, m ≤ n ∧ SetG knd kf s'.heap D (met val n) m) → R (.ok (.ret .none)) s') →
      codeAny (model P w) A (.builtin "set.update.loop" ⟨[.ref D, .ref I], []⟩) R s := by
  have hDw : D ∉ wr := fun h => hD (W.sub _ h)
  have hsub : ∀ b ∈ wr, b ∈ D :: wr := fun b hb => List.mem_cons_of_mem _ hb
  intro k
  induction k with
  | zero =>
    intro i s hk0 hi hst ⟨m, hm, hS⟩ hR
    have hin : i = n := by omega
    subst hin
    refine codeAny_builtin PyProof.Rows.F.entry_set_update_loop ?_
    rw [Around.under_plainId PyProof.Rows.F.plain_set_update_loop _]
    show wpAny _ A.in1 (pyNext (.ref I) >>= _) _ _ s
    refine wpAny_bind (W.done s _ _ hst fun s' mv => ?_)
    show wpAny _ A.in1 (ret Value.none) _ _ s'
    exact wpAny_pure (hR s' (mv.mono hsub) ⟨m, hm, hS.at fun o e => mv.heap D o hDw e⟩)
  | succ k ih =>
    intro i s hk0 hi hst ⟨m, hm, hS⟩ hR
    have hlt : i < n := by omega
    refine codeAny_builtin PyProof.Rows.F.entry_set_update_loop ?_
    rw [Around.under_plainId PyProof.Rows.F.plain_set_update_loop _]
    show wpAny _ A.in1 (pyNext (.ref I) >>= _) _ _ s
    refine wpAny_bind (W.item i s _ _ hlt hst fun v s' hP hst' mv => ?_)
    obtain ⟨hkey, hsc⟩ := hval i v hP
    have hS' : SetG knd kf s'.heap D (met val i) m := hS.at fun o e => mv.heap D o hDw e
    show wpAny _ A.in1 (holding [v] (setAdd D v) >>= _) _ _ s'
    refine wpAny_bind (wpAny_holding ?_)
    unfold setAdd
    refine wpAny_holding (wpAny_bind (knd.pyHash (k := val i) hkey ?_))
    refine setG_add_hashed (s := { s' with toks := s'.toks + 1 }) hk hkey hsc hS' (by omega) fun h' sb hS2 => ?_
    have hSi : ∃ m, m ≤ i + 1 ∧ SetG knd kf h' D (met val (i + 1)) m := ⟨_, by split <;> omega, hS2.congr fun k' => met_succ val i k'⟩
    refine wpAny_pure ⟨plainId_quiet PyProof.Rows.F.plain_set_update_loop _, ih (i + 1) _ (by omega) hlt (W.frame _ s' _ _ hst' (Nat.le_succ _) fun b hb o e => ?_) hSi fun s'' mv' hS'' => ?_⟩
    · rw [sb.2 b (fun h : b = D => hD (by rw [← h]; exact hb))]; exact e
    · refine hR s'' (Moved.trans W.gtrans ((mv.mono hsub).then_heap (Nat.le_succ _) fun b o hb e => ?_) mv') hS''
      rw [sb.2 b (fun h : b = D => hb (by rw [h]; exact List.mem_cons_self))]; exact e
end
end M
namespace M
open PySem PySem.Spec PyProof.Rows L2
section
variable {P : Program} {w : World} {κ : Type} [DecidableEq κ] {knd : PySem.KeyKind P w κ} {kf : Value → κ} {A : Around} {E : Value → Shared → Prop} {s : Shared}
/-- set(xs), xs a list of keys -/
theorem call_setG (hk : ∀ k v, knd.is k v = true → kf v = k) {l : Addr} {items : Array Value} (val : Nat → κ) (hval : ∀ i v, items[i]? = some v → knd.is (val i) v = true ∧ v.scannable = true) {Q : Value → Shared → Prop}
    (hh : A.handled = none) (hl : s.heap.IsList l items) (hb : items.size + 1 < scanBound)
    (h : ∀ (h' : Heap) (tk m : Nat), m ≤ items.size → SetG knd kf h' s.heap.objs.size (met val items.size) m → (∀ b o, b < s.heap.objs.size → s.heap.get? b = some o → h'.get? b = some o) → Q (.ref s.heap.objs.size) { s with heap := h', toks := tk }) :
    wpAny (model P w) A (call (.type "set") [.ref l]) Q E s := by
  obtain ⟨new, hnew⟩ : ∃ o : Obj, o = { cls := .type "set", dict := none, data := .set #[] 0 (.fresh 0 0 (!w.params.followText "set-order")) } := ⟨_, rfl⟩
  obtain ⟨c, tl, hmro⟩ := PySem.F.called_set.mro
  have hmade := PySem.F.called_set.made
  have hsub := PySem.F.called_set.sub
  refine wpAny_call (codeAny_of_tree ?_)
  show wpAny _ _ (callAny (.type "set") _) _ _ _
  refine wpAny_pure ⟨Code.quiet_builtin _ (by decide +kernel), codeAny_builtin PySem.F.entry_type_call ?_⟩
  rw [Around.under_plain (weight_type_call_type "set" [.ref l] []) rfl]
  have h1 := PySem.F.called_set.notType
  have h2 := PySem.F.called_set.canCreate
  have hct := PySem.F.typeCall_set_1 (.ref l)
  repeat (any_goals (first | assumption | wp_step))
  refine codeAny_mono (code_set_led1 (.ref l) (E := E) (Q₁ := fun obj s₁ => obj = .ref s.heap.objs.size ∧ s₁ = { s with heap := s.heap.push new }) ⟨rfl, by rw [hnew]⟩) fun r s₁ hr => ?_
  cases r with
  | error e => exact hr
  | ok fl =>
    cases fl with
    | ret obj =>
      obtain ⟨rfl, rfl⟩ := hr
      have hS : (s.heap.push new).get? s.heap.objs.size = some new := Heap.get?_push_size _ (by rw [hnew]; rfl)
      have hT : Shared.TypeIs { s with heap := s.heap.push new } (.ref s.heap.objs.size) "set" := ⟨_, hS, by rw [hnew]⟩
      have hz : (s.heap.push new).objs.size = s.heap.objs.size + 1 := Heap.size_push ..
      have hli := PySem.F.called_set.init.lookup
      have hbi := PySem.F.called_set.init.bind (.ref s.heap.objs.size)
      repeat (any_goals (first | assumption | wp_step))
      refine codeAny_mono (codeAny_call_builtin (R := wants (fun r s₂ => r = .none ∧ ∃ h' tk m, s₂ = { s with heap := h', toks := tk } ∧ m ≤ items.size ∧ SetG knd kf h' s.heap.objs.size (met val items.size) m ∧
          (∀ b o, b < s.heap.objs.size → s.heap.get? b = some o → h'.get? b = some o)) E) PySem.F.called_set.init.plain PySem.F.entry_set_init (check_set_init_1 hT ?_)) fun r₂ s₂ hr₂ => ?_
      · subst hnew
        obtain ⟨ol, hol, hcl, nl, hdl⟩ := hl
        obtain ⟨ocls, odict, odata, oslots⟩ := ol
        simp only at hcl hdl
        subst hcl; subst hdl
        have hol' : (s.heap.push { cls := .type "set", dict := none, data := .set #[] 0 (.fresh 0 0 (!w.params.followText "set-order")) }).get? l = some { cls := .type "list", dict := odict, data := .seq items nl, slots := oslots } := Heap.get?_push_of_some _ hol
        have hsls := PySem.F.sub_list_set
        have hslf := PySem.F.sub_list_frozenset
        have hne : (Value.type "list" == Value.type "dict") = false := by decide
        have hl1 : (s.heap.push { cls := .type "set", dict := none, data := .set #[] 0 (.fresh 0 0 (!w.params.followText "set-order")) }).IsList l items := ⟨_, hol', rfl, nl, rfl⟩
        unfold Builtin.«set.__init__» noKeywords Builtin.Frozenset.updateFrom
        generalize hPI : pyIter = PI
        wp_walk
        subst hPI
        refine wpAny_pyIter_list hl1 ?_
        refine wpAny_bind (wpAny_runValue ?_)
        have hlS : l < s.heap.objs.size := Heap.lt_size hol
        have hh3 : A.in1.in1.in1.handled = none := by simp [hh]
        have hneI : l ≠ (s.heap.push { cls := .type "set", dict := none, data := .set #[] 0 (.fresh 0 0 (!w.params.followText "set-order")) }).objs.size := by rw [hz]; exact Nat.ne_of_lt (Nat.lt_succ_of_lt hlS)
        have hSf : s.heap.objs.size ∉ [(s.heap.push { cls := .type "set", dict := none, data := .set #[] 0 (.fresh 0 0 (!w.params.followText "set-order")) }).objs.size, l] := by
          rw [hz]; simp only [List.mem_cons, List.mem_singleton, List.not_mem_nil, or_false, not_or]
          exact ⟨Nat.ne_of_lt (Nat.lt_succ_self _), Nat.ne_of_gt hlS⟩
        refine setG_loop hk ((Walks.list hh3 _ l hneI items).toS) s.heap.objs.size hSf val hval hb (items.size - 0) 0 _ (by omega) (Nat.zero_le _) ⟨⟨_, Heap.get?_push_size _ rfl, rfl, rfl⟩, (hl1.push _)⟩ ?hS0 ?hR
        case hS0 => exact ⟨0, Nat.le_refl _, (setG_fresh (Heap.get?_push_of_some _ hS)).congr fun k => by unfold met; simp⟩
        case hR =>
          rintro ⟨h', g', d', tk', os'⟩ hm ⟨m, hml, hS'⟩
          obtain rfl : g' = s.gens := hm.gens
          obtain rfl : d' = s.drawn := hm.drawn
          obtain rfl : os' = s.os := hm.os
          show wpAny _ _ _ _ _ _
          refine wpAny_pure ?_
          show wpAny _ _ (ret Value.none) _ _ _
          refine wpAny_pure ⟨rfl, h', tk', m, rfl, hml, hS', fun b o hb e => hm.heap b o ?_ (Heap.get?_push_of_some _ (Heap.get?_push_of_some _ e))⟩
          simp only [List.mem_cons, List.mem_singleton, List.not_mem_nil, or_false, not_or]
          exact ⟨Nat.ne_of_lt hb, by rw [hz]; exact Nat.ne_of_lt (Nat.lt_succ_of_lt hb)⟩
      · cases r₂ with
        | error e => exact hr₂
        | ok fl₂ =>
          cases fl₂ with
          | ret r =>
            obtain ⟨rfl, h', tk, m, rfl, hml, hS', hk'⟩ := hr₂
            repeat (any_goals (first | assumption | wp_step))
            exact h _ _ _ hml hS' hk'
          | _ => exact hr₂.elim
    | _ => exact hr.elim
end
/-! texts, each once, in order -/
def srtU (l : List Str) : List Str := srt l.eraseDups
theorem mem_srtU {l : List Str} {z : Str} : z ∈ srtU l ↔ z ∈ l := by rw [srtU, mem_srt, List.mem_eraseDups]
theorem nd_erase (l : List Str) : l.eraseDups.Nodup := by
  have : ∀ n (l : List Str), l.length ≤ n → l.eraseDups.Nodup := by
    intro n
    induction n with
    | zero =>
      intro l h
      have e : l = [] := List.length_eq_zero_iff.mp (by omega)
      subst e; exact List.nodup_nil
    | succ n ih =>
      intro l h
      cases l with
      | nil => exact List.nodup_nil
      | cons a r =>
        rw [List.eraseDups_cons]
        refine List.nodup_cons.mpr ⟨fun hm => ?_, ih _ ?_⟩
        · rw [List.mem_eraseDups, List.mem_filter] at hm
          simp at hm
        · exact Nat.le_trans (List.length_filter_le _ _) (by rw [List.length_cons] at h; omega)
  exact this _ l (Nat.le_refl _)
theorem nd_srtU (l : List Str) : (srtU l).Nodup := nd_srt (nd_erase l)
theorem srtU_uniq {l m : List Str} (nd : m.Nodup) (hm : ∀ z, z ∈ m ↔ z ∈ l) (hs : sortedS m = true) : m = srtU l := by
  refine srt_uniq ?_ hs
  exact (List.perm_ext_iff_of_nodup nd (nd_erase l)).mpr fun z => by rw [hm, List.mem_eraseDups]
def strV : Value → Str
  | .str z _ => z
  | _ => ""
theorem strV_is {P : Program} {w : World} (k : Str) (v : Value) (h : (PySem.strKind P w).is k v = true) : strV v = k := by
  obtain ⟨t, rfl⟩ := Value.isStrOf_shape h
  rfl
section
variable {P : Program} {w : World} {A : Around} {E : Value → Shared → Prop} {s : Shared}
theorem sorted_setS {a : Addr} {S : Str → Bool} {n : Nat} {Q : Value → Shared → Prop} (R : SetG (PySem.strKind P w) strV s.heap a S n) (hh : A.handled = none)
    (hQ : ∀ s' p (out : Array Value) (c : Nat) (zs : List Str), (∀ b o, s.heap.get? b = some o → s'.heap.get? b = some o) → s'.gens = s.gens → s'.os = s.os → s.heap.objs.size ≤ p →
      s'.heap.get? p = some (seqObj "list" out c) → StrsAre out.toList zs → sortedS zs = true → zs.Nodup → (∀ k, k ∈ zs ↔ S k = true) → zs.length = n → Q (.ref p) s') :
    wpAny (model P w) A (call (.builtin "sorted") [.ref a]) Q E s := by
  obtain ⟨o, es, ep, t, ho, hex, hd, g, nd, hm, hb, hf, hn, hr, hl⟩ := R
  have hb' : es.size < 4096 := hb
  refine Calls.call_function_entry kind_sorted plain_sorted entry_sorted (args_sorted1 _) ?_
  unfold Builtin.«sorted»
  refine wpAny_bind (m := checkCount "sorted" 1 1 _) (wpAny_pure ?_)
  refine wpAny_bind (collect_set (A := A.in1) hh ⟨o, ho, hex.1, hd⟩ hf hb hr hl fun s1 vs k1 hz g1 o1 pm => ?_)
  have hvl : vs.length = n := by rw [pm.length_eq, List.length_map, Array.length_toList]; exact hn
  have hv16 : vs.length ≤ sizeLine := by rw [hvl, sizeLine_eq]; omega
  have hI : StrsAre vs (vs.map strV) := by
    have : ∀ us : List Value, (∀ v ∈ us, ∃ k t, v = Value.str k t) → StrsAre us (us.map strV) := fun us hu => by
      induction us with
      | nil => exact .nil
      | cons v us ih =>
        obtain ⟨k, t, rfl⟩ := hu v List.mem_cons_self
        exact .cons k t (ih fun x hx => hu x (List.mem_cons_of_mem _ hx))
    refine this vs fun v hv => ?_
    obtain ⟨e, he, q⟩ := List.mem_map.mp (pm.mem_iff.mp hv)
    obtain ⟨⟨k, h0, _⟩, _⟩ := g e he
    obtain ⟨t, ht⟩ := Value.isStrOf_shape h0
    exact ⟨k, t, by rw [← q]; exact ht⟩
  have pk : (vs.map strV).Perm (es.toList.map fun e => strV e.2) := by
    have q := pm.map strV
    rw [List.map_map] at q
    exact q
  refine wpAny_bind (wpAny_newList ?_ hv16)
  have hoL : (s1.heap.push (seqObj "list" vs.toArray 0)).get? s1.heap.objs.size = some (seqObj "list" vs.toArray 0) := Heap.get?_push_size _ rfl
  refine wpAny_bind (wpAny_holding (wpAny_call_entry slot_list_sort ⟨_, hoL, rfl⟩ entry_list_sort
    (list_sort_treeKAny strKind_oneLt (s := { s1 with heap := s1.heap.push (seqObj "list" vs.toArray 0) }) hoL hI.keysOf (fun v₁ v₂ rest e => keyKind_strs (by rw [← e]; exact hI)) hv16 fun st' hp hs => ⟨_, rfl, ?_⟩) (args_list_sort _)))
  obtain ⟨zs, a1, a2, a3⟩ := sorted_out_str hI hp hs
  obtain ⟨c, hc⟩ := sortedHeap_at (vs := vs) (out := (arrOf st').map (·.2)) hoL
  have pn : zs.Perm (es.toList.map fun e => strV e.2) := a2.trans pk
  refine wpAny_pure ⟨_, rfl, hQ _ s1.heap.objs.size _ c zs (fun b u e => ?_) g1 o1 hz hc a1 a3 (pn.nodup_iff.mpr nd) (fun k => by rw [pn.mem_iff, ← hm k]) ?_⟩
  · have q := k1 b u e
    have hlt := Heap.lt_size q
    show (sortedHeap (s1.heap.push (seqObj "list" vs.toArray 0)) s1.heap.objs.size vs _).get? b = some u
    rw [sortedHeap_old (Nat.ne_of_lt hlt) (by rw [size_push']; exact Nat.lt_succ_of_lt hlt)]
    exact Heap.get?_push_of_some _ q
  · rw [pn.length_eq, List.length_map, Array.length_toList]; exact hn
end
end M

/-! ### sorted(set(xs)), texts -/
namespace M
open PySem PySem.Spec PyProof.Rows L2
def tSortedSet (K : PySem.W.Frag) (ta : TE) : TE := fun σ H Q => ta σ H fun x H1 => ∃ (l : Addr) (xs : List Str), x = .ref l ∧ SqL K H1 l (xs.map V.str) ∧ xs.length < 4000 ∧ ∀ p, H1 p = none → Q (.ref p) (upd H1 p (.lst ((srtU xs).map V.str)))
theorem pe_sortedSet {X : Cx} {a : Expr} {ta : TE} {p p2 q pos : Pos} (hc : X.calm = true) (hg : Gl X "sorted") (hm : X.mg "sorted" = none) (hg2 : Gl X "set") (hm2 : X.mg "set" = none) (ha : PE X a ta)
    (na : starEach [a] X.env = (false, eval a X.env) :: starEach [] X.env := by rfl) : PE X (.Call (.Name "sorted" p) [.Call (.Name "set" p2) [a] [] q] [] pos) (tSortedSet X.K ta) := by
  refine ⟨fun pins s σ H Q I h => ?_⟩
  refine Call_ (ld_blt I hg hm (u := .builtin "sorted") (by decide +kernel) ?_)
  refine PyProof.Rows.callWith_builtin1 (PyProof.Rows.args_cons ?_ rfl) rfl rfl
  refine Call_ (ld_blt I hg2 hm2 boot_set ?_)
  refine PyProof.Rows.callWith_type1 (PyProof.Rows.args_cons (thn (ha.run pins s σ H _ I h) fun v s1 ⟨x, H1, I1, r1, q1⟩ => PyProof.Rows.args_nil ?_) na) na rfl
  obtain ⟨l, xs, rfl, hl, hx, q1⟩ := q1
  cases r1
  obtain ⟨its, r, pl, hz⟩ := I1.list hl
  have hS := r.strs
  have hlen : its.length = xs.length := by rw [← r.length, List.length_map]
  refine call_setG (knd := PySem.strKind X.prog X.w) strV_is (fun i => xs.getD i Str.empty) (items := its.toArray) (fun i v hv => ?_) (I1.ok.hd hc) pl.isList (by rw [List.size_toArray, hlen]; unfold scanBound; omega) fun h' tk m hm' hR hk => ?_
  · obtain ⟨t, rfl⟩ := SS.strs_at hS i v (by simpa using hv)
    exact ⟨strKind_is _ _ _ t, rfl⟩
  refine PyProof.Rows.args_nil ?_
  have I2 : Inv X pins σ H1 { s1 with heap := h', toks := tk } := I1.kept fun b o e => hk b o (Heap.lt_size e) e
  have hR2 : SetG (PySem.strKind X.prog X.w) strV ({ s1 with heap := h', toks := tk } : Shared).heap s1.heap.objs.size (met (fun i => xs.getD i Str.empty) its.toArray.size) m := hR
  generalize ({ s1 with heap := h', toks := tk } : Shared) = s2 at I2 hR2 ⊢
  have hm4 : m < 4096 := by rw [List.size_toArray, hlen] at hm'; omega
  refine sorted_setS hR2 (I2.ok.hd hc) fun s' p out c zs k g o hp hg' hi hs nd hmem hzl => ?_
  have e : zs = srtU xs := srtU_uniq nd (fun z => by
    rw [hmem]
    unfold met
    rw [decide_eq_true_eq, List.mem_map, List.size_toArray, hlen]
    constructor
    · rintro ⟨i, hi, rfl⟩
      rw [List.mem_range] at hi
      rw [List.getD_eq_getElem?_getD, List.getElem?_eq_getElem hi]
      exact List.getElem_mem hi
    · intro hz
      obtain ⟨i, hi, rfl⟩ := List.getElem_of_mem hz
      exact ⟨i, List.mem_range.mpr hi, by rw [List.getD_eq_getElem?_getD, List.getElem?_eq_getElem hi]; rfl⟩) hs
  subst e
  have hl2 : ((srtU xs).map V.str).length ≤ sizeLine := by rw [List.length_map, hzl, sizeLine_eq]; omega
  have hn : H1 p = none := I2.hok.fresh hp
  have J : Inv X pins σ (upd H1 p (.lst ((srtU xs).map V.str))) { s2 with heap := s'.heap, gens := s'.gens, drawn := s'.drawn, toks := s'.toks } :=
    I2.call (ch := []) (Un.laid k hp hn) (I2.hok.laid k hp ⟨hl2, out.toList, c, vals_of_strs hi, hg'⟩) (by rw [g]; exact I2.bare) (fun _ z => nomatch z)
  have e : s' = { s2 with heap := s'.heap, gens := s'.gens, drawn := s'.drawn, toks := s'.toks } := by
    cases s'
    cases s2
    cases o
    rfl
  rw [e]
  exact ⟨.ref p, _, J, rfl, q1 p hn⟩
end M

/-! ### three trees at a path, as plain functions -/
namespace M
open PySem PySem.Spec PyProof.Rows L2
/-- what stands at a path, or None -/
abbrev getV (G : Tr) (p : Str) : V := (valV G p).getD .non
def allP (A B C : Tr) : List Str := srtU (keys A ++ keys B ++ keys C)
def OptS (v : V) : Prop := v = .non ∨ ∃ z, v = .str z
theorem TreeOk.optS {b : Nat} {G : Tr} (ok : TreeOk b G) (p : Str) : OptS (getV G p) := by
  rcases ok.opt p with h | ⟨z, h⟩
  · exact .inl (by rw [getV, h]; rfl)
  · exact .inr ⟨z, by rw [getV, h]; rfl⟩
theorem OptS.scal {x y : V} (hx : OptS x) (hy : OptS y) : scal x y = true := by
  rcases hx with rfl | ⟨a, rfl⟩ <;> rcases hy with rfl | ⟨b, rfl⟩ <;> rfl
def markV (w l r : V) : Str := if l = r then (if l = w then "same" else "alike") else if l = w then "other" else if r = w then "one" else "clash"
/-- the rows (path, word) of the paths at which not all have the same -/
def markRow (A B C : Tr) (p : Str) : List Str := [p, markV (getV A p) (getV B p) (getV C p)]
def marked (A B C : Tr) (p : Str) : Bool := !decide (markV (getV A p) (getV B p) (getV C p) = "same")
def rowsL (A B C : Tr) (ps : List Str) : List (List Str) := (ps.filter (marked A B C)).map (markRow A B C)
def marksL (A B C : Tr) : List (List Str) := rowsL A B C (allP A B C)
theorem rows_next {A B C : Tr} {ps : List Str} {i : Nat} {z : Str} (h : ps[i]? = some z) : rowsL A B C (ps.take (i + 1)) = rowsL A B C (ps.take i) ++ (if marked A B C z = true then [markRow A B C z] else []) := by
  unfold rowsL
  rw [List.take_add_one, h, List.filter_append, List.map_append]
  cases hm : marked A B C z <;> simp [hm]
theorem rows_len (A B C : Tr) (ps : List Str) : (rowsL A B C ps).length ≤ ps.length := by
  unfold rowsL
  rw [List.length_map]
  exact List.length_filter_le _ _
theorem allP_len (A B C : Tr) : (allP A B C).length ≤ A.length + B.length + C.length := by
  have h := (nd_srtU (keys A ++ keys B ++ keys C)).length_le_of_subset (l₂ := keys A ++ keys B ++ keys C) fun z hz => mem_srtU.mp hz
  rw [List.length_append, List.length_append, List.length_map, List.length_map, List.length_map] at h
  exact h
theorem TsAt.notin {H : Hp} {ts : List Addr} {ks : List (List Str)} {F : Addr} {xs : List V} (h : TsAt H ts ks) (hF : H F = some (.lst xs)) : F ∉ ts := by
  induction h with
  | nil => simp
  | cons a t ih =>
    intro hm
    rcases List.mem_cons.mp hm with e | hm
    · subst e; rw [hF] at a; cases a
    · exact ih hm
theorem TsAt.push {H : Hp} {ts : List Addr} {ks : List (List Str)} {F t : Addr} {k : List Str} {xs ys : List V} (h : TsAt H ts ks) (hF : H F = some (.lst xs)) (ht : H t = some (.tup (k.map V.str))) : TsAt (L2.upd H F (.lst ys)) (ts ++ [t]) (ks ++ [k]) := by
  have n : F ≠ t := fun e => by subst e; rw [hF] at ht; cases ht
  exact M.Paired.snoc (R := fun t (k : List Str) => L2.upd H F (.lst ys) t = some (.tup (k.map V.str))) ((upd_ne n.symm).trans ht) (h.upd (h.notin hF))
theorem srtU_congr {l m : List Str} (h : ∀ z, z ∈ l ↔ z ∈ m) : srtU l = srtU m := by
  refine perm_uniq (lt := fun a b => strKind.blt (cl a) (cl b)) (fun a b h1 h2 => cl_inj (strKind.total _ _ h1 h2)) ?_ (srtK_pw _ _ _) (srtK_pw _ _ _)
  exact (List.perm_ext_iff_of_nodup (nd_srtU l) (nd_srtU m)).mpr fun z => by rw [mem_srtU, mem_srtU, h]
theorem allP_swap (A B C : Tr) : allP A C B = allP A B C := srtU_congr fun z => by
  simp only [List.mem_append]
  constructor <;> (rintro ((h | h) | h)) <;> simp [h]
def lawWord (w l r : V) : Str := if l = r then "alike" else if l = w then "other" else if r = w then "one" else "clash"
theorem mark_same {w l r : V} : markV w l r = "same" ↔ (l = w ∧ r = w) := by
  unfold markV
  constructor
  · intro h
    split at h
    · rename_i e
      split at h
      · rename_i e2; exact ⟨e2, e ▸ e2⟩
      · exact absurd h (by decide +kernel)
    · split at h
      · exact absurd h (by decide +kernel)
      · split at h
        · exact absurd h (by decide +kernel)
        · exact absurd h (by decide +kernel)
  · rintro ⟨rfl, rfl⟩; simp
theorem mark_law {w l r : V} (h : markV w l r ≠ "same") : lawWord w l r = markV w l r := by
  unfold markV at h ⊢
  unfold lawWord
  split
  · rename_i e
    rw [if_pos e] at h
    split
    · rename_i e2; rw [if_pos e2] at h; exact absurd rfl h
    · rfl
  · rfl
theorem mark_swap (w l r : V) : markV w r l = if markV w l r = "one" then ("other" : Str) else if markV w l r = "other" then ("one" : Str) else markV w l r := by
  have d1 : ("same" : Str) ≠ "one" := by decide +kernel
  have d2 : ("same" : Str) ≠ "other" := by decide +kernel
  have d3 : ("alike" : Str) ≠ "one" := by decide +kernel
  have d4 : ("alike" : Str) ≠ "other" := by decide +kernel
  have d5 : ("other" : Str) ≠ "one" := by decide +kernel
  have d6 : ("clash" : Str) ≠ "one" := by decide +kernel
  have d7 : ("clash" : Str) ≠ "other" := by decide +kernel
  unfold markV
  by_cases h1 : l = r
  · subst h1
    by_cases h2 : l = w
    · rw [if_pos rfl, if_pos h2, if_neg d1, if_neg d2]
    · rw [if_pos rfl, if_neg h2, if_neg d3, if_neg d4]
  · have h1' : ¬ r = l := fun e => h1 e.symm
    by_cases h2 : l = w
    · have h3 : ¬ r = w := fun e => h1 (h2.trans e.symm)
      simp only [if_neg h1, if_neg h1', if_pos h2, if_neg h3, if_neg d5, if_true]
    · by_cases h3 : r = w
      · simp only [if_neg h1, if_neg h1', if_neg h2, if_pos h3, if_true]
      · simp only [if_neg h1, if_neg h1', if_neg h2, if_neg h3, if_neg d6, if_neg d7]
theorem row2 (A B C : Tr) (ps : List Str) : ∀ k ∈ rowsL A B C ps, k.length ≤ 2 := fun k hk => by
  obtain ⟨p, _, rfl⟩ := List.mem_map.mp hk
  exact Nat.le_refl 2
end M

/-! ### joining, as plain functions -/
namespace M
open PySem PySem.Spec PyProof.Rows L2
def sV : V → Str
  | .str z => z
  | _ => ""
/-- what stands at a path of what is joined, with picks -/
def standV (A B C P : Tr) (p : Str) : V :=
  match valV P p with
  | some v => v
  | none => if markV (getV A p) (getV B p) (getV C p) = "clash" then .non else if markV (getV A p) (getV B p) (getV C p) = "other" then getV C p else getV B p
def standsB (A B C P : Tr) (p : Str) : Bool := !decide (standV A B C P p = .non)
def madeL (A B C P : Tr) (ps : List Str) : Tr := (ps.filter (standsB A B C P)).map fun p => (p, standV A B C P p)
def leftB (A B C P : Tr) (p : Str) : Bool := !(valV P p).isSome && decide (markV (getV A p) (getV B p) (getV C p) = "clash")
def leftL (A B C P : Tr) (ps : List Str) : List Str := ps.filter (leftB A B C P)
theorem made_keys (A B C P : Tr) (ps : List Str) : keys (madeL A B C P ps) = ps.filter (standsB A B C P) := by
  unfold madeL keys
  rw [List.map_map]
  exact List.map_id _
theorem put_new {T : Tr} {k : Str} {v : V} (h : k ∉ keys T) : putK T k v = T ++ [(k, v)] := by
  have h0 := val_some (T := T) (k := k)
  rw [← valV_any, decide_eq_false h] at h0
  unfold putK
  rw [h0]; rfl
theorem made_next {A B C P : Tr} {ps : List Str} (nd : ps.Nodup) {i : Nat} {z : Str} (h : ps[i]? = some z) :
    madeL A B C P (ps.take (i + 1)) = if standsB A B C P z = true then putK (madeL A B C P (ps.take i)) z (standV A B C P z) else madeL A B C P (ps.take i) := by
  have tk : ps.take (i + 1) = ps.take i ++ [z] := by rw [List.take_add_one, h]; rfl
  have hz : z ∉ ps.take i := by
    have := (List.take_sublist (i + 1) ps).nodup nd
    rw [tk] at this
    exact fun hm => (List.nodup_append.mp this).2.2 z hm z (List.mem_singleton.mpr rfl) rfl
  rw [tk]
  cases hs : standsB A B C P z with
  | true =>
    rw [if_pos rfl, put_new]
    · unfold madeL
      rw [List.filter_append, List.map_append]
      simp [hs]
    · rw [made_keys]
      exact fun hm => hz (List.mem_filter.mp hm).1
  | false =>
    rw [if_neg (by simp)]
    unfold madeL
    rw [List.filter_append]
    simp [hs]
theorem left_next {A B C P : Tr} {ps : List Str} {i : Nat} {z : Str} (h : ps[i]? = some z) : leftL A B C P (ps.take (i + 1)) = leftL A B C P (ps.take i) ++ (if leftB A B C P z = true then [z] else []) := by
  unfold leftL
  rw [List.take_add_one, h, List.filter_append]
  cases hb : leftB A B C P z <;> simp [hb]
theorem made_val {A B C P : Tr} {ps : List Str} (nd : ps.Nodup) (p : Str) : valV (madeL A B C P ps) p = if p ∈ ps ∧ standsB A B C P p = true then some (standV A B C P p) else none := by
  have hk := made_keys A B C P ps
  have ndk : (keys (madeL A B C P ps)).Nodup := by rw [hk]; exact nd.filter _
  split
  · rename_i h
    exact val_of_mem ndk (List.mem_map.mpr ⟨p, List.mem_filter.mpr h, rfl⟩)
  · rename_i h
    refine val_none fun hm => h ?_
    rw [hk] at hm
    exact List.mem_filter.mp hm
theorem made_nd {A B C P : Tr} {ps : List Str} (nd : ps.Nodup) : (keys (madeL A B C P ps)).Nodup := by rw [made_keys]; exact nd.filter _
/-- the tree made of all paths -/
abbrev madeT (A B C P : Tr) : Tr := madeL A B C P (allP A B C)
abbrev leftT (A B C P : Tr) : List Str := leftL A B C P (allP A B C)
theorem nd_allP (A B C : Tr) : (allP A B C).Nodup := nd_srtU _
theorem mem_allP {A B C : Tr} {p : Str} : p ∈ allP A B C ↔ p ∈ keys A ∨ p ∈ keys B ∨ p ∈ keys C := by
  rw [allP, mem_srtU, List.mem_append, List.mem_append, or_assoc]
/-- the pairs of a file and what lies above it -/
def pairsL (T : Tr) (ps : List Str) : List (List Str) := ps.flatMap fun p => ((aboveL p).filter fun q => (valV T q).isSome).map fun q => [q, p]
def clashRows (A B C : Tr) : List (List Str) := (leftT A B C []).map (fun p => [p]) ++ pairsL (madeT A B C []) (keys (madeT A B C []))
def clashesL (A B C : Tr) : List (List Str) := srtT (clashRows A B C)
theorem pairs_next {T : Tr} {ps : List Str} {i : Nat} {z : Str} (h : ps[i]? = some z) : pairsL T (ps.take (i + 1)) = pairsL T (ps.take i) ++ ((aboveL z).filter fun q => (valV T q).isSome).map fun q => [q, z] := by
  unfold pairsL
  rw [List.take_add_one, h, List.flatMap_append]
  simp
/-! from the other side -/
theorem mark_clash_swap (w l r : V) : markV w r l = "clash" ↔ markV w l r = "clash" := by
  have key : ∀ w l r, markV w l r = "clash" ↔ (l ≠ r ∧ l ≠ w ∧ r ≠ w) := fun w l r => by
    unfold markV
    constructor
    · intro h
      split at h
      · split at h <;> exact absurd h (by decide +kernel)
      · split at h
        · exact absurd h (by decide +kernel)
        · split at h
          · exact absurd h (by decide +kernel)
          · exact ⟨by assumption, by assumption, by assumption⟩
    · rintro ⟨h1, h2, h3⟩
      rw [if_neg h1, if_neg h2, if_neg h3]
  rw [key, key]
  exact ⟨fun ⟨a, b, c⟩ => ⟨fun e => a e.symm, c, b⟩, fun ⟨a, b, c⟩ => ⟨fun e => a e.symm, c, b⟩⟩
theorem clash_iff {w l r : V} : markV w l r = "clash" ↔ (l ≠ r ∧ l ≠ w ∧ r ≠ w) := by
  unfold markV
  constructor
  · intro h
    split at h
    · split at h <;> exact absurd h (by decide +kernel)
    · split at h
      · exact absurd h (by decide +kernel)
      · split at h
        · exact absurd h (by decide +kernel)
        · exact ⟨by assumption, by assumption, by assumption⟩
  · rintro ⟨h1, h2, h3⟩
    rw [if_neg h1, if_neg h2, if_neg h3]
theorem other_iff {w l r : V} : markV w l r = "other" ↔ (l ≠ r ∧ l = w) := by
  unfold markV
  constructor
  · intro h
    split at h
    · split at h <;> exact absurd h (by decide +kernel)
    · split at h
      · exact ⟨by assumption, by assumption⟩
      · split at h <;> exact absurd h (by decide +kernel)
  · rintro ⟨h1, h2⟩
    rw [if_neg h1, if_pos h2]
/-- what stands, by who has what -/
theorem stand_no {A B C P : Tr} {p : Str} (h : valV P p = none) : standV A B C P p = if markV (getV A p) (getV B p) (getV C p) = "clash" then .non else if markV (getV A p) (getV B p) (getV C p) = "other" then getV C p else getV B p := by
  unfold standV; rw [h]
theorem stand_yes {A B C P : Tr} {p : Str} {v : V} (h : valV P p = some v) : standV A B C P p = v := by
  unfold standV; rw [h]
theorem stand_swap (A B C P : Tr) (p : Str) : standV A C B P p = standV A B C P p := by
  cases h : valV P p with
  | some v => rw [stand_yes h, stand_yes h]
  | none =>
    rw [stand_no h, stand_no h]
    generalize getV A p = a
    generalize getV B p = b
    generalize getV C p = c
    by_cases hc : markV a b c = "clash"
    · rw [if_pos hc, if_pos ((mark_clash_swap a b c).mpr hc)]
    · rw [if_neg hc, if_neg (fun e => hc ((mark_clash_swap a b c).mp e))]
      by_cases e : b = c
      · subst e
        simp
      · by_cases h1 : b = a
        · have h2 : ¬ c = a := fun x => e (h1.trans x.symm)
          rw [if_pos (other_iff.mpr ⟨e, h1⟩), if_neg (fun x => h2 (other_iff.mp x).2)]
        · have h2 : c = a := Classical.byContradiction fun x => hc (clash_iff.mpr ⟨e, h1, x⟩)
          rw [if_neg (fun x => h1 (other_iff.mp x).2), if_pos (other_iff.mpr ⟨fun x => e x.symm, h2⟩)]
theorem made_swap (A B C P : Tr) : madeT A C B P = madeT A B C P := by
  unfold madeT madeL
  rw [allP_swap]
  have h1 : standsB A C B P = standsB A B C P := funext fun p => by unfold standsB; rw [stand_swap]
  have h2 : (fun p => (p, standV A C B P p)) = fun p => (p, standV A B C P p) := funext fun p => by rw [stand_swap]
  rw [h1, h2]
theorem left_swap (A B C P : Tr) : leftT A C B P = leftT A B C P := by
  unfold leftT leftL
  rw [allP_swap]
  have h1 : leftB A C B P = leftB A B C P := funext fun p => by
    unfold leftB
    congr 1
    exact decide_eq_decide.mpr (mark_clash_swap _ _ _)
  rw [h1]
theorem clash_swap (A B C : Tr) : clashesL A C B = clashesL A B C := by
  unfold clashesL clashRows
  rw [made_swap, left_swap]
/-! what is true of each clash -/
theorem stand_sides {a b c : V} (h : (if markV a b c = "clash" then V.non else if markV a b c = "other" then c else b) ≠ .non) : (b = .non → a = .non ∧ c ≠ .non) ∧ (c = .non → a = .non ∧ b ≠ .non) := by
  by_cases hc : markV a b c = "clash"
  · rw [if_pos hc] at h; exact absurd rfl h
  rw [if_neg hc] at h
  by_cases ho : markV a b c = "other"
  · rw [if_pos ho] at h
    obtain ⟨h1, h2⟩ := other_iff.mp ho
    exact ⟨fun e => ⟨h2.symm.trans e, h⟩, fun e => absurd e h⟩
  · rw [if_neg ho] at h
    refine ⟨fun e => absurd e h, fun e => ⟨?_, h⟩⟩
    by_cases hbc : b = c
    · exact absurd (hbc.trans e) h
    · have h1 : b ≠ a := fun x => ho (other_iff.mpr ⟨hbc, x⟩)
      have h2 : c = a := Classical.byContradiction fun x => hc (clash_iff.mpr ⟨hbc, h1, x⟩)
      exact h2.symm.trans e
theorem TreeOk.has {b : Nat} {G : Tr} (ok : TreeOk b G) (p : Str) : getV G p ≠ .non ↔ p ∈ keys G := by
  constructor
  · intro h
    refine Classical.byContradiction fun hn => h ?_
    rw [getV, val_none hn]; rfl
  · intro h
    rw [getV, ok.val h]
    intro e; cases e
/-- of two files, the one above the other, just one side has the one, and the other side the other -/
theorem pair_sides {A B C : Tr} {n m k : Nat} (okA : TreeOk n A) (okB : TreeOk m B) (okC : TreeOk k C) (cB : Clear B) (cC : Clear C) {u l : Str} (hu : standsB A B C [] u = true) (hl : standsB A B C [] l = true) (hb : beneathB l u = true) :
    u ∉ keys A ∧ l ∉ keys A ∧ ((u ∈ keys B ∧ u ∉ keys C ∧ l ∉ keys B ∧ l ∈ keys C) ∨ (u ∉ keys B ∧ u ∈ keys C ∧ l ∈ keys B ∧ l ∉ keys C)) := by
  have su : standV A B C [] u ≠ .non := by unfold standsB at hu; simpa using hu
  have sl : standV A B C [] l ≠ .non := by unfold standsB at hl; simpa using hl
  rw [stand_no (by rfl)] at su sl
  obtain ⟨u1, u2⟩ := stand_sides su
  obtain ⟨l1, l2⟩ := stand_sides sl
  have nB : ¬ (u ∈ keys B ∧ l ∈ keys B) := fun ⟨h1, h2⟩ => by
    have := cB u h1 l h2
    rw [hb] at this; cases this
  have nC : ¬ (u ∈ keys C ∧ l ∈ keys C) := fun ⟨h1, h2⟩ => by
    have := cC u h1 l h2
    rw [hb] at this; cases this
  have no : ∀ {G : Tr} {b : Nat} (ok : TreeOk b G) {p : Str}, p ∉ keys G ↔ getV G p = .non := fun {G b} ok {p} => by
    rw [← ok.has p]; exact Classical.not_not
  have hs : ∀ {G : Tr} {b : Nat} (ok : TreeOk b G) {p : Str}, p ∈ keys G ↔ getV G p ≠ .non := fun {G b} ok {p} => (ok.has p).symm
  rw [hs okB, hs okB] at nB
  rw [hs okC, hs okC] at nC
  rw [no okA, no okA, no okB, no okB, no okC, no okC, hs okB, hs okB, hs okC, hs okC]
  by_cases hbu : getV B u = .non
  · obtain ⟨au, cu⟩ := u1 hbu
    have cl : getV C l = .non := Classical.byContradiction fun h => nC ⟨cu, h⟩
    obtain ⟨al, bl⟩ := l2 cl
    exact ⟨au, al, .inr ⟨hbu, cu, bl, cl⟩⟩
  · have bl : getV B l = .non := Classical.byContradiction fun h => nB ⟨hbu, h⟩
    obtain ⟨al, cl⟩ := l1 bl
    have cu : getV C u = .non := Classical.byContradiction fun h => nC ⟨h, cl⟩
    obtain ⟨au, _⟩ := u2 cu
    exact ⟨au, al, .inl ⟨hbu, cu, bl, cl⟩⟩
theorem mem_clashes {A B C : Tr} {k : List Str} (h : k ∈ clashesL A B C) :
    (∃ p, k = [p] ∧ markV (getV A p) (getV B p) (getV C p) = "clash") ∨ ∃ u l, k = [u, l] ∧ standsB A B C [] u = true ∧ standsB A B C [] l = true ∧ beneathB l u = true := by
  have h := (srtT_perm _).mem_iff.mp h
  rcases List.mem_append.mp h with h | h
  · obtain ⟨p, hp, rfl⟩ := List.mem_map.mp h
    have := (List.mem_filter.mp hp).2
    unfold leftB at this
    rw [Bool.and_eq_true, decide_eq_true_eq] at this
    exact .inl ⟨p, rfl, this.2⟩
  · obtain ⟨l, hl, h⟩ := List.mem_flatMap.mp h
    obtain ⟨u, hu, rfl⟩ := List.mem_map.mp h
    obtain ⟨h1, h2⟩ := List.mem_filter.mp hu
    rw [made_keys] at hl
    rw [val_some, decide_eq_true_eq, made_keys] at h2
    exact .inr ⟨u, l, rfl, (List.mem_filter.mp h2).2, (List.mem_filter.mp hl).2, (mem_above l u).mp h1⟩
/-! the law's own folders: what stands ahead of each stroke -/
def pre47 : List Nat → List Nat → List (List Nat)
  | _, [] => []
  | acc, c :: r => if c = 47 then acc :: pre47 (acc ++ [c]) r else pre47 (acc ++ [c]) r
def uppersL (z : Str) : List Str := ((List.range z.length).filter fun k => decide ((cl z)[k]? = some 47)).map fun k : Nat => cutS z none (some (k : Int))
theorem cl_cut (z : Str) {k : Nat} (h : k ≤ z.length) : cl (cutS z none (some (k : Int))) = (cl z).take k := by
  unfold cutS
  rw [sIx_of _ _ (by omega)]
  show List.take _ _ = _
  simp [HT.sIx]
  omega
theorem pre_range : ∀ (l acc : List Nat), ((List.range l.length).filter fun k => decide (l[k]? = some 47)).map (fun k => acc ++ l.take k) = pre47 acc l
  | [], _ => rfl
  | c :: r, acc => by
    have ih := pre_range r (acc ++ [c])
    rw [List.length_cons, List.range_succ_eq_map, List.filter_cons, List.filter_map]
    have e : ((fun k => decide ((c :: r)[k]? = some 47)) ∘ Nat.succ) = fun k => decide (r[k]? = some 47) := funext fun k => by simp
    rw [e]
    have e2 : (List.map (fun k => acc ++ (c :: r).take k) (((List.range r.length).filter fun k => decide (r[k]? = some 47)).map Nat.succ)) = pre47 (acc ++ [c]) r := by
      rw [List.map_map, ← ih]
      refine List.map_congr_left fun k _ => ?_
      simp
    by_cases h : c = 47
    · subst h
      rw [if_pos (by simp), List.map_cons, e2]
      simp [pre47]
    · rw [if_neg (by simp [h]), e2]
      rw [pre47, if_neg h]
theorem uppers_cl (z : Str) : (uppersL z).map cl = pre47 [] (cl z) := by
  rw [uppersL, List.map_map, ← pre_range (cl z) [], ← len_cl]
  refine List.map_congr_left fun k hk => ?_
  have hk := List.mem_range.mp (List.mem_filter.mp hk).1
  rw [List.nil_append]
  exact cl_cut z (by omega)
def joinA (dn : List (List Nat)) (acc : List Nat) : List Nat := if dn = [] then acc else TL.joinL [47] dn ++ 47 :: acc
theorem joinA_snoc (dn : List (List Nat)) (acc : List Nat) : TL.joinL [47] (dn ++ [acc]) = joinA dn acc := by
  unfold joinA
  split
  · rename_i h; subst h; rfl
  · rename_i h; rw [joinL_app dn [acc] h (by simp)]; rfl
theorem pre_cut : ∀ (l acc : List Nat) (dn : List (List Nat)), ((List.range ((cut47 acc l).length - 1)).map fun i => TL.joinL [47] (dn ++ (cut47 acc l).take (i + 1))) = pre47 (joinA dn acc) l
  | [], acc, dn => rfl
  | c :: r, acc, dn => by
    by_cases h : c = 47
    · subst h
      have e : cut47 acc (47 :: r) = acc :: cut47 [] r := by simp [cut47]
      have ih := pre_cut r [] (dn ++ [acc])
      have hp : 0 < (cut47 [] r).length := List.length_pos_iff.mpr (cut_ne r [])
      obtain ⟨n, hn⟩ : ∃ n, (cut47 [] r).length = n + 1 := ⟨(cut47 [] r).length - 1, by omega⟩
      rw [e, List.length_cons, hn, Nat.add_sub_cancel, List.range_succ_eq_map, List.map_cons, List.map_map]
      rw [hn, Nat.add_sub_cancel] at ih
      rw [pre47, if_pos rfl]
      congr 1
      · exact joinA_snoc dn acc
      · have e3 : joinA (dn ++ [acc]) [] = joinA dn acc ++ [47] := by
          rw [joinA, if_neg (by simp), joinA_snoc]
        rw [← e3, ← ih]
        refine List.map_congr_left fun i _ => ?_
        show TL.joinL [47] (dn ++ acc :: (cut47 [] r).take (i + 1)) = _
        rw [List.append_assoc]; rfl
    · have e : cut47 acc (c :: r) = cut47 (acc ++ [c]) r := by simp [cut47, h]
      have ih := pre_cut r (acc ++ [c]) dn
      rw [e, ih, pre47, if_neg h]
      congr 1
      unfold joinA
      split <;> simp
theorem above_cl (z : Str) : (aboveL z).map cl = pre47 [] (cl z) := by
  have h := pre_cut (cl z) [] []
  rw [← parts_cut, List.length_map] at h
  rw [show joinA [] [] = ([] : List Nat) from rfl] at h
  rw [← h, aboveL, List.map_map]
  refine List.map_congr_left fun i _ => ?_
  show cl (Txt.join slash ((partsOf z).take (i + 1))) = _
  rw [cl_joinS, List.map_take, List.nil_append]
theorem uppers_above (z : Str) : uppersL z = aboveL z := cl_mapInj (by rw [uppers_cl, above_cl])
end M

/-! ### clashes in memory -/
namespace M
open PySem PySem.Spec PyProof.Rows L2
theorem above_few {z : Str} (h : isPathB z = true) : (aboveL z).length ≤ 7 := by
  rw [isPathB, Bool.and_eq_true, decide_eq_true_eq] at h
  rw [aboveL, List.length_map, List.length_range]
  omega
theorem made_path {A B C P : Tr} {n : Nat} (okA : TreeOk n A) (okB : TreeOk n B) (okC : TreeOk n C) {z : Str} (h : z ∈ keys (madeT A B C P)) : isPathB z = true := by
  rw [made_keys] at h
  rcases mem_allP.mp (List.mem_filter.mp h).1 with h | h | h
  · exact okA.path z h
  · exact okB.path z h
  · exact okC.path z h
theorem made_len (A B C P : Tr) : (keys (madeT A B C P)).length ≤ A.length + B.length + C.length := by
  rw [made_keys]
  exact Nat.le_trans (List.length_filter_le _ _) (allP_len A B C)
theorem left_len (A B C P : Tr) : (leftT A B C P).length ≤ A.length + B.length + C.length := Nat.le_trans (List.length_filter_le _ _) (allP_len A B C)
theorem pairs_len (T : Tr) : ∀ {ps : List Str}, (∀ z ∈ ps, isPathB z = true) → (pairsL T ps).length ≤ 7 * ps.length
  | [], _ => by simp [pairsL]
  | z :: ps, h => by
    have ih := pairs_len T (ps := ps) fun z hz => h z (List.mem_cons_of_mem _ hz)
    have h1 := above_few (h z List.mem_cons_self)
    have h2 : ((aboveL z).filter fun q => (valV T q).isSome).length ≤ (aboveL z).length := List.length_filter_le _ _
    have e : pairsL T (z :: ps) = (((aboveL z).filter fun q => (valV T q).isSome).map fun q => [q, z]) ++ pairsL T ps := by simp [pairsL]
    rw [e, List.length_append, List.length_map, List.length_cons]
    omega
theorem pair_next {T : Tr} {z : Str} {j : Nat} {q : Str} (h : (aboveL z)[j]? = some q) : (((aboveL z).take (j + 1)).filter fun q => (valV T q).isSome).map (fun q => [q, z]) = (((aboveL z).take j).filter fun q => (valV T q).isSome).map (fun q => [q, z]) ++ (if (valV T q).isSome = true then [[q, z]] else []) := by
  rw [List.take_add_one, h, List.filter_append, List.map_append]
  cases hb : (valV T q).isSome <;> simp [hb]
theorem pair_few {T : Tr} {z : Str} (h : isPathB z = true) (j : Nat) : ((((aboveL z).take j).filter fun q => (valV T q).isSome).map (fun q => [q, z])).length ≤ 7 := by
  have h1 := above_few h
  rw [List.length_map]
  refine Nat.le_trans (List.length_filter_le _ _) ?_
  rw [List.length_take]; omega
def keyAt (H : Hp) (t : Addr) : List Str := match H t with | some (.tup xs) => xs.map sV | _ => []
theorem keyAt_of {H : Hp} {t : Addr} {k : List Str} (h : H t = some (.tup (k.map V.str))) : keyAt H t = k := by
  unfold keyAt
  rw [h]
  show (k.map V.str).map sV = k
  rw [List.map_map]
  exact List.map_id _
theorem TsAt.keys {H : Hp} {ts : List Addr} {ks : List (List Str)} (h : TsAt H ts ks) : ts.map (keyAt H) = ks := by
  induction h with
  | nil => rfl
  | cons a t ih => rw [List.map_cons, ih, keyAt_of a]
theorem TsAt.all {H : Hp} {ts : List Addr} {ks : List (List Str)} (h : TsAt H ts ks) : ∀ t ∈ ts, H t = some (.tup ((keyAt H t).map V.str)) ∧ keyAt H t ∈ ks := by
  induction h with
  | nil => intro t ht; simp at ht
  | @cons t k ts ks a r ih =>
    intro u hu
    rcases List.mem_cons.mp hu with e | hu
    · subst e
      rw [keyAt_of a]
      exact ⟨a, List.mem_cons_self⟩
    · exact ⟨(ih u hu).1, List.mem_cons_of_mem _ (ih u hu).2⟩
theorem TsAt.ofKeys {H : Hp} : ∀ {us : List Addr}, (∀ t ∈ us, H t = some (.tup ((keyAt H t).map V.str))) → TsAt H us (us.map (keyAt H))
  | [], _ => .nil
  | u :: us, h => .cons (h u List.mem_cons_self) (TsAt.ofKeys fun t ht => h t (List.mem_cons_of_mem _ ht))
theorem TsAt.sorted {H : Hp} {ts us : List Addr} {ks : List (List Str)} (h : TsAt H ts ks) (pm : us.Perm ts) (e : us.map (keyAt H) = srtT (ts.map (keyAt H))) : TsAt H us (srtT ks) := by
  rw [h.keys] at e
  rw [← e]
  exact TsAt.ofKeys fun t ht => (h.all t (pm.mem_iff.mp ht)).1
theorem TsAt.notO {H : Hp} {ts : List Addr} {ks : List (List Str)} {F : Addr} {o : HO} (h : TsAt H ts ks) (hF : H F = some o) (ho : ∀ xs, o ≠ .tup xs) : F ∉ ts := fun hm => ho _ (Option.some.inj (hF.symm.trans (h.all F hm).1))
theorem rows_ne {A B C : Tr} : ∀ k ∈ clashRows A B C, k ≠ [] := fun k hk => by
  rcases List.mem_append.mp hk with h | h
  · obtain ⟨p, _, rfl⟩ := List.mem_map.mp h; simp
  · obtain ⟨z, _, h⟩ := List.mem_flatMap.mp h
    obtain ⟨q, _, rfl⟩ := List.mem_map.mp h; simp
/-! the law's way to say what stands -/
def dueB (w l r : V) : Bool := !(!decide (l = r) && !decide (l = w) && !decide (r = w)) && ((!decide (l = w) && !decide (l = .non)) || (decide (l = w) && !decide (r = .non)))
theorem due_stands (A B C : Tr) (p : Str) : dueB (getV A p) (getV B p) (getV C p) = standsB A B C [] p := by
  unfold standsB
  rw [stand_no (show valV [] p = none from rfl)]
  generalize getV A p = w
  generalize getV B p = l
  generalize getV C p = r
  unfold dueB markV
  have d1 : ("same" : Str) ≠ "clash" := by decide +kernel
  have d2 : ("same" : Str) ≠ "other" := by decide +kernel
  have d3 : ("alike" : Str) ≠ "clash" := by decide +kernel
  have d4 : ("alike" : Str) ≠ "other" := by decide +kernel
  have d5 : ("other" : Str) ≠ "clash" := by decide +kernel
  have d6 : ("one" : Str) ≠ "clash" := by decide +kernel
  have d7 : ("one" : Str) ≠ "other" := by decide +kernel
  by_cases h1 : l = r
  · subst h1
    by_cases h2 : l = w
    · simp [h2, d1, d2]
    · simp [h2, d3, d4]
  · by_cases h2 : l = w
    · subst h2
      simp [h1, d5]
    · by_cases h3 : r = w
      · subst h3
        simp [h1, d6, d7]
      · simp [h1, h2, h3]
theorem due_clash (w l r : V) : (decide (markV w l r = "clash")) = (!decide (l = r) && !decide (l = w) && !decide (r = w)) := by
  rw [Bool.eq_iff_iff, decide_eq_true_eq, clash_iff]
  simp [and_assoc]
def dueL (A B C : Tr) (ps : List Str) : Tr := (ps.filter (standsB A B C [])).map fun p => (p, .bl true)
theorem due_keys (A B C : Tr) (ps : List Str) : keys (dueL A B C ps) = ps.filter (standsB A B C []) := by
  unfold dueL M.keys
  rw [List.map_map]
  exact List.map_id _
theorem due_next {A B C : Tr} {ps : List Str} (nd : ps.Nodup) {i : Nat} {z : Str} (h : ps[i]? = some z) :
    dueL A B C (ps.take (i + 1)) = if standsB A B C [] z = true then putK (dueL A B C (ps.take i)) z (.bl true) else dueL A B C (ps.take i) := by
  have tk : ps.take (i + 1) = ps.take i ++ [z] := by rw [List.take_add_one, h]; rfl
  have hz : z ∉ ps.take i := by
    have := (List.take_sublist (i + 1) ps).nodup nd
    rw [tk] at this
    exact fun hm => (List.nodup_append.mp this).2.2 z hm z (List.mem_singleton.mpr rfl) rfl
  rw [tk]
  cases hs : standsB A B C [] z with
  | true =>
    rw [if_pos rfl, put_new]
    · unfold dueL
      rw [List.filter_append, List.map_append]
      simp [hs]
    · rw [due_keys]
      exact fun hm => hz (List.mem_filter.mp hm).1
  | false =>
    rw [if_neg (by simp)]
    unfold dueL
    rw [List.filter_append]
    simp [hs]
theorem due_has (A B C : Tr) (ps : List Str) (q : Str) : (valV (dueL A B C ps) q).isSome = (valV (madeL A B C [] ps) q).isSome := by
  rw [val_some, val_some, due_keys, made_keys]
theorem due_pairs (A B C : Tr) (ps qs : List Str) : pairsL (dueL A B C ps) qs = pairsL (madeL A B C [] ps) qs := by
  unfold pairsL
  congr 1
  funext p
  congr 1
  congr 1
  funext q
  exact due_has A B C ps q
theorem TreeN.over {n b : Nat} {G : Tr} {z y : Str} (h : TreeN n b G) (hz : z ∈ keys G) : TreeN n b (putK G z (.str y)) := by
  have hk : keys (putK G z (.str y)) = keys G := by rw [keys_put, if_pos hz]
  have o := h.ok.put (z := y) (h.ok.path z hz)
  refine ⟨⟨o.nd, o.path, o.str, ?_⟩, fun p hp q hq => ?_, fun p hp => ?_⟩
  · have e := congrArg List.length hk
    have l := h.ok.len
    rw [List.length_map, List.length_map] at e
    omega
  · rw [hk] at hp hq
    exact h.clear p hp q hq
  · rw [hk] at hp
    exact h.few p hp
end M

/-! ### own exceptions: raised, let out, caught -/
namespace M
open PySem PySem.Spec PyProof.Rows L2
abbrev EXCB : List Value := [.type "ValueError", .type "Exception", .type "BaseException", .type "object"]
/-- an own class under ValueError -/
structure XCls (K : PySem.W.Frag) (mg : Str → Option Value) (x : Str) (C : Addr) : Prop where
  gC : mg x = some (.ref C)
  xC : PySem.W.excIn K C EXCB "ValueError.__new__" = true
  kC : PySem.W.keepIn K (.ref C) = true
  bC : PySem.W.subIn K (.ref C) (.type "BaseException") = some true
  tC : PySem.W.typeIn K (.ref C) = some (.type "type")
section
variable {P : Program} {w : World} {K : PySem.W.Frag} {mg : Str → Option Value} {base : Heap}
/-- a def that may raise -/
theorem Def.okX {x : Str} {st : Stmt} {N ps : List Str} {k : Nat} {sp : Sp} (D : Def K mg x st ps) (S : FnScope N ps (defScope st)) (len : ∀ vs H Q E, sp vs H Q E → vs.length = ps.length)
    (hbody : ∀ (f : Addr) (cdv : Value) (A : Around) (outer : List Env) (s : Shared) (H : Hp) (vs : List V) (Q : VK) (E : XK), Room k (A.deeper (envOfC x (defScope st) s.heap.objs.size f cdv)) → sp vs H Q E →
      ∃ t, PSs (cxOf (L2N.CX P w) P w K mg base N x (defScope st) f cdv A outer s H E) (defBody st) t ∧ t { nx := fun _ H' => Q .non H', rt := Q } (start N vs) H) : Cal P w K mg base (L2N.CX P w) (k + 1) x ps sp := by
  obtain ⟨f, fd, F, g, b⟩ := D.ex
  obtain ⟨oc, od, kV, doc, pm, an, cdv, ct, osl, rfl, lk, hcd⟩ := F.ex
  exact ⟨f, _, fn_of lk hcd S len fun A outer s H vs Q E hr hsp => hbody f cdv A outer s H vs Q E hr hsp, g, F.kp, b, oc, od, osl, lk⟩
end
section
variable {X : Cx} {k : Nat} {ps : List Str} {sp : Sp} {W : WX}
/-- a call in a try's body: what it raises is the clause's -/
theorem pe_calS {x : Str} {p pos : Pos} {e : Expr} {es : List Expr} {t : TA} (tk : L2N.Takes X W) (C : Cal X.prog X.w X.K X.mg X.base (L2N.CX X.prog X.w) k x ps sp) (hr : Room k X.A) (hg : Gl X x) (ha : PA X (e :: es) t)
    (hdb : (x == ("__debug__" : Str)) = false := by decide +kernel) (he : starEach (e :: es) X.env = (false, eval e X.env) :: starEach es X.env := by rfl) (hpl : (backTo pos (starEach es X.env)).any (·.1) = false := by rfl) :
    PE X (.Call (.Name x p) (e :: es) [] pos) (tCallS sp (WE W) t) := by
  obtain ⟨f, fd, F, g, kp, b, _⟩ := C.ex
  exact pe_callS F hr hg g kp b (fun σ => L2N.passAt tk σ) ha hdb he hpl
theorem takes_none {X : Cx} : L2N.Takes X (fun _ _ _ _ => False) := fun _ _ ⟨_, _, _, _, _, _, _, _, _, _, _, _, _, _, _, _, w⟩ => w.elim
/-- a suite that asks which class came -/
theorem PSs.guard {X : Cx} {b : List Stmt} {ι : Type} {p : ι → Prop} {t : ι → TS} (h : ∀ i, p i → PSs X b (t i)) : PSs X b (fun D σ H => ∃ i, p i ∧ t i D σ H) := by
  refine ⟨fun pins s σ H D I hw => ?_⟩
  obtain ⟨i, hp, hw⟩ := hw
  exact (h i hp).run pins s σ H D I hw
/-- isinstance(e, c) in the suite -/
theorem call_isN {X : Cx} {a D : Addr} {oe : Obj} {pn : List (Addr × Obj)} (C : ExcC X.K D) (hz : L2N.Zn (.ref D) none oe) (hf : ∃ vs, oe.data = .fields vs) : CallR (X.suite a ((a, oe) :: pn)) (.builtin "isinstance") (rIsE X.K D a) := call_isE C hz.zc hf
theorem call_isG {X : Cx} {a D : Addr} {oe : Obj} {pn : List (Addr × Obj)} {cls : Value} {d : Option Addr} (hp : cls = .ref D ∧ d = none ∧ ExcC X.K D) (hz : L2N.Zn cls d oe) (hf : ∃ vs, oe.data = .fields vs) : CallR (X.suite a ((a, oe) :: pn)) (.builtin "isinstance") (rIsE X.K D a) := by
  obtain ⟨e1, e2, C⟩ := hp
  rw [e1, e2] at hz
  exact call_isE C hz.zc hf
theorem hot_suite {X : Cx} {a : Addr} {oe : Obj} {pn : List (Addr × Obj)} {cls : Value} {d : Option Addr} (hz : L2N.Zn cls d oe) (hf : ∃ vs, oe.data = .fields vs) : L2H.HotC (X.suite a ((a, oe) :: pn)) := by
  obtain ⟨vs, hv⟩ := hf
  exact ⟨(a, oe), ⟨rfl, vs, hv, hz.2.2 vs hv⟩, List.mem_cons_self⟩
end
/-! ### [word for word, fits in pairs if fits] -/
section
variable {K : PySem.W.Frag} {H1 : Hp} {L D : Addr} {ps : List (Addr × Str × Bool)} {i j : Nat} {vs : List Nat} {σ : L2.St} {Qd : Hp → Prop}
theorem lc_pairs (hL : ∀ p ∈ ps, H1 p.1 = some (.tup [.str p.2.1, .bl p.2.2])) (hS : SqL K H1 L (ps.map fun p => V.ref p.1)) (hD : H1 D = none) (hn : ps.length ≤ 1000)
    (hw : ∀ x y, wipe (((wipe σ vs).set i (some x)).set j (some y)) vs = wipe σ vs) (hi : ∀ x y : V, (((wipe σ vs).set i (some x)).set j (some y))[i]? = some (some x)) (hj : ∀ x y : V, (((wipe σ vs).set i (some x)).set j (some y))[j]? = some (some y))
    (hd : ∀ H', Same H1 H' → H' D = some (.lst ((ps.filter (·.2.2)).map fun p => V.str p.2.1)) → Qd H') :
    ∃ W : Nat → Nat → Hp → Prop, (∃ m, W 0 m (upd H1 D (.lst []))) ∧ ∀ k m H, W k m H →
      ((Itl K L).stop k H ∧ Qd H) ∨ ((Itl K L).go k H ∧ ∃ Nx : Hp → Prop, (∀ H', Nx H' → ∃ m', m' < m ∧ W (k + 1) m' H') ∧ ∀ x H', (Itl K L).yld k H x H' → gTup K 2 (gCons (gName i) (gCons (gName j) gNil)) x (wipe σ vs) H' fun σ2 H2 => wipe σ2 vs = wipe σ vs ∧ tB (tVar j) σ2 H2 fun b H3 =>
        if b = true then tVar i σ2 H3 fun y H4 => ∃ acc, H4 D = some (.lst acc) ∧ acc.length < sizeLine ∧ Nx (upd H4 D (.lst (acc ++ [y]))) else Nx H3) := by
  refine lc_it (wL (xs := ps.map fun p => V.ref p.1)) (fun k H => Same H1 H ∧ H D = some (.lst (((ps.take k).filter (·.2.2)).map fun p => V.str p.2.1))) ⟨Same.new hD, by rw [upd_same]; rfl⟩ (fun _ H _ q => q.1.seq hS) ?_ ?_
  · rintro k x H H0 hk ⟨e, hacc⟩ ⟨rfl, hix⟩
    rw [List.getElem?_map] at hix
    obtain ⟨p, hp, rfl⟩ := Option.map_eq_some_iff.mp hix
    refine ⟨p.1, _, rfl, SqT.of (e _ _ (hL p (List.mem_of_getElem? hp))), rfl, ?_⟩
    refine ⟨_, _, rfl, _, _, rfl, rfl, ?_⟩
    refine ⟨hw _ _, _, hj _ _, _, rfl, ?_⟩
    have tk : ps.take (k + 1) = ps.take k ++ [p] := by rw [List.take_add_one, hp]; rfl
    refine iteB (fun hb => ?_) fun hb => ?_
    · refine ⟨_, hi _ _, _, hacc, sl_lt ?_, Same.mut e hD, ?_⟩
      · have h1 := List.length_filter_le (fun p : Addr × Str × Bool => p.2.2) (ps.take k)
        rw [List.length_map]
        rw [List.length_take] at h1
        omega
      · rw [upd_same, tk, List.filter_append, List.map_append]
        simp [hb]
    · refine ⟨e, ?_⟩
      rw [hacc, tk, List.filter_append, List.map_append]
      simp [hb]
  · rintro H ⟨e, hacc⟩
    rw [List.length_map, List.take_length] at hacc
    exact hd H e hacc
end
theorem join_one (z : Str) : Txt.join "" [z] = z := by
  refine cl_inj ?_
  rw [cl_glue]
  simp
end M

/-! ### joined, as a plain function -/
namespace M
open PySem PySem.Spec PyProof.Rows L2
/-- the loop over a dict: locked here, or by the caller -/
def tLockO (t : TS) : TS := fun D σ H => tLock t D σ H ∨ t D σ H
theorem ps_lockO {X : Cx} {st : Stmt} {t : TS} (h : PS X st t) : PS X st (tLockO t) :=
  ⟨fun pins s σ H D I hw => hw.elim (fun w => (ps_lock h).run pins s σ H D I w) fun w => h.run pins s σ H D I w⟩
/-- as before, the dict at d read alone -/
def SameF (d : Addr) (P : Tr) (H H' : Hp) : Prop := (∀ b w, b ≠ d → H b = some w → H' b = some w) ∧ RdD H' d P
theorem SameF.of {d : Addr} {P : Tr} {H H' : Hp} (e : Same H H') (h : RdD H d P) : SameF d P H H' := ⟨fun b w _ q => e b w q, Same.rdd e h⟩
theorem SameF.same {d : Addr} {P : Tr} {H H1 H' : Hp} (f : SameF d P H H1) (e : Same H1 H') : SameF d P H H' := ⟨fun b w n q => e _ _ (f.1 b w n q), Same.rdd e f.2⟩
theorem SameF.pre {d : Addr} {P : Tr} {H H1 H' : Hp} (e : Same H H1) (f : SameF d P H1 H') : SameF d P H H' := ⟨fun b w n q => f.1 b w n (e _ _ q), f.2⟩
theorem SameF.trans {d : Addr} {P : Tr} {H H1 H' : Hp} (f : SameF d P H H1) (g : SameF d P H1 H') : SameF d P H H' := ⟨fun b w n q => g.1 b w n (f.1 b w n q), g.2⟩
theorem upd_back {H : Hp} {d : Addr} {u o : HO} (h : H d = some u) : upd (upd H d o) d u = H := by
  rw [upd_upd]
  funext b
  by_cases e : b = d
  · subst e; rw [upd_same, h]
  · rw [upd_ne e]
def lineV (w l r : V) : V := if l = r then l else if r = w then l else r
theorem stand_line {A B C P : Tr} {p : Str} (h : valV P p = none) (hc : markV (getV A p) (getV B p) (getV C p) ≠ "clash") : standV A B C P p = lineV (getV A p) (getV B p) (getV C p) := by
  rw [stand_no h, if_neg hc]
  unfold lineV
  revert hc
  generalize getV A p = w
  generalize getV B p = l
  generalize getV C p = r
  intro hc
  by_cases h1 : l = r
  · rw [if_neg (fun h => (other_iff.mp h).1 h1), if_pos h1]
  · rw [if_neg h1]
    by_cases h2 : l = w
    · have h3 : ¬ r = w := fun e => h1 (h2.trans e.symm)
      rw [if_pos (other_iff.mpr ⟨h1, h2⟩), if_neg h3]
    · have h3 : r = w := Classical.byContradiction fun e => hc (clash_iff.mpr ⟨h1, h2, e⟩)
      rw [if_neg (fun h => h2 (other_iff.mp h).2), if_pos h3]
/-- all paths of all clashes -/
def placeB (A B C : Tr) (p : Str) : Bool := decide (p ∈ (clashesL A B C).flatten)
theorem place_rows (A B C : Tr) (p : Str) : p ∈ (clashesL A B C).flatten ↔ p ∈ (clashRows A B C).flatten := by
  rw [List.mem_flatten, List.mem_flatten]
  exact ⟨fun ⟨k, h1, h2⟩ => ⟨k, (srtT_perm _).mem_iff.mp h1, h2⟩, fun ⟨k, h1, h2⟩ => ⟨k, (srtT_perm _).mem_iff.mpr h1, h2⟩⟩
inductive JoinR where
  | noClash | clashed | tree (G : Tr)
def pickB (A B C P : Tr) : Bool := (keys P).all (placeB A B C)
def goodB (A B C P : Tr) : Bool := (leftT A B C P).isEmpty && isTreeB (madeT A B C P)
def joinR (A B C P : Tr) : JoinR := if pickB A B C P = false then .noClash else if goodB A B C P = true then .tree (madeT A B C P) else .clashed
theorem join_swap (A B C P : Tr) : joinR A C B P = joinR A B C P := by
  have h1 : pickB A C B P = pickB A B C P := by
    unfold pickB
    congr 1
    funext p
    unfold placeB
    rw [clash_swap]
  have h2 : goodB A C B P = goodB A B C P := by unfold goodB; rw [left_swap, made_swap]
  unfold joinR
  rw [h1, h2, made_swap]
theorem flat_next {rows : List (List Str)} {i : Nat} {k : List Str} (h : rows[i]? = some k) : (rows.take (i + 1)).flatten = (rows.take i).flatten ++ k := by
  rw [List.take_add_one, h, List.flatten_append]
  simp
def joinWord : JoinR → Str
  | .noClash => "NoClash"
  | .clashed => "Clashed"
  | .tree _ => "made"
theorem clash_path {A B C : Tr} {k : List Str} {n m l : Nat} (okA : TreeOk n A) (okB : TreeOk m B) (okC : TreeOk l C) (h : k ∈ clashesL A B C) : k.length ≤ 2 := by
  rcases mem_clashes h with ⟨p, rfl, _⟩ | ⟨u, l, rfl, _⟩
  · exact Nat.le_succ 1
  · exact Nat.le_refl 2
theorem clash_len {A B C : Tr} {n : Nat} (okA : TreeOk n A) (okB : TreeOk n B) (okC : TreeOk n C) : (clashesL A B C).length ≤ 24 * n := by
  have h1 : (clashesL A B C).length = (clashRows A B C).length := (srtT_perm _).length_eq
  rw [h1]
  unfold clashRows
  rw [List.length_append, List.length_map]
  have h2 := left_len A B C []
  have h3 := made_len A B C []
  have h4 := pairs_len (madeT A B C []) (ps := keys (madeT A B C [])) fun z hz => made_path okA okB okC hz
  have := okA.len
  have := okB.len
  have := okC.len
  omega
/-! != of two things that are alike -/
def rNeU (K : PySem.W.Frag) : R2 := fun x y H Q => ((∃ z, x = .str z ∧ y = .str z) ∨ EqR K H (EqN K H 8) x y) ∧ Q (.bl false) H
theorem op_neU {X : Cx} (hu : X.A.units + 64 < cLine) : OpR X (compareOp .NotEq) (rNeU X.K) := by
  intro pins s σ H x y v u Q I rx ry h
  rcases h with ⟨⟨z, rfl, rfl⟩ | h, q⟩
  · exact op_ne pins s σ H _ _ v u Q I rx ry ⟨rfl, by rw [decide_eq_true rfl]; exact q⟩
  · exact op_neT hu pins s σ H _ _ v u Q I rx ry ⟨h, q⟩
end M

/-! ### clear() of a dict that a loop left locked -/
namespace M
open PySem PySem.Spec PyProof.Rows L2
def rDClearF (H0 : Hp) : V → List V → Hp → VK → Prop := fun x vs H Q => ∃ (a : Addr) (kvs : List (Key × V)), x = .ref a ∧ vs = [] ∧ Rd H a (.dK kvs) ∧ (∀ o' u', H0 a ≠ some (.frz o' u')) ∧ Q .non (upd H a (.dK []))
theorem mtd_clearF {X : Cx} : MtR X "dict.clear" (rDClearF X.H_0) := by
  intro pins s σ H x vs v us Q I rx rv h
  obtain ⟨a, kvs, ex, ev, e, hn, q⟩ := h
  subst ex
  subst ev
  obtain rfl : v = Value.ref a := rx
  have hus := rv.zero
  subst hus
  rcases e with e | ⟨o, e⟩
  · exact d_clear I e fun s' I' => ⟨.non, _, I', rfl, q⟩
  · have I2 := Inv.unlock I e hn
    refine d_clear I2 upd_same fun s' I' => ⟨.non, _, I', rfl, ?_⟩
    have : upd (upd H a (.dK kvs)) a (.dK []) = upd H a (.dK []) := by
      funext b
      by_cases n : b = a
      · subst n; rw [upd_same, upd_same]
      · rw [upd_ne n, upd_ne n, upd_ne n]
    rw [this]
    exact q
def tClearF (H0 : Hp) (to : TE) : TE := fun σ H Q => to σ H fun x H1 => rDClearF H0 x [] H1 Q
section
variable {X : Cx} {o : Expr} {to : TE} {apos cpos : Pos}
theorem pe_clearF (ho : PE X o to) (hbase : attributeBase o "clear" X.env (eval o X.env) = eval o X.env := by rfl) (hline : (apos.endLine == cpos.line) = true := by rfl) : PE X (.Call (.Attribute o "clear" apos) [] [] cpos) (tClearF X.H_0 to) := by
  refine ⟨fun pins s σ H Q I h => ?_⟩
  refine wpAny_Call_method0_late hbase hline (thn (ho.run pins s σ H _ I h) fun v s1 ⟨x, H1, I1, r1, q1⟩ => ?_)
  have q2 := q1
  obtain ⟨a, kvs, ex, _, e, hn, _⟩ := q1
  subst ex
  have z : ∃ H2, Inv X pins σ H2 s1 ∧ H2 a = some (.dK kvs) := by
    rcases e with e | ⟨od, e⟩
    · exact ⟨H1, I1, e⟩
    · exact ⟨_, Inv.unlock I1 e hn, upd_same⟩
  obtain ⟨H2, I2, e2⟩ := z
  obtain ⟨h1, h2⟩ := tyV_is (T := "dict") I2 r1 (.inr (.inr (.inl ⟨rfl, .inl ⟨kvs, e2⟩⟩)))
  exact ⟨"dict", "dict.clear", PySem.F.plainAttrs_dict, PySem.F.slot_dict_clear, PySem.F.type_dict_clear, h1, h2, Calls.callWith_builtin rfl (PySem.evalArgs_none (mtd_clearF pins s1 σ H1 (.ref a) [] v [] Q I1 r1 .nil q2))⟩
end
end M

/-! ### methods of a class of the text, and its making -/
namespace M
open PySem PySem.Spec PyProof.Rows L2
/-- a method: its function object at the class, how its arguments bind -/
structure MDef (K : PySem.W.Frag) (C : Addr) (m q : Str) (st : Stmt) (ps : List Str) : Prop where
  ex : ∃ (f : Addr) (fd : FuncData), Fun K m q st f fd ∧ Meth K C m f ∧ Binds K fd ps []
/-- a method as its callers see it -/
structure MCal (P : Program) (w : World) (K : PySem.W.Frag) (mg : Str → Option Value) (base : Heap) (CX : CXT) (k : Nat) (C : Addr) (m : Str) (ps : List Str) (sp : Sp) : Prop where
  ex : ∃ (f : Addr) (fd : FuncData), FnOk P w K mg base CX k f fd ps sp ∧ Meth K C m f ∧ Binds K fd ps []
/-- the class can be made -/
structure MkB (K : PySem.W.Frag) (C : Addr) : Prop where
  makes : PySem.W.makesIn K C = true
  kp : PySem.W.keepIn K (.ref C) = true
section
variable {P : Program} {w : World} {K : PySem.W.Frag} {mg : Str → Option Value} {base : Heap} {C : Addr}
theorem MDef.ok {m q : Str} {st : Stmt} {N ps : List Str} {k : Nat} {sp : Sp} (D : MDef K C m q st ps) (S : FnScope N ps (defScope st)) (len : ∀ vs H Q E, sp vs H Q E → vs.length = ps.length)
    (hbody : ∀ (f : Addr) (cdv : Value) (A : Around) (outer : List Env) (s : Shared) (H : Hp) (vs : List V) (Q : VK) (E : XK), Room k (A.deeper (envOfC q (defScope st) s.heap.objs.size f cdv)) → sp vs H Q E →
      ∃ t, PSs (cxOf CX0 P w K mg base N q (defScope st) f cdv A outer s H E).nox (defBody st) t ∧ t { nx := fun _ H' => Q .non H', rt := Q } (start N vs) H) : MCal P w K mg base CX0 (k + 1) C m ps sp := by
  obtain ⟨f, fd, F, g, b⟩ := D.ex
  exact ⟨f, fd, F.ok S len fun cdv A outer s H vs Q E hr h => hbody f cdv A outer s H vs Q E hr h, g, b⟩
theorem MDef.okX {m q : Str} {st : Stmt} {N ps : List Str} {k : Nat} {sp : Sp} (D : MDef K C m q st ps) (S : FnScope N ps (defScope st)) (len : ∀ vs H Q E, sp vs H Q E → vs.length = ps.length)
    (hbody : ∀ (f : Addr) (cdv : Value) (A : Around) (outer : List Env) (s : Shared) (H : Hp) (vs : List V) (Q : VK) (E : XK), Room k (A.deeper (envOfC q (defScope st) s.heap.objs.size f cdv)) → sp vs H Q E →
      ∃ t, PSs (cxOf (L2N.CX P w) P w K mg base N q (defScope st) f cdv A outer s H E) (defBody st) t ∧ t { nx := fun _ H' => Q .non H', rt := Q } (start N vs) H) : MCal P w K mg base (L2N.CX P w) (k + 1) C m ps sp := by
  obtain ⟨f, fd, F, g, b⟩ := D.ex
  obtain ⟨oc, od, kV, doc, pm, an, cdv, ct, osl, rfl, lk, hcd⟩ := F.ex
  exact ⟨f, _, fn_of lk hcd S len fun A outer s H vs Q E hr hsp => hbody f cdv A outer s H vs Q E hr hsp, g, b⟩
end
section
variable {X : Cx} {CX : CXT} {k : Nat} {C : Addr} {ps : List Str} {sp : Sp} {E : XK} {m : Str} {p pos apos : Pos} {o e : Expr} {es : List Expr} {ta : TE} {t : TA}
theorem pe_mcal {pl : Sem Bool} (c : Cls X.K C) (D : MCal X.prog X.w X.K X.mg X.base CX k C m ps sp) (hr : Room k X.A) (hx : Passes CX X E) (he : PE X o ta) (ha : PA X (e :: es) t)
    (hst : starEach (e :: es) X.env = (false, eval e X.env) :: starEach es X.env := by rfl) (hpl : (backTo pos (starEach es X.env)).any (·.1) = false := by rfl)
    (ht : eval (.Call (.Attribute o m apos) (e :: es) [] pos) X.env = (do
      let ov ← eval o X.env
      standAt apos.atName
      let (f, first) ← holding [ov] (getMethod ov m pl)
      callWith pos f first (backTo pos (starEach (e :: es) X.env)) (backToKw pos (keywordEach [] X.env))) := by rfl) :
    PE X (.Call (.Attribute o m apos) (e :: es) [] pos) (tMeth C m sp [] E ta t) := by
  obtain ⟨f, fd, F, g, b⟩ := D.ex
  exact pe_meth he c g F hr b .nil hx ha hst hpl ht
theorem pe_mcal0 {pl : Sem Bool} (c : Cls X.K C) (D : MCal X.prog X.w X.K X.mg X.base CX k C m ps sp) (hr : Room k X.A) (hx : Passes CX X E) (he : PE X o ta)
    (ht : eval (.Call (.Attribute o m apos) [] [] pos) X.env = (do
      let ov ← eval o X.env
      standAt apos.atName
      let (f, first) ← holding [ov] (getMethod ov m pl)
      callWith pos f first (backTo pos (starEach [] X.env)) (backToKw pos (keywordEach [] X.env))) := by rfl) :
    PE X (.Call (.Attribute o m apos) [] [] pos) (tMeth C m sp [] E ta tNil) := by
  obtain ⟨f, fd, F, g, b⟩ := D.ex
  exact pe_meth0 he c g F hr b .nil hx ht
/-- a method's call in a try's body -/
def tMethE (C : Addr) (m : Str) (sp : Sp) (E : L2.St → XK) (ta : TE) (t : TA) : TE := fun σ H Q => ta σ H fun x H1 => ∃ a dx fs, x = .ref a ∧ H1 a = some (.ins C dx fs) ∧ fs.lookup m = none ∧
  t σ H1 fun vs H2 => sp (x :: vs) H2 Q (E σ)
theorem pe_mcalS {W : WX} {pl : Sem Bool} (tk : L2N.Takes X W) (c : Cls X.K C) (D : MCal X.prog X.w X.K X.mg X.base (L2N.CX X.prog X.w) k C m ps sp) (hr : Room k X.A) (he : PE X o ta) (ha : PA X (e :: es) t)
    (hst : starEach (e :: es) X.env = (false, eval e X.env) :: starEach es X.env := by rfl) (hpl : (backTo pos (starEach es X.env)).any (·.1) = false := by rfl)
    (ht : eval (.Call (.Attribute o m apos) (e :: es) [] pos) X.env = (do
      let ov ← eval o X.env
      standAt apos.atName
      let (f, first) ← holding [ov] (getMethod ov m pl)
      callWith pos f first (backTo pos (starEach (e :: es) X.env)) (backToKw pos (keywordEach [] X.env))) := by rfl) :
    PE X (.Call (.Attribute o m apos) (e :: es) [] pos) (tMethE C m sp (WE W) ta t) := by
  obtain ⟨f, fd, F, hm, hb⟩ := D.ex
  refine ⟨fun pins s σ H Q I h => ?_⟩
  refine PySem.W.methodCall_KW (pl := pl) (thn (he.run pins s σ H _ I h) fun u s1 ⟨x, H1, I1, rx, a, dx, fs, ex, ea, l, q⟩ => ?_) ht
  subst ex
  obtain rfl : u = Value.ref a := rx
  refine getmeth_ok I1 ea c hm l ?_
  refine PySem.W.callWith_K (first := [.ref a]) (h₀ := X.base) I.ok.mod.kin hm.kp (thn (ha.run pos pins s1 σ H1 _ I1 q) fun us s2 ⟨vs, H2, I2, r, q2⟩ => ⟨I2.kIn, ?_⟩) hst hpl
  exact run_fnS (us := .ref a :: us) (vs := .ref a :: vs) F hr hb (L2N.passAt tk σ) I2 (.cons rfl r) q2
theorem pe_makeB {x : Str} (mk : MkB X.K C) (D : MCal X.prog X.w X.K X.mg X.base CX k C "__init__" ps sp) (hr : Room (k + 1) X.A) (hg : Gl X x) (hm : X.mg x = some (.ref C)) (hx : Passes CX X E)
    (hdb : (x == ("__debug__" : Str)) = false := by decide +kernel) : PE X (.Call (.Name x p) [] [] pos) (tMake C sp [] E tNil) := by
  obtain ⟨f, fd, F, g, b⟩ := D.ex
  exact pe_make0 ⟨mk.makes, g.at_, g.fn, mk.kp⟩ F hr hg hm b .nil hx hdb
end
end M

/-! ### a book in memory -/
namespace M
open PySem PySem.Spec PyProof.Rows L2
abbrev nV (n : Nat) : V := .int (n : Int)
abbrev bkF (t o : Addr) : List (Str × V) := [("trees", .ref t), ("older", .ref o)]
/-- the book at b: its trees Gs, the parents Ps of each -/
structure BkAt (C b dx t o : Addr) (ts os : List Addr) (Gs : List Tr) (Ps : List (List Nat)) (H : Hp) : Prop where
  ins : H b = some (.ins C dx (bkF t o))
  tr : H t = some (.lst (ts.map V.ref))
  ol : H o = some (.lst (os.map V.ref))
  gs : Paired (fun a G => AtD H a G) ts Gs
  ps : Paired (fun a (p : List Nat) => H a = some (.tup (p.map nV))) os Ps
  len : Gs.length = Ps.length
  tno : t ≠ o
theorem BkAt.same {C b dx t o : Addr} {ts os : List Addr} {Gs : List Tr} {Ps : List (List Nat)} {H H' : Hp} (h : BkAt C b dx t o ts os Gs Ps H) (e : Same H H') : BkAt C b dx t o ts os Gs Ps H' :=
  ⟨e _ _ h.ins, e _ _ h.tr, e _ _ h.ol, Paired.imp (fun _ _ r => e _ _ r) h.gs, Paired.imp (fun _ _ r => e _ _ r) h.ps, h.len, h.tno⟩
theorem lk_trees (t o : Addr) : (bkF t o).lookup (Str.ofString "trees") = some (V.ref t) := by
  unfold bkF
  rw [List.lookup_cons, show (Str.ofString "trees" == Str.ofString "trees") = true by decide +kernel]
theorem lk_older (t o : Addr) : (bkF t o).lookup (Str.ofString "older") = some (V.ref o) := by
  unfold bkF
  rw [List.lookup_cons, show (Str.ofString "older" == Str.ofString "trees") = false by decide +kernel]
  show List.lookup _ [(_, _)] = _
  rw [List.lookup_cons, show (Str.ofString "older" == Str.ofString "older") = true by decide +kernel]
theorem lk_meth (t o : Addr) (m : Str) (h1 : (m == Str.ofString "trees") = false) (h2 : (m == Str.ofString "older") = false) : (bkF t o).lookup m = none := by
  unfold bkF
  rw [List.lookup_cons, h1]
  show List.lookup _ [(_, _)] = _
  rw [List.lookup_cons, h2]
  rfl
theorem BkAt.tlen {C b dx t o : Addr} {ts os : List Addr} {Gs : List Tr} {Ps : List (List Nat)} {H : Hp} (h : BkAt C b dx t o ts os Gs Ps H) : ts.length = Gs.length := h.gs.length
theorem BkAt.olen {C b dx t o : Addr} {ts os : List Addr} {Gs : List Tr} {Ps : List (List Nat)} {H : Hp} (h : BkAt C b dx t o ts os Gs Ps H) : os.length = Gs.length := h.ps.length.trans h.len.symm
/-- as before, but for the two lists of the book -/
def Same2 (t o : Addr) (H H' : Hp) : Prop := ∀ b w, b ≠ t → b ≠ o → H b = some w → H' b = some w
theorem Same2.of {t o : Addr} {H H' : Hp} (e : Same H H') : Same2 t o H H' := fun b w _ _ h => e b w h
theorem Same2.trans {t o : Addr} {H H1 H' : Hp} (e : Same2 t o H H1) (f : Same2 t o H1 H') : Same2 t o H H' := fun b w n m h => f b w n m (e b w n m h)
/-- a number that is one of the book's -/
def okV (m : Nat) : V → Bool
  | .int n => decide (0 ≤ n ∧ n < (m : Int))
  | _ => false
/-- a version more -/
theorem BkAt.push {C b dx t o x y : Addr} {ts os : List Addr} {Gs : List Tr} {Ps : List (List Nat)} {G : Tr} {p : List Nat} {H : Hp} (h : BkAt C b dx t o ts os Gs Ps H) (hx : AtD H x G) (hy : H y = some (.tup (p.map nV))) :
    BkAt C b dx t o (ts ++ [x]) (os ++ [y]) (Gs ++ [G]) (Ps ++ [p]) (upd (upd H t (.lst ((ts ++ [x]).map V.ref))) o (.lst ((os ++ [y]).map V.ref))) ∧ Same2 t o H (upd (upd H t (.lst ((ts ++ [x]).map V.ref))) o (.lst ((os ++ [y]).map V.ref))) := by
  have tno : t ≠ o := h.tno
  have keep : ∀ {a : Addr} {w : HO}, a ≠ t → a ≠ o → H a = some w → upd (upd H t (.lst ((ts ++ [x]).map V.ref))) o (.lst ((os ++ [y]).map V.ref)) a = some w := fun n m e => (upd_ne m).trans ((upd_ne n).trans e)
  have nd : ∀ {a : Addr} {G : Tr}, AtD H a G → a ≠ t ∧ a ≠ o := fun {a G} e => by
    have e : H a = some (.dK (kvs G)) := e
    exact ⟨fun q => (by rw [q, h.tr] at e; cases e), fun q => (by rw [q, h.ol] at e; cases e)⟩
  have np : ∀ {a : Addr} {p : List Nat}, H a = some (.tup (p.map nV)) → a ≠ t ∧ a ≠ o := fun {a p} e => ⟨fun q => (by rw [q, h.tr] at e; cases e), fun q => (by rw [q, h.ol] at e; cases e)⟩
  have nb : b ≠ t ∧ b ≠ o := ⟨fun q => (by have := h.ins; rw [q, h.tr] at this; cases this), fun q => (by have := h.ins; rw [q, h.ol] at this; cases this)⟩
  refine ⟨⟨keep nb.1 nb.2 h.ins, (upd_ne tno).trans upd_same, upd_same, M.Paired.snoc (R := fun a G => AtD (upd (upd H t (.lst ((ts ++ [x]).map V.ref))) o (.lst ((os ++ [y]).map V.ref))) a G) (keep (nd hx).1 (nd hx).2 hx) (Paired.imp (fun a G e => keep (nd e).1 (nd e).2 e) h.gs), M.Paired.snoc (R := fun a (p : List Nat) => (upd (upd H t (.lst ((ts ++ [x]).map V.ref))) o (.lst ((os ++ [y]).map V.ref))) a = some (.tup (p.map nV))) (keep (np hy).1 (np hy).2 hy) (Paired.imp (fun a p e => keep (np e).1 (np e).2 e) h.ps), by rw [List.length_append, List.length_append, h.len]; rfl, tno⟩, fun a w n m e => keep n m e⟩
/-- to walk over a list or a tuple -/
theorem pi_or {X : Cx} {tg iter : Expr} {w1 w2 : TI} (h1 : PI X tg iter w1) (h2 : PI X tg iter w2) : PI X tg iter (fun σ H R => w1 σ H R ∨ w2 σ H R) :=
  ⟨fun pins s σ H R I h => h.elim (h1.run pins s σ H R I) (h2.run pins s σ H R I)⟩
end M

/-! ### sorted(d) of a dict with int keys, at any length -/
namespace M
open PySem PySem.Spec PyProof.Rows L2
section
variable {X : Cx}
def rSortedDN : List V → Hp → VK → Prop := fun xs H Q => ∃ (a : Addr) (kvs : List (Key × V)) (ks : List Int), xs = [.ref a] ∧ Rd H a (.dK kvs) ∧ kvs.map (·.1) = ks.map Sum.inl ∧ ks.length ≤ 16777216 ∧
    ∀ (ys : List Int) (p : Addr), ys.Perm ks → ys.Pairwise (· ≤ ·) → H p = none → Q (.ref p) (upd H p (.lst (ys.map V.int)))
theorem cr_sortedDN (hcalm : X.calm = true) : CallR X (.builtin "sorted") rSortedDN := by
  intro pins s σ H xs us Q I r q
  obtain ⟨a, kvs, ks, ex, hd, hks, h64, q⟩ := q
  subst ex
  obtain ⟨u, eu, rx⟩ := vals1 r
  subst eu
  cases rx
  obtain ⟨z, lo, vs, rel, dd⟩ := dk_rd I.hok hd
  obtain ⟨ep, hat⟩ := dd.dictAt
  have hkeys : vs.map (·.1) = ks.map Sum.inl := rel.keys.symm.trans hks
  have hl : vs.length = ks.length := by
    have e := congrArg List.length hkeys
    rw [List.length_map, List.length_map] at e
    exact e
  have h16 : vs.length ≤ sizeLine := by rw [hl, sizeLine_eq]; exact h64
  refine Calls.call_function_entry PyProof.Rows.kind_sorted PyProof.Rows.plain_sorted PyProof.Rows.entry_sorted (PyProof.Rows.args_sorted1 _) ?_
  unfold Builtin.«sorted»
  refine wpAny_bind (m := checkCount "sorted" 1 1 _) (wpAny_pure ?_)
  refine wpAny_bind (PySem.W.kdu_collect (A := X.A.in1) (PySem.W.kdl_dict (knd := mixKind X.prog X.w) (kvs := vs) (ep := ep) lo) (I.ok.hd hcalm) hat h16 fun h' tk acc hk hacc => ?_)
  have hal : acc.toList.length = ks.length := by rw [Array.length_toList, hacc.1, hl]
  have hS : IntsAre acc.toList ks := ints_each hal fun j v e => by
    obtain ⟨k, x, e1, e2⟩ := hacc.2 j v (by rw [← Array.getElem?_toList]; exact e)
    have e3 : (vs.map (·.1))[j]? = some k := by rw [List.getElem?_map, e1]; rfl
    rw [hkeys, List.getElem?_map] at e3
    cases e4 : ks[j]? with
    | none => rw [e4] at e3; cases e3
    | some y =>
      rw [e4] at e3
      have e5 : Sum.inl y = k := Option.some.inj e3
      subst e5
      rcases keyIs_shape (show keyIs (Sum.inl y) v = true from e2) with ⟨i, t, ek, ev⟩ | ⟨z, t, ek, ev⟩
      · cases ek
        exact ⟨y, t, rfl, ev⟩
      · cases ek
  have I1 : Inv X pins σ H { s with heap := h', toks := tk } := I.kept hk
  refine wpAny_bind (wpAny_newList ?_ (by rw [hal, ← hl]; exact h16))
  have hoL : (h'.push (seqObj "list" acc.toList.toArray 0)).get? h'.objs.size = some (seqObj "list" acc.toList.toArray 0) := Heap.get?_push_size _ rfl
  show wpAny _ _ _ _ _ { s with heap := h'.push (seqObj "list" acc.toList.toArray 0), toks := tk }
  refine wpAny_bind (wpAny_holding (wpAny_call_entry PyProof.Rows.slot_list_sort ⟨_, hoL, rfl⟩ PyProof.Rows.entry_list_sort
    (PyProof.Rows.list_sort_treeAny (s := { s with heap := h'.push (seqObj "list" acc.toList.toArray 0), toks := tk }) hoL hS (by rw [hal, ← hl]; exact h16) fun out ys g1 g2 g3 => ⟨_, rfl, ?_⟩) (PyProof.Rows.args_list_sort _)))
  obtain ⟨e', he'⟩ := PyProof.Rows.sortedHeap_at (vs := acc.toList) (out := out) hoL
  have hlen : (ys.map V.int).length ≤ sizeLine := by
    rw [List.length_map, g2.length_eq, ← hl]
    exact h16
  refine wpAny_pure ⟨_, rfl, .ref h'.objs.size, upd H h'.objs.size (.lst (ys.map V.int)), I1.laid (t' := tk) (fun b u e => ?_) (Nat.le_refl _)
    (show ObjOk X.prog X.w _ _ _ (.lst (ys.map V.int)) from ⟨hlen, out.toList, e', vals_of_ints g1, by rw [Array.toArray_toList]; exact he'⟩), rfl, q ys _ g2 g3 (I1.hok.fresh (Nat.le_refl _))⟩
  have hb : b < h'.objs.size := Heap.lt_size e
  rw [PyProof.Rows.sortedHeap_old (Nat.ne_of_lt hb) (by rw [size_push']; exact Nat.lt_succ_of_lt hb)]
  exact Heap.get?_push_of_some _ e
end
end M

/-! ### elders, as plain lists of numbers -/
namespace M
open PySem PySem.Spec PyProof.Rows L2
/-- the parents of k -/
def par (Ps : List (List Nat)) (k : Nat) : List Nat := (Ps[k]?).getD []
/-- parents stand ahead of their children -/
def Old (Ps : List (List Nat)) : Prop := ∀ k, ∀ p ∈ par Ps k, p < k
/-- from n to k by parents, each one that is left at t or behind -/
inductive RG (Ps : List (List Nat)) (t n : Nat) : Nat → Prop where
  | self : RG Ps t n n
  | step {b p : Nat} : RG Ps t n b → t ≤ b → p ∈ par Ps b → RG Ps t n p
theorem RG.mono {Ps : List (List Nat)} {t u n k : Nat} (h : RG Ps t n k) (hl : u ≤ t) : RG Ps u n k := by
  induction h with
  | self => exact .self
  | step a b c ih => exact .step ih (Nat.le_trans hl b) c
theorem RG.next {Ps : List (List Nat)} (o : Old Ps) {t n k : Nat} : RG Ps t n k ↔ RG Ps (t + 1) n k ∨ (RG Ps (t + 1) n t ∧ k ∈ par Ps t) := by
  constructor
  · intro h
    induction h with
    | self => exact .inl .self
    | @step b p a hb hp ih =>
      rcases ih with ih | ⟨_, ih⟩
      · rcases Nat.lt_or_ge t b with h | h
        · exact .inl (.step ih h hp)
        · have e : b = t := Nat.le_antisymm h hb
          subst e
          exact .inr ⟨ih, hp⟩
      · exact absurd (o t b ih) (by omega)
  · rintro (h | ⟨h, hp⟩)
    · exact h.mono (Nat.le_succ _)
    · exact .step (h.mono (Nat.le_succ _)) (Nat.le_refl _) hp
theorem RG.first {Ps : List (List Nat)} {t n k : Nat} (ht : n < t) (o : Old Ps) : RG Ps t n k ↔ k = n := by
  constructor
  · intro h
    induction h with
    | self => rfl
    | step a b c ih => subst ih; omega
  · rintro rfl; exact .self
theorem RG.le {Ps : List (List Nat)} (o : Old Ps) {t n k : Nat} (h : RG Ps t n k) : k ≤ n := by
  induction h with
  | self => exact Nat.le_refl _
  | step a b c ih => have := o _ _ c; omega
theorem RG.trans {Ps : List (List Nat)} {n m k : Nat} (h : RG Ps 0 n m) (g : RG Ps 0 m k) : RG Ps 0 n k := by
  induction g with
  | self => exact h
  | step a b c ih => exact .step ih b c
open Classical in
/-- k is an elder of n -/
noncomputable def eldB (Ps : List (List Nat)) (n k : Nat) : Bool := decide (RG Ps 0 n k)
theorem eldB_iff {Ps : List (List Nat)} {n k : Nat} : eldB Ps n k = true ↔ RG Ps 0 n k := by unfold eldB; exact (@decide_eq_true_iff _ (Classical.propDecidable _))
/-- the elders of n, rising -/
noncomputable def eldL (Ps : List (List Nat)) (n : Nat) : List Nat := (List.range Ps.length).filter (eldB Ps n)
theorem mem_eldL {Ps : List (List Nat)} (o : Old Ps) {n k : Nat} (hn : n < Ps.length) : k ∈ eldL Ps n ↔ RG Ps 0 n k := by
  unfold eldL
  rw [List.mem_filter, List.mem_range, eldB_iff]
  exact ⟨fun h => h.2, fun h => ⟨Nat.lt_of_le_of_lt (h.le o) hn, h⟩⟩
theorem eldL_len (Ps : List (List Nat)) (n : Nat) : (eldL Ps n).length ≤ Ps.length := by
  unfold eldL
  refine Nat.le_trans (List.length_filter_le _ _) ?_
  rw [List.length_range]
  exact Nat.le_refl _
theorem range_pw (m : Nat) : (List.range m).Pairwise (· < ·) := List.pairwise_lt_range
theorem eldL_pw (Ps : List (List Nat)) (n : Nat) : (eldL Ps n).Pairwise (· < ·) := (range_pw _).filter _
/-- rising lists with the same members are the same -/
theorem rising_eq : ∀ {l m : List Int}, l.Pairwise (· < ·) → m.Pairwise (· < ·) → (∀ z, z ∈ l ↔ z ∈ m) → l = m
  | [], [], _, _, _ => rfl
  | [], b :: m, _, _, h => absurd ((h b).mpr List.mem_cons_self) (by simp)
  | a :: l, [], _, _, h => absurd ((h a).mp List.mem_cons_self) (by simp)
  | a :: l, b :: m, hl, hm, h => by
    obtain ⟨l1, l2⟩ := List.pairwise_cons.mp hl
    obtain ⟨m1, m2⟩ := List.pairwise_cons.mp hm
    have e : a = b := by
      rcases List.mem_cons.mp ((h a).mp List.mem_cons_self) with e | e
      · exact e
      · rcases List.mem_cons.mp ((h b).mpr List.mem_cons_self) with f | f
        · exact f.symm
        · have h1 := m1 a e
          have h2 := l1 b f
          omega
    subst e
    congr 1
    refine rising_eq l2 m2 fun z => ⟨fun hz => ?_, fun hz => ?_⟩
    · rcases List.mem_cons.mp ((h z).mp (List.mem_cons_of_mem _ hz)) with e | e
      · subst e; exact absurd (l1 z hz) (by omega)
      · exact e
    · rcases List.mem_cons.mp ((h z).mpr (List.mem_cons_of_mem _ hz)) with e | e
      · subst e; exact absurd (m1 z hz) (by omega)
      · exact e
abbrev nums (l : List Nat) : List Int := l.map fun n : Nat => (n : Int)
theorem nums_pw {l : List Nat} (h : l.Pairwise (· < ·)) : (nums l).Pairwise (· < ·) := by
  refine List.pairwise_map.mpr (h.imp fun h => ?_)
  omega
theorem mem_nums {l : List Nat} {z : Int} : z ∈ nums l ↔ ∃ n ∈ l, z = (n : Int) := by
  rw [List.mem_map]
  exact ⟨fun ⟨n, h, e⟩ => ⟨n, h, e.symm⟩, fun ⟨n, h, e⟩ => ⟨n, h, e.symm⟩⟩
theorem lt_of_le {l : List Int} (h : l.Pairwise (· ≤ ·)) (nd : l.Nodup) : l.Pairwise (· < ·) := by
  refine (h.and nd).imp fun ⟨h1, h2⟩ => ?_
  omega
/-- a sorted list of the elders is eldL -/
theorem eld_sorted {Ps : List (List Nat)} (o : Old Ps) {n : Nat} (hn : n < Ps.length) {ks ys : List Int} (nd : ks.Nodup) (hk : ∀ z, z ∈ ks ↔ ∃ k, RG Ps 0 n k ∧ z = (k : Int)) (pm : ys.Perm ks) (hs : ys.Pairwise (· ≤ ·)) : ys = nums (eldL Ps n) := by
  refine rising_eq (lt_of_le hs (pm.nodup_iff.mpr nd)) (nums_pw (eldL_pw Ps n)) fun z => ?_
  rw [pm.mem_iff, hk, mem_nums]
  exact ⟨fun ⟨k, h, e⟩ => ⟨k, (mem_eldL o hn).mpr h, e⟩, fun ⟨k, h, e⟩ => ⟨k, (mem_eldL o hn).mp h, e⟩⟩
/-- a dict with int keys, its keys -/
structure IK (kvs : List (Key × V)) (ks : List Int) : Prop where
  keys : kvs.map (·.1) = ks.map Sum.inl
  nd : ks.Nodup
theorem IK.len {kvs : List (Key × V)} {ks : List Int} (h : IK kvs ks) : kvs.length = ks.length := by
  have := congrArg List.length h.keys
  rwa [List.length_map, List.length_map] at this
theorem IK.any {kvs : List (Key × V)} {ks : List Int} (h : IK kvs ks) (i : Int) : (kvs.any fun kv => decide (kv.1 = .inl i)) = decide (i ∈ ks) := by
  rw [Bool.eq_iff_iff, List.any_eq_true, decide_eq_true_eq]
  constructor
  · rintro ⟨x, hx, e⟩
    have hm : x.1 ∈ kvs.map (·.1) := List.mem_map.mpr ⟨x, hx, rfl⟩
    rw [h.keys, of_decide_eq_true e] at hm
    obtain ⟨j, hj, e2⟩ := List.mem_map.mp hm
    cases e2; exact hj
  · intro hi
    have hm : (Sum.inl i : Key) ∈ kvs.map (·.1) := by rw [h.keys]; exact List.mem_map.mpr ⟨i, hi, rfl⟩
    obtain ⟨x, hx, e⟩ := List.mem_map.mp hm
    exact ⟨x, hx, decide_eq_true e⟩
theorem IK.has {kvs : List (Key × V)} {ks : List Int} (h : IK kvs ks) (i : Int) : (L2.valV kvs (.inl i)).isSome = decide (i ∈ ks) := by
  rw [← h.any, L2.valV, Option.isSome_map]
  exact List.isSome_find?
theorem IK.put {kvs : List (Key × V)} {ks : List Int} (h : IK kvs ks) (i : Int) (v : V) : ∃ ks', IK (L2.putK kvs (.inl i) v) ks' ∧ ∀ z, z ∈ ks' ↔ z = i ∨ z ∈ ks := by
  unfold L2.putK
  rw [h.any]
  by_cases hi : i ∈ ks
  · rw [if_pos (decide_eq_true hi)]
    refine ⟨ks, ⟨?_, h.nd⟩, fun z => ⟨.inr, fun hz => hz.elim (fun e => e ▸ hi) id⟩⟩
    rw [List.map_map, ← h.keys]
    refine List.map_congr_left fun x _ => ?_
    show (if x.1 = Sum.inl i then (x.1, v) else x).1 = x.1
    split <;> rfl
  · rw [if_neg (by rw [decide_eq_false hi]; simp)]
    refine ⟨ks ++ [i], ⟨by rw [List.map_append, List.map_append, h.keys]; rfl, ?_⟩, fun z => ?_⟩
    · exact List.nodup_append.mpr ⟨h.nd, List.nodup_cons.mpr ⟨by simp, List.nodup_nil⟩, fun a ha b hb => by rw [List.mem_singleton.mp hb]; exact fun e => hi (e ▸ ha)⟩
    · rw [List.mem_append, List.mem_singleton, or_comm]
theorem IK.small {kvs : List (Key × V)} {ks : List Int} (h : IK kvs ks) {m : Nat} (hm : ∀ z ∈ ks, ∃ k : Nat, k < m ∧ z = (k : Int)) : ks.length ≤ m := by
  have := h.nd.length_le_of_subset (l₂ := nums (List.range m)) fun z hz => by
    obtain ⟨k, hk, e⟩ := hm z hz
    exact mem_nums.mpr ⟨k, List.mem_range.mpr hk, e⟩
  rwa [List.length_map, List.length_range] at this
/-- each but the first has a parent -/
def Root (Ps : List (List Nat)) : Prop := ∀ k, 0 < k → k < Ps.length → par Ps k ≠ []
theorem RG.zero {Ps : List (List Nat)} (o : Old Ps) (r : Root Ps) : ∀ (n : Nat), n < Ps.length → RG Ps 0 n 0 := by
  intro n
  induction n using Nat.strongRecOn with
  | _ n ih =>
    intro hn
    rcases Nat.eq_zero_or_pos n with h | h
    · subst h; exact .self
    · obtain ⟨p, hp⟩ := List.exists_mem_of_ne_nil _ (r n h hn)
      have hl := o n p hp
      exact (RG.step .self (Nat.zero_le _) hp).trans (ih p hl (by omega))
/-- the greatest of the elders of both -/
structure NearK (Ps : List (List Nat)) (n m e : Nat) : Prop where
  l : RG Ps 0 n e
  r : RG Ps 0 m e
  top : ∀ k, RG Ps 0 n k → RG Ps 0 m k → k ≤ e
theorem NearK.swap {Ps : List (List Nat)} {n m e : Nat} (h : NearK Ps n m e) : NearK Ps m n e := ⟨h.r, h.l, fun k a b => h.top k b a⟩
theorem NearK.uniq {Ps : List (List Nat)} {n m e f : Nat} (h : NearK Ps n m e) (g : NearK Ps n m f) : e = f := Nat.le_antisymm (g.top e h.l h.r) (h.top f g.l g.r)
noncomputable def bothL (Ps : List (List Nat)) (n m : Nat) : List Nat := (eldL Ps n).filter fun k => decide (k ∈ eldL Ps m)
theorem mem_bothL {Ps : List (List Nat)} (o : Old Ps) {n m k : Nat} (hn : n < Ps.length) (hm : m < Ps.length) : k ∈ bothL Ps n m ↔ RG Ps 0 n k ∧ RG Ps 0 m k := by
  unfold bothL
  rw [List.mem_filter, decide_eq_true_eq, mem_eldL o hn, mem_eldL o hm]
theorem near_max {Ps : List (List Nat)} (o : Old Ps) {n m : Nat} (hn : n < Ps.length) (hm : m < Ps.length) {z : Int} (h : z ∈ nums (bothL Ps n m)) (ht : ∀ y ∈ nums (bothL Ps n m), y ≤ z) : ∃ e : Nat, z = (e : Int) ∧ NearK Ps n m e := by
  obtain ⟨e, he, rfl⟩ := mem_nums.mp h
  obtain ⟨h1, h2⟩ := (mem_bothL o hn hm).mp he
  refine ⟨e, rfl, h1, h2, fun k a b => ?_⟩
  have := ht (k : Int) (mem_nums.mpr ⟨k, (mem_bothL o hn hm).mpr ⟨a, b⟩, rfl⟩)
  omega
theorem inV_int (z : Int) (l : List Int) : inV (.int z) (l.map V.int) = decide (z ∈ l) := by
  unfold inV
  rw [Bool.eq_iff_iff, List.any_eq_true, decide_eq_true_eq]
  constructor
  · rintro ⟨y, hy, e⟩
    obtain ⟨i, hi, rfl⟩ := List.mem_map.mp hy
    have : i = z := by
      have e2 : (i == z) = true := e
      exact eq_of_beq e2
    exact this ▸ hi
  · intro h
    exact ⟨.int z, List.mem_map.mpr ⟨z, h, rfl⟩, (beq_self_eq_true z : (z == z) = true)⟩
/-- an int test, lifted -/
def pN (g : Nat → Bool) : V → Bool | .int i => g i.toNat | _ => false
theorem pN_filter (g : Nat → Bool) (l : List Nat) : ((nums l).map V.int).filter (pN g) = (nums (l.filter g)).map V.int := by
  rw [List.map_map, List.map_map, List.filter_map]
  have e : (pN g ∘ (V.int ∘ fun n : Nat => (n : Int))) = g := funext fun n => by
    show g ((n : Int)).toNat = g n
    rfl
  rw [e]
/-- what is said of k's roads to e by its parents -/
theorem RG.up {Ps : List (List Nat)} {k e : Nat} : RG Ps 0 k e ↔ k = e ∨ ∃ p ∈ par Ps k, RG Ps 0 p e := by
  constructor
  · intro h
    induction h with
    | self => exact .inl rfl
    | @step b p a hb hp ih =>
      rcases ih with ih | ⟨c, hc, ih⟩
      · subst ih; exact .inr ⟨p, hp, .self⟩
      · exact .inr ⟨c, hc, .step ih hb hp⟩
  · rintro (h | ⟨p, hp, h⟩)
    · subst h; exact .self
    · exact (RG.step .self (Nat.zero_le _) hp).trans h
/-- a road of parents from e to n -/
inductive Road (Ps : List (List Nat)) (n : Nat) : Nat → List Nat → Prop where
  | one : Road Ps n n [n]
  | more {g p : Nat} {r : List Nat} : Road Ps n g r → p ∈ par Ps g → Road Ps n p (p :: r)
theorem Road.head {Ps : List (List Nat)} {n g : Nat} {r : List Nat} (h : Road Ps n g r) : ∃ r', r = g :: r' := by
  cases h with
  | one => exact ⟨[], rfl⟩
  | more a b => exact ⟨_, rfl⟩
theorem Road.last {Ps : List (List Nat)} {n g : Nat} {r : List Nat} (h : Road Ps n g r) : r.getLast? = some n := by
  induction h with
  | one => rfl
  | more a b ih => rw [List.getLast?_cons, ih]; rfl
theorem Road.step {Ps : List (List Nat)} {n g : Nat} {r : List Nat} (h : Road Ps n g r) : ∀ i a b, r[i]? = some a → r[i + 1]? = some b → a ∈ par Ps b := by
  induction h with
  | one => intro i a b _ h; simp at h
  | @more g p r hr hp ih =>
    intro i a b h1 h2
    match i with
    | 0 =>
      cases (show some p = some a from h1)
      obtain ⟨r', e⟩ := hr.head
      rw [e] at h2
      cases (show some g = some b from h2)
      exact hp
    | i + 1 => exact ih i a b (by simpa using h1) (by simpa using h2)
theorem Road.up {Ps : List (List Nat)} (o : Old Ps) {n g : Nat} {r : List Nat} (h : Road Ps n g r) : g ≤ n := by
  induction h with
  | one => exact Nat.le_refl _
  | more a b ih => have := o _ _ b; omega
theorem Road.le {Ps : List (List Nat)} (o : Old Ps) {n g : Nat} {r : List Nat} (h : Road Ps n g r) : ∀ x ∈ r, x ≤ n := by
  induction h with
  | one => intro x hx; rw [List.mem_singleton.mp hx]; exact Nat.le_refl _
  | @more g p r hr hp ih =>
    intro x hx
    rcases List.mem_cons.mp hx with e | hx
    · have := hr.up o
      have := o _ _ hp
      omega
    · exact ih x hx
theorem Road.len {Ps : List (List Nat)} (o : Old Ps) {n g : Nat} {r : List Nat} (h : Road Ps n g r) : r.length + g ≤ n + 1 := by
  induction h with
  | one => simp; omega
  | more a b ih => have := o _ _ b; rw [List.length_cons]; omega
end M

/-! ### versions with a file of their own each -/
namespace M
open PySem PySem.Spec PyProof.Rows L2
theorem par_app {Ps : List (List Nat)} {p : List Nat} {k : Nat} (h : k < Ps.length) : par (Ps ++ [p]) k = par Ps k := by
  unfold par; rw [List.getElem?_append_left h]
theorem par_new (Ps : List (List Nat)) (p : List Nat) : par (Ps ++ [p]) Ps.length = p := by
  unfold par; rw [List.getElem?_append_right (Nat.le_refl _)]; simp
theorem Old.app {Ps : List (List Nat)} (o : Old Ps) {p : List Nat} (hp : ∀ x ∈ p, x < Ps.length) : Old (Ps ++ [p]) := fun k x hx => by
  rcases Nat.lt_trichotomy k Ps.length with h | h | h
  · rw [par_app h] at hx; exact o k x hx
  · subst h; rw [par_new] at hx; exact hp x hx
  · have : par (Ps ++ [p]) k = [] := by
      unfold par
      rw [List.getElem?_eq_none (by rw [List.length_append]; simp; omega)]; rfl
    rw [this] at hx; cases hx
theorem Root.app {Ps : List (List Nat)} (r : Root Ps) {p : List Nat} (hp : p ≠ []) : Root (Ps ++ [p]) := fun k h0 hk => by
  rcases Nat.lt_or_ge k Ps.length with h | h
  · rw [par_app h]; exact r k h0 h
  · rw [List.length_append] at hk
    have : k = Ps.length := by simp at hk; omega
    subst this; rw [par_new]; exact hp
theorem RG.app {Ps : List (List Nat)} (o : Old Ps) {p : List Nat} {n k : Nat} (hn : n < Ps.length) : RG (Ps ++ [p]) 0 n k ↔ RG Ps 0 n k := by
  constructor
  · intro h
    induction h with
    | self => exact .self
    | step a b c ih =>
      rw [par_app (Nat.lt_of_le_of_lt (ih.le o) hn)] at c
      exact .step ih b c
  · intro h
    induction h with
    | self => exact .self
    | step a b c ih => exact .step ih b (by rw [par_app (Nat.lt_of_le_of_lt (a.le o) hn)]; exact c)
theorem RG.new {Ps : List (List Nat)} (o : Old Ps) {p : List Nat} (hp : ∀ x ∈ p, x < Ps.length) {k : Nat} : RG (Ps ++ [p]) 0 Ps.length k ↔ k = Ps.length ∨ ∃ x ∈ p, RG Ps 0 x k := by
  constructor
  · intro h
    induction h with
    | self => exact .inl rfl
    | @step b c a hb hc ih =>
      rcases ih with ih | ⟨x, hx, ih⟩
      · subst ih
        rw [par_new] at hc
        exact .inr ⟨c, hc, .self⟩
      · rw [par_app (Nat.lt_of_le_of_lt (ih.le o) (hp x hx))] at hc
        exact .inr ⟨x, hx, .step ih (Nat.zero_le _) hc⟩
  · rintro (h | ⟨x, hx, h⟩)
    · subst h; exact .self
    · exact (RG.step .self (Nat.zero_le _) (by rw [par_new]; exact hx)).trans ((RG.app o (hp x hx)).mpr h)
/-- the file of version j -/
def vN (j : Nat) : Str := ("v" : Str) ++ Str.ofString (toString ((j : Nat) : Int))
theorem vN_ok : ∀ i : Fin 200, isPartB (vN i.val) = true := by decide +kernel
def dec47 (l : List Nat) : Nat := l.tail.foldl (fun a c => 10 * a + (c - 48)) 0
theorem vN_dec : ∀ i : Fin 200, dec47 (cl (vN i.val)) = i.val := by decide +kernel
theorem vN_inj {i j : Nat} (hi : i < 200) (hj : j < 200) (h : vN i = vN j) : i = j := by
  have h1 := vN_dec ⟨i, hi⟩
  have h2 := vN_dec ⟨j, hj⟩
  have h3 : dec47 (cl (vN i)) = i := h1
  have h4 : dec47 (cl (vN j)) = j := h2
  rw [← h3, h, h4]
/-- tree G is that of version k: the own files of k's elders -/
structure Mine (own : List (Option Str)) (Ps : List (List Nat)) (k : Nat) (G : Tr) : Prop where
  nd : (keys G).Nodup
  val : ∀ p v, valV G p = some v ↔ ∃ j z, RG Ps 0 k j ∧ own[j]? = some (some z) ∧ p = vN j ∧ v = .str z
section
variable {own : List (Option Str)} {Ps : List (List Nat)} {k : Nat} {G : Tr}
theorem own_lt {j : Nat} {z : Option Str} (h : own[j]? = some z) : j < own.length := (List.getElem?_eq_some_iff.mp h).1
theorem Mine.key (m : Mine own Ps k G) {p : Str} (h : p ∈ keys G) : ∃ j z, RG Ps 0 k j ∧ own[j]? = some (some z) ∧ p = vN j := by
  have h1 := val_some (T := G) (k := p)
  rw [decide_eq_true h] at h1
  obtain ⟨v, hv⟩ := Option.isSome_iff_exists.mp h1
  obtain ⟨j, z, a, b, c, _⟩ := (m.val p v).mp hv
  exact ⟨j, z, a, b, c⟩
theorem Mine.path (m : Mine own Ps k G) (ho : own.length ≤ 200) {p : Str} (h : p ∈ keys G) : isPartB p = true := by
  obtain ⟨j, z, _, b, rfl⟩ := m.key h
  exact vN_ok ⟨j, Nat.lt_of_lt_of_le (own_lt b) ho⟩
theorem Mine.ok (m : Mine own Ps k G) (ho : own.length ≤ 200) : TreeOk 200 G := by
  refine ⟨m.nd, fun p hp => part_path (m.path ho hp), fun x hx => ?_, ?_⟩
  · have hv := val_of_mem m.nd (show (x.1, x.2) ∈ G from hx)
    obtain ⟨j, z, _, _, _, e⟩ := (m.val _ _).mp hv
    exact ⟨z, e⟩
  · have := m.nd.length_le_of_subset (l₂ := (List.range own.length).map vN) fun p hp => by
      obtain ⟨j, z, _, b, rfl⟩ := m.key hp
      exact List.mem_map.mpr ⟨j, List.mem_range.mpr (own_lt b), rfl⟩
    rw [List.length_map, List.length_map, List.length_range] at this
    omega
theorem Mine.old (m : Mine own Ps k G) (o : Old Ps) (hk : k < Ps.length) (he : own.length = Ps.length) (x : Option Str) (p : List Nat) : Mine (own ++ [x]) (Ps ++ [p]) k G := by
  refine ⟨m.nd, fun q v => (m.val q v).trans ⟨?_, ?_⟩⟩
  · rintro ⟨j, z, a, b, c, d⟩
    exact ⟨j, z, (RG.app o hk).mpr a, by rw [List.getElem?_append_left (own_lt b)]; exact b, c, d⟩
  · rintro ⟨j, z, a, b, c, d⟩
    have a := (RG.app o hk).mp a
    have hj : j < own.length := by have := a.le o; omega
    rw [List.getElem?_append_left hj] at b
    exact ⟨j, z, a, b, c, d⟩
theorem Mine.plain (m : Mine own Ps k G) (o : Old Ps) (hk : k < Ps.length) (he : own.length = Ps.length) : Mine (own ++ [none]) (Ps ++ [[k]]) Ps.length G := by
  have hp : ∀ x ∈ [k], x < Ps.length := fun x hx => by rw [List.mem_singleton.mp hx]; exact hk
  refine ⟨m.nd, fun q v => (m.val q v).trans ⟨?_, ?_⟩⟩
  · rintro ⟨j, z, a, b, c, d⟩
    exact ⟨j, z, (RG.new o hp).mpr (.inr ⟨k, List.mem_singleton.mpr rfl, a⟩), by rw [List.getElem?_append_left (own_lt b)]; exact b, c, d⟩
  · rintro ⟨j, z, a, b, c, d⟩
    rcases (RG.new o hp).mp a with e | ⟨x, hx, a⟩
    · subst e
      rw [List.getElem?_append_right (by omega), he] at b
      simp at b
    · rw [List.mem_singleton.mp hx] at a
      have hj : j < own.length := by have := a.le o; omega
      rw [List.getElem?_append_left hj] at b
      exact ⟨j, z, a, b, c, d⟩
theorem Mine.put (m : Mine own Ps k G) (o : Old Ps) (hk : k < Ps.length) (he : own.length = Ps.length) (hl : own.length < 200) (z : Str) : Mine (own ++ [some z]) (Ps ++ [[k]]) Ps.length (putK G (vN Ps.length) (.str z)) := by
  have hp : ∀ x ∈ [k], x < Ps.length := fun x hx => by rw [List.mem_singleton.mp hx]; exact hk
  refine ⟨nd_put m.nd, fun q v => ?_⟩
  rw [L2.valV_put]
  constructor
  · intro h
    split at h
    · rename_i e
      cases h
      exact ⟨Ps.length, z, .self, by rw [List.getElem?_append_right (by omega), he]; simp, e, rfl⟩
    · obtain ⟨j, y, a, b, c, d⟩ := (m.val q v).mp h
      exact ⟨j, y, (RG.new o hp).mpr (.inr ⟨k, List.mem_singleton.mpr rfl, a⟩), by rw [List.getElem?_append_left (own_lt b)]; exact b, c, d⟩
  · rintro ⟨j, y, a, b, c, d⟩
    rcases (RG.new o hp).mp a with e | ⟨x, hx, a⟩
    · subst e
      rw [if_pos c]
      rw [List.getElem?_append_right (by omega), he] at b
      have : z = y := by simpa using b
      rw [d, this]
    · rw [List.mem_singleton.mp hx] at a
      have hj : j < own.length := by have := a.le o; omega
      rw [List.getElem?_append_left hj] at b
      have hne : q ≠ vN Ps.length := fun e => by
        rw [c] at e
        have := vN_inj (by omega) (by omega) e
        omega
      rw [if_neg hne]
      exact (m.val q v).mpr ⟨j, y, a, b, c, d⟩
theorem Mine.get (m : Mine own Ps k G) (hl : own.length ≤ 200) {j : Nat} {z : Str} (hj : own[j]? = some (some z)) : (RG Ps 0 k j ∧ getV G (vN j) = .str z) ∨ (¬ RG Ps 0 k j ∧ getV G (vN j) = .non) := by
  cases hv : valV G (vN j) with
  | some v =>
    obtain ⟨i, y, a, b, c, d⟩ := (m.val _ _).mp hv
    have : j = i := vN_inj (Nat.lt_of_lt_of_le (own_lt hj) hl) (Nat.lt_of_lt_of_le (own_lt b) hl) c
    subst this
    rw [hj] at b
    cases b
    exact .inl ⟨a, by rw [getV, hv, d]; rfl⟩
  | none =>
    refine .inr ⟨fun h => ?_, by rw [getV, hv]; rfl⟩
    have := (m.val (vN j) (.str z)).mpr ⟨j, z, h, hj, rfl, rfl⟩
    rw [hv] at this; cases this
def fV (z : Str) (x : Bool) : V := if x = true then .str z else .non
theorem two_val (z : Str) (a b d : Bool) (h : a = true → b = true ∧ d = true) : markV (fV z a) (fV z b) (fV z d) ≠ "clash" ∧ (if markV (fV z a) (fV z b) (fV z d) = "clash" then V.non else if markV (fV z a) (fV z b) (fV z d) = "other" then fV z d else fV z b) = fV z (b || d) := by
  have d1 : ("same" : Str) ≠ "clash" := by decide +kernel
  have d2 : ("same" : Str) ≠ "other" := by decide +kernel
  have d3 : ("alike" : Str) ≠ "clash" := by decide +kernel
  have d4 : ("alike" : Str) ≠ "other" := by decide +kernel
  have d5 : ("other" : Str) ≠ "clash" := by decide +kernel
  have d6 : ("one" : Str) ≠ "clash" := by decide +kernel
  have d7 : ("one" : Str) ≠ "other" := by decide +kernel
  cases a <;> cases b <;> cases d <;> simp [markV, fV, d1, d2, d3, d4, d5, d6, d7] at h ⊢
open Classical in
theorem Mine.getB (m : Mine own Ps k G) (hl : own.length ≤ 200) {j : Nat} {z : Str} (hj : own[j]? = some (some z)) : getV G (vN j) = fV z (decide (RG Ps 0 k j)) := by
  rcases m.get hl hj with ⟨a, g⟩ | ⟨a, g⟩
  · rw [g, fV, if_pos (decide_eq_true a)]
  · rw [g, fV, if_neg (by rw [decide_eq_false a]; simp)]
theorem Mine.merge {n m e : Nat} {A B D : Tr} (mA : Mine own Ps e A) (mB : Mine own Ps n B) (mD : Mine own Ps m D) (o : Old Ps) (hn : n < Ps.length) (hm : m < Ps.length) (he : own.length = Ps.length) (hl2 : own.length < 200) (nk : NearK Ps n m e) :
    joinR A B D [] = .tree (madeT A B D []) ∧ Mine (own ++ [none]) (Ps ++ [[min n m, max n m]]) Ps.length (madeT A B D []) := by
  have hl : own.length ≤ 200 := Nat.le_of_lt hl2
  have two : ∀ {j : Nat} {z : Str}, own[j]? = some (some z) → markV (getV A (vN j)) (getV B (vN j)) (getV D (vN j)) ≠ "clash" ∧ ((RG Ps 0 n j ∨ RG Ps 0 m j) → standV A B D [] (vN j) = .str z) := fun {j z} hj => by
    have up : RG Ps 0 e j → RG Ps 0 n j ∧ RG Ps 0 m j := fun h => ⟨nk.l.trans h, nk.r.trans h⟩
    rw [stand_no (show valV [] (vN j) = none from rfl), mA.getB hl hj, mB.getB hl hj, mD.getB hl hj]
    obtain ⟨h1, h2⟩ := two_val z (@decide (RG Ps 0 e j) (Classical.propDecidable _)) (@decide (RG Ps 0 n j) (Classical.propDecidable _)) (@decide (RG Ps 0 m j) (Classical.propDecidable _)) (fun h => by
      have := up (@of_decide_eq_true _ (Classical.propDecidable _) h)
      exact ⟨@decide_eq_true _ (Classical.propDecidable _) this.1, @decide_eq_true _ (Classical.propDecidable _) this.2⟩)
    refine ⟨h1, fun h => ?_⟩
    rw [h2, fV, if_pos]
    rw [Bool.or_eq_true]
    exact h.imp (fun h => @decide_eq_true _ (Classical.propDecidable _) h) fun h => @decide_eq_true _ (Classical.propDecidable _) h
  have keyOf : ∀ {p : Str}, p ∈ allP A B D → ∃ j z, own[j]? = some (some z) ∧ p = vN j ∧ (RG Ps 0 n j ∨ RG Ps 0 m j) := fun {p} hp => by
    rcases mem_allP.mp hp with h | h | h
    · obtain ⟨j, z, a, b, c⟩ := mA.key h
      exact ⟨j, z, b, c, .inl (nk.l.trans a)⟩
    · obtain ⟨j, z, a, b, c⟩ := mB.key h
      exact ⟨j, z, b, c, .inl a⟩
    · obtain ⟨j, z, a, b, c⟩ := mD.key h
      exact ⟨j, z, b, c, .inr a⟩
  have hleft : leftT A B D [] = [] := List.filter_eq_nil_iff.mpr fun p hp => by
    obtain ⟨j, z, b, rfl, _⟩ := keyOf hp
    unfold leftB
    rw [decide_eq_false (two b).1]; simp
  have hmine : Mine (own ++ [none]) (Ps ++ [[min n m, max n m]]) Ps.length (madeT A B D []) := by
    have hp : ∀ x ∈ [min n m, max n m], x < Ps.length := fun x hx => by
      simp only [List.mem_cons, List.mem_nil_iff, or_false] at hx
      rcases hx with e | e <;> subst e <;> omega
    have both : ∀ {j}, (∃ x ∈ [min n m, max n m], RG Ps 0 x j) ↔ (RG Ps 0 n j ∨ RG Ps 0 m j) := fun {j} => by
      constructor
      · rintro ⟨x, hx, h⟩
        simp only [List.mem_cons, List.mem_nil_iff, or_false] at hx
        have : x = n ∨ x = m := by omega
        rcases this with e | e
        · exact .inl (e ▸ h)
        · exact .inr (e ▸ h)
      · rintro (h | h)
        · refine ⟨n, ?_, h⟩
          simp only [List.mem_cons, List.mem_nil_iff, or_false]; omega
        · refine ⟨m, ?_, h⟩
          simp only [List.mem_cons, List.mem_nil_iff, or_false]; omega
    refine ⟨made_nd (nd_allP A B D), fun q v => ?_⟩
    rw [made_val (nd_allP A B D)]
    constructor
    · intro h
      split at h
      · rename_i hq
        obtain ⟨j, z, b, rfl, c⟩ := keyOf hq.1
        rw [(two b).2 c] at h
        cases h
        exact ⟨j, z, (RG.new o hp).mpr (.inr (both.mpr c)), by rw [List.getElem?_append_left (own_lt b)]; exact b, rfl, rfl⟩
      · cases h
    · rintro ⟨j, z, a, b, rfl, rfl⟩
      rcases (RG.new o hp).mp a with e2 | a
      · subst e2
        rw [List.getElem?_append_right (by omega), he] at b
        simp at b
      · have c := both.mp a
        have hj : j < own.length := by
          rcases c with c | c
          · have := c.le o; omega
          · have := c.le o; omega
        rw [List.getElem?_append_left hj] at b
        have hs := (two b).2 c
        have hin : vN j ∈ allP A B D := by
          rcases c with c | c
          · refine mem_allP.mpr (.inr (.inl ?_))
            have hv := (mB.val (vN j) (.str z)).mpr ⟨j, z, c, b, rfl, rfl⟩
            have h1 := val_some (T := B) (k := vN j)
            rw [hv] at h1
            exact of_decide_eq_true h1.symm
          · refine mem_allP.mpr (.inr (.inr ?_))
            have hv := (mD.val (vN j) (.str z)).mpr ⟨j, z, c, b, rfl, rfl⟩
            have h1 := val_some (T := D) (k := vN j)
            rw [hv] at h1
            exact of_decide_eq_true h1.symm
        rw [if_pos ⟨hin, by unfold standsB; rw [hs]; rfl⟩, hs]
  have htree : isTreeB (madeT A B D []) = true := List.all_eq_true.mpr fun p hp => by
    have hpart := hmine.path (by rw [List.length_append]; simp; omega) hp
    have ha : aboveL p = [] := by unfold aboveL; rw [part_one hpart]; rfl
    rw [part_path hpart, ha]; rfl
  refine ⟨?_, hmine⟩
  have hg : goodB A B D [] = true := by unfold goodB; rw [hleft, htree]; rfl
  unfold joinR
  rw [if_neg (by show ¬ (true = false); simp), if_pos hg]
theorem no_beneath {z u : Str} (h : 47 ∉ cl z) : beneathB z u = false := Bool.eq_false_iff.mpr fun hb => by
  obtain ⟨r, e⟩ := (beneath_iff _ _).mp hb
  exact h (by rw [e]; simp)
theorem Mine.hind (m : Mine own Ps k G) (ho : own.length ≤ 200) {p : Str} (hp : isPartB p = true) : hindB G p = false := by
  rw [hind_free]
  have : freeB G p = true := free_iff.mpr fun o h => ⟨no_beneath (part_47 (m.path ho h)), no_beneath (part_47 hp)⟩
  rw [this]; rfl
theorem Mine.done (m : Mine own Ps k G) (ho : own.length ≤ 200) {N : Nat} (hN : N < 200) (z : Str) : foldR G [.put (vN N) z] = .tree (putK G (vN N) (.str z)) := by
  have hp : isPartB (vN N) = true := vN_ok ⟨N, hN⟩
  have h1 : doneR G (.put (vN N) z) = .tree (putK G (vN N) (.str z)) := by
    rw [done_put (part_path hp), m.hind ho hp, if_neg (by simp)]
  rw [fold_ok h1]
  rfl
end
end M

/-! ### comprehensions whose elements are new things -/
namespace M
open PySem PySem.Spec PyProof.Rows L2
section
variable {K : PySem.W.Frag} {J : It} {n : Nat} {G : Hp → Prop} {te : TE} {vs : List Nat} {σ : L2.St} {H1 : Hp} {D : Addr} {Qd : Hp → Prop} {xs : List V} {j : Nat}
/-- each element a new thing, known -/
theorem lcN (w : Walk J n G (YAt xs)) (hx : xs.length = n) (hG : ∀ H', Same H1 H' → G H') (hD : H1 D = none) (g : V → HO) (hn : n ≤ 16777216) (hw : ∀ x, wipe ((wipe σ vs).set j (some x)) vs = wipe σ vs)
    (hs : ∀ x H, x ∈ xs → Same H1 H → ∀ Q2 : VK, (∀ p H', H p = none → Same H H' → H' p = some (g x) → Q2 (.ref p) H') → te ((wipe σ vs).set j (some x)) H Q2)
    (hd : ∀ (rs : List Addr) H', Paired (fun r x => H' r = some (g x)) rs xs → rs.Nodup → (∀ r ∈ rs, H1 r = none ∧ r ≠ D) → Same H1 H' → H' D = some (.lst (rs.map V.ref)) → Qd H') :
    ∃ W : Nat → Nat → Hp → Prop, (∃ m, W 0 m (upd H1 D (.lst []))) ∧ ∀ i m H, W i m H →
      (J.stop i H ∧ Qd H) ∨ (J.go i H ∧ ∃ Nx : Hp → Prop, (∀ H', Nx H' → ∃ m', m' < m ∧ W (i + 1) m' H') ∧ ∀ x H', J.yld i H x H' → gName j x (wipe σ vs) H' fun σ2 H2 => wipe σ2 vs = wipe σ vs ∧ tYes σ2 H2 fun b H3 =>
        if b = true then te σ2 H3 fun y H4 => ∃ acc, H4 D = some (.lst acc) ∧ acc.length < sizeLine ∧ Nx (upd H4 D (.lst (acc ++ [y]))) else Nx H3) := by
  have tk : ∀ {i : Nat} {x : V}, xs[i]? = some x → xs.take (i + 1) = xs.take i ++ [x] := fun h => by rw [List.take_add_one, h]; rfl
  refine lc_it w (fun i H => Same H1 H ∧ ∃ rs : List Addr, H D = some (.lst (rs.map V.ref)) ∧ Paired (fun r x => H r = some (g x)) rs (xs.take i) ∧ rs.Nodup ∧ ∀ r ∈ rs, H1 r = none ∧ r ≠ D) ⟨Same.new hD, [], upd_same, by rw [List.take_zero]; exact .nil, List.nodup_nil, fun r h => absurd h (by simp)⟩ (fun i H _ q => hG H q.1) ?_ ?_
  · rintro i x H H0 hi ⟨e, rs, hacc, hp, nd, hf⟩ ⟨rfl, hix⟩
    have hx' : x ∈ xs := List.mem_of_getElem? hix
    refine ⟨hw _, ?_⟩
    show te _ _ _
    refine hs x _ hx' e _ fun p H' np e' hpg => ?_
    have hl : rs.length ≤ i := by
      rw [hp.length, List.length_take]; omega
    have pD : p ≠ D := (ne_of_none hacc np).symm
    have keep : ∀ {r : Addr} {o : HO}, r ≠ D → H' r = some o → upd H' D (.lst (rs.map V.ref ++ [V.ref p])) r = some o := fun n h => (upd_ne n).trans h
    have hnew : ∀ r ∈ rs, r ≠ p := fun r hr => by
      obtain ⟨k, hk⟩ := List.mem_iff_getElem?.mp hr
      obtain ⟨y, _, hy⟩ := Paired.get hp hk
      exact ne_of_none hy np
    refine ⟨rs.map V.ref, e' _ _ hacc, sl_lt (by rw [List.length_map]; omega), Same.mut (e.trans e') hD, rs ++ [p], by rw [upd_same, List.map_append]; rfl, ?_, ?_, ?_⟩
    · rw [tk hix]
      refine M.Paired.app (R := fun r x => upd H' D (.lst (rs.map V.ref ++ [V.ref p])) r = some (g x)) (.cons (keep pD hpg) .nil) ?_
      have : ∀ {as : List Addr} {bs : List V}, (∀ r ∈ as, r ≠ D) → Paired (fun r x => H0 r = some (g x)) as bs → Paired (fun r x => upd H' D (.lst (rs.map V.ref ++ [V.ref p])) r = some (g x)) as bs := fun {as bs} hne h => by
        induction h with
        | nil => exact .nil
        | cons a t ih => exact .cons (keep (hne _ List.mem_cons_self) (e' _ _ a)) (ih fun r hr => hne r (List.mem_cons_of_mem _ hr))
      exact this (fun r hr => (hf r hr).2) hp
    · exact List.nodup_append.mpr ⟨nd, List.nodup_cons.mpr ⟨by simp, List.nodup_nil⟩, fun a ha b hb => by rw [List.mem_singleton.mp hb]; exact hnew a ha⟩
    · intro r hr
      rcases List.mem_append.mp hr with h | h
      · exact hf r h
      · rw [List.mem_singleton.mp h]
        exact ⟨e.free np, pD⟩
  · rintro H ⟨e, rs, hacc, hp, nd, hf⟩
    rw [← hx, List.take_length] at hp
    exact hd rs H hp nd hf e hacc
end
section
variable {K : PySem.W.Frag} {H1 : Hp} {L D : Addr} {ps : List (Addr × V × V)} {i j : Nat} {te : TE} {vs : List Nat} {σ : L2.St} {Qd : Hp → Prop}
/-- each element, made of a pair, a new thing, known -/
theorem lcNT (hL : ∀ p ∈ ps, H1 p.1 = some (.tup [p.2.1, p.2.2])) (hS : SqL K H1 L (ps.map fun p => V.ref p.1)) (hD : H1 D = none) (g : V × V → HO) (hn : ps.length ≤ 1000) (hw : ∀ x y, wipe (((wipe σ vs).set i (some x)).set j (some y)) vs = wipe σ vs)
    (hs : ∀ p H, p ∈ ps → Same H1 H → ∀ Q2 : VK, (∀ r H', H r = none → Same H H' → H' r = some (g p.2) → Q2 (.ref r) H') → te (((wipe σ vs).set i (some p.2.1)).set j (some p.2.2)) H Q2)
    (hd : ∀ (rs : List Addr) H', Paired (fun r (p : Addr × V × V) => H' r = some (g p.2)) rs ps → rs.Nodup → (∀ r ∈ rs, H1 r = none ∧ r ≠ D) → Same H1 H' → H' D = some (.lst (rs.map V.ref)) → Qd H') :
    ∃ W : Nat → Nat → Hp → Prop, (∃ m, W 0 m (upd H1 D (.lst []))) ∧ ∀ k m H, W k m H →
      ((Itl K L).stop k H ∧ Qd H) ∨ ((Itl K L).go k H ∧ ∃ Nx : Hp → Prop, (∀ H', Nx H' → ∃ m', m' < m ∧ W (k + 1) m' H') ∧ ∀ x H', (Itl K L).yld k H x H' → gTup K 2 (gCons (gName i) (gCons (gName j) gNil)) x (wipe σ vs) H' fun σ2 H2 => wipe σ2 vs = wipe σ vs ∧ tYes σ2 H2 fun b H3 =>
        if b = true then te σ2 H3 fun y H4 => ∃ acc, H4 D = some (.lst acc) ∧ acc.length < sizeLine ∧ Nx (upd H4 D (.lst (acc ++ [y]))) else Nx H3) := by
  refine lc_it (wL (xs := ps.map fun p => V.ref p.1)) (fun k H => Same H1 H ∧ ∃ rs : List Addr, H D = some (.lst (rs.map V.ref)) ∧ Paired (fun r (p : Addr × V × V) => H r = some (g p.2)) rs (ps.take k) ∧ rs.Nodup ∧ ∀ r ∈ rs, H1 r = none ∧ r ≠ D) ⟨Same.new hD, [], upd_same, by rw [List.take_zero]; exact .nil, List.nodup_nil, fun r h => absurd h (by simp)⟩ (fun _ H _ q => q.1.seq hS) ?_ ?_
  · rintro k x H H0 hk ⟨e, rs, hacc, hp, nd, hf⟩ ⟨rfl, hix⟩
    rw [List.getElem?_map] at hix
    obtain ⟨p, hpk, rfl⟩ := Option.map_eq_some_iff.mp hix
    have hpm := List.mem_of_getElem? hpk
    refine ⟨p.1, _, rfl, SqT.of (e _ _ (hL p hpm)), rfl, ?_⟩
    refine ⟨_, _, rfl, _, _, rfl, rfl, ?_⟩
    refine ⟨hw _ _, ?_⟩
    show te _ _ _
    refine hs p _ hpm e _ fun r H' np e' hrg => ?_
    have hl : rs.length ≤ k := by
      rw [hp.length, List.length_take]; omega
    have hk2 : k < ps.length := (List.getElem?_eq_some_iff.mp hpk).1
    have pD : r ≠ D := (ne_of_none hacc np).symm
    have keep : ∀ {r' : Addr} {o : HO}, r' ≠ D → H' r' = some o → upd H' D (.lst (rs.map V.ref ++ [V.ref r])) r' = some o := fun n h => (upd_ne n).trans h
    have hnew : ∀ r' ∈ rs, r' ≠ r := fun r' hr => by
      obtain ⟨q, hq⟩ := List.mem_iff_getElem?.mp hr
      obtain ⟨y, _, hy⟩ := Paired.get hp hq
      exact ne_of_none hy np
    refine ⟨rs.map V.ref, e' _ _ hacc, sl_lt (by rw [List.length_map]; omega), Same.mut (e.trans e') hD, rs ++ [r], by rw [upd_same, List.map_append]; rfl, ?_, ?_, ?_⟩
    · rw [List.take_add_one, hpk]
      refine M.Paired.app (R := fun r' (p : Addr × V × V) => upd H' D (.lst (rs.map V.ref ++ [V.ref r])) r' = some (g p.2)) (.cons (keep pD hrg) .nil) ?_
      have : ∀ {as : List Addr} {bs : List (Addr × V × V)}, (∀ r ∈ as, r ≠ D) → Paired (fun r (p : Addr × V × V) => H0 r = some (g p.2)) as bs → Paired (fun r' (p : Addr × V × V) => upd H' D (.lst (rs.map V.ref ++ [V.ref r])) r' = some (g p.2)) as bs := fun {as bs} hne h => by
        induction h with
        | nil => exact .nil
        | cons a t ih => exact .cons (keep (hne _ List.mem_cons_self) (e' _ _ a)) (ih fun r hr => hne r (List.mem_cons_of_mem _ hr))
      exact this (fun r hr => (hf r hr).2) hp
    · exact List.nodup_append.mpr ⟨nd, List.nodup_cons.mpr ⟨by simp, List.nodup_nil⟩, fun a ha b hb => by rw [List.mem_singleton.mp hb]; exact hnew a ha⟩
    · intro r' hr
      rcases List.mem_append.mp hr with h | h
      · exact hf r' h
      · rw [List.mem_singleton.mp h]
        exact ⟨e.free np, pD⟩
  · rintro H ⟨e, rs, hacc, hp, nd, hf⟩
    rw [List.length_map, List.take_length] at hp
    exact hd rs H hp nd hf e hacc
end
theorem flat_refl {K : PySem.W.Frag} {H : Hp} {n : Nat} : ∀ {xs : List V}, (∀ x ∈ xs, flatB x = true) → Paired (EqN K H (n + 1)) xs xs
  | [], _ => .nil
  | x :: xs, h => .cons (.inl ⟨rfl, h x List.mem_cons_self⟩) (flat_refl fun y hy => h y (List.mem_cons_of_mem _ hy))
theorem flat_ints (l : List Int) : ∀ x ∈ l.map V.int, flatB x = true := fun x hx => by
  obtain ⟨z, _, rfl⟩ := List.mem_map.mp hx; rfl
theorem eqR_lst {K : PySem.W.Frag} {H : Hp} {n : Nat} {a b : Addr} {xs : List V} (ha : H a = some (.lst xs)) (hb : H b = some (.lst xs)) (h : ∀ x ∈ xs, flatB x = true) : EqR K H (EqN K H (n + 1)) (.ref a) (.ref b) :=
  .inl ⟨a, b, _, _, rfl, rfl, SqL.of ha, SqL.of hb, flat_refl h⟩
theorem eqR_tup {K : PySem.W.Frag} {H : Hp} {n : Nat} {a b : Addr} {xs : List V} (ha : H a = some (.tup xs)) (hb : H b = some (.tup xs)) (h : ∀ x ∈ xs, flatB x = true) : EqR K H (EqN K H (n + 1)) (.ref a) (.ref b) :=
  .inr (.inl ⟨a, b, _, _, rfl, rfl, SqT.of ha, SqT.of hb, flat_refl h⟩)
/-- two lists of new things, the same ones -/
theorem eqR_news {K : PySem.W.Frag} {H : Hp} {n : Nat} {a b : Addr} {rs us : List Addr} (ha : H a = some (.lst (rs.map V.ref))) (hb : H b = some (.lst (us.map V.ref))) (h : Paired (fun r u => EqR K H (EqN K H n) (.ref r) (.ref u)) rs us) : EqR K H (EqN K H (n + 1)) (.ref a) (.ref b) := by
  refine .inl ⟨a, b, _, _, rfl, rfl, SqL.of ha, SqL.of hb, ?_⟩
  clear ha hb
  induction h with
  | nil => exact .nil
  | cons a _ ih => exact .cons (.inr (.inr a)) ih
theorem Paired.join {α β γ : Type} {R : α → γ → Prop} {S : β → γ → Prop} {T : α → β → Prop} : ∀ {as : List α} {bs : List β} {cs : List γ}, (∀ a b c, c ∈ cs → R a c → S b c → T a b) → Paired R as cs → Paired S bs cs → Paired T as bs
  | _, _, _, _, .nil, .nil => .nil
  | _, _, _, h, .cons a t, .cons b u => .cons (h _ _ _ List.mem_cons_self a b) (Paired.join (fun a b c hc => h a b c (List.mem_cons_of_mem _ hc)) t u)
theorem flatV_refl {K : PySem.W.Frag} {H : Hp} {n : Nat} : ∀ {xs : List V}, (∀ x ∈ xs, flatB x = true) → Paired (L2.EqV K H (n + 1)) xs xs
  | [], _ => .nil
  | x :: xs, h => .cons (.inl ⟨rfl, h x List.mem_cons_self⟩) (flatV_refl fun y hy => h y (List.mem_cons_of_mem _ hy))
theorem eqV_lst {K : PySem.W.Frag} {H : Hp} {n : Nat} {a b : Addr} {xs : List V} (ha : H a = some (.lst xs)) (hb : H b = some (.lst xs)) (h : ∀ x ∈ xs, flatB x = true) : L2.EqR K H (L2.EqV K H (n + 1)) (.ref a) (.ref b) :=
  .inl ⟨a, b, _, _, rfl, rfl, SqL.of ha, SqL.of hb, flatV_refl h⟩
theorem eqV_news {K : PySem.W.Frag} {H : Hp} {a b : Addr} {rs us : List Addr} (ha : H a = some (.lst (rs.map V.ref))) (hb : H b = some (.lst (us.map V.ref))) (h : Paired (fun r u => ∃ l : List Int, H r = some (.lst (l.map V.int)) ∧ H u = some (.lst (l.map V.int))) rs us) : L2.EqR K H (L2.EqV K H 2) (.ref a) (.ref b) := by
  refine .inl ⟨a, b, _, _, rfl, rfl, SqL.of ha, SqL.of hb, ?_⟩
  clear ha hb
  induction h with
  | nil => exact .nil
  | cons a _ ih =>
    obtain ⟨l, h1, h2⟩ := a
    exact .cons (.inr (.inr (eqV_lst h1 h2 (flat_ints l)))) ih
end M

/-! ### a version more; two books -/
namespace M
open PySem PySem.Spec PyProof.Rows L2
theorem iteP {p A B : Prop} [Decidable p] (h : p) (a : A) : if decide p = true then A else B := by rw [if_pos (decide_eq_true h)]; exact a
theorem iteQ {p A B : Prop} [Decidable p] (h : ¬ p) (b : B) : if decide p = true then A else B := by rw [if_neg (by rw [decide_eq_false h]; simp)]; exact b
theorem iteNQ {p A B : Prop} [Decidable p] (h : p) (b : B) : if (!decide p) = true then A else B := by rw [if_neg (by rw [decide_eq_true h]; simp)]; exact b
theorem BkAt.fr2 {C b dx t o t' o' : Addr} {ts os : List Addr} {Gs : List Tr} {Ps : List (List Nat)} {H H' : Hp} {xs ys : List V} (h : BkAt C b dx t o ts os Gs Ps H) (s : Same2 t' o' H H') (ht : H t' = some (.lst xs)) (ho : H o' = some (.lst ys))
    (n1 : t ≠ t') (n2 : t ≠ o') (n3 : o ≠ t') (n4 : o ≠ o') : BkAt C b dx t o ts os Gs Ps H' := by
  have g : ∀ {x : Addr} {w : HO}, H x = some w → (∀ ys, w ≠ .lst ys) → H' x = some w := fun {x w} e hn => s x w (fun q => by rw [q, ht] at e; exact hn _ (Option.some.inj e).symm) (fun q => by rw [q, ho] at e; exact hn _ (Option.some.inj e).symm) e
  exact ⟨g h.ins (fun ys z => by cases z), s _ _ n1 n2 h.tr, s _ _ n3 n4 h.ol, Paired.imp (fun _ _ r => g r (fun ys z => by cases z)) h.gs, Paired.imp (fun _ _ r => g r (fun ys z => by cases z)) h.ps, h.len, h.tno⟩
def treeOf (Gs : List Tr) (k : Nat) : Tr := (Gs[k]?).getD []
/-- whether version k changed the path -/
def storyB (Gs : List Tr) (Ps : List (List Nat)) (p : Str) (k : Nat) : Bool := decide (0 < k) && ((par Ps k).filter fun q => decide (getV (treeOf Gs q) p = getV (treeOf Gs k) p)).isEmpty
noncomputable def storyL (Gs : List Tr) (Ps : List (List Nat)) (n : Nat) (p : Str) : List Nat := (eldL Ps n).filter (storyB Gs Ps p)
section
variable {Ps : List (List Nat)} {g : Nat}
theorem one_lt (hg : g < Ps.length) : ∀ x ∈ [g], x < Ps.length := fun x hx => by rw [List.mem_singleton.mp hx]; exact hg
theorem eldL_old {p : List Nat} (o : Old Ps) (hg : g < Ps.length) : eldL (Ps ++ [p]) g = eldL Ps g := by
  unfold eldL
  rw [List.length_append, show [p].length = 1 from rfl, List.range_succ, List.filter_append]
  have e1 : [Ps.length].filter (eldB (Ps ++ [p]) g) = [] := List.filter_eq_nil_iff.mpr fun k hk => by
    rw [List.mem_singleton.mp hk, eldB_iff, RG.app o hg]
    intro h
    have := h.le o
    omega
  rw [e1, List.append_nil]
  refine List.filter_congr fun k _ => ?_
  rw [Bool.eq_iff_iff, eldB_iff, eldB_iff, RG.app o hg]
theorem eldL_new (o : Old Ps) (hg : g < Ps.length) : eldL (Ps ++ [[g]]) Ps.length = eldL Ps g ++ [Ps.length] := by
  unfold eldL
  rw [List.length_append, show [[g]].length = 1 from rfl, List.range_succ, List.filter_append]
  have e1 : [Ps.length].filter (eldB (Ps ++ [[g]]) Ps.length) = [Ps.length] := List.filter_eq_self.mpr fun k hk => by
    rw [List.mem_singleton.mp hk, eldB_iff]
    exact .self
  rw [e1]
  congr 1
  refine List.filter_congr fun k hk => ?_
  have hk := List.mem_range.mp hk
  rw [Bool.eq_iff_iff, eldB_iff, eldB_iff, RG.new o (one_lt hg)]
  constructor
  · rintro (h | ⟨x, hx, h⟩)
    · omega
    · rw [List.mem_singleton.mp hx] at h; exact h
  · exact fun h => .inr ⟨g, List.mem_singleton.mpr rfl, h⟩
theorem near_new (o : Old Ps) (hg : g < Ps.length) : NearK (Ps ++ [[g]]) Ps.length g g :=
  ⟨(RG.new o (one_lt hg)).mpr (.inr ⟨g, List.mem_singleton.mpr rfl, .self⟩), .self, fun k _ h => h.le (o.app (one_lt hg))⟩
theorem road_new (o : Old Ps) (hg : g < Ps.length) : ∀ {x : Nat} {r : List Nat}, Road (Ps ++ [[g]]) Ps.length x r → (x = Ps.length ∧ r = [Ps.length]) ∨ (x = g ∧ r = [g, Ps.length]) ∨ x < g := fun {x r} h => by
  induction h with
  | one => exact .inl ⟨rfl, rfl⟩
  | @more k p r hr hp ih =>
    rcases ih with ⟨e1, e2⟩ | ⟨e1, e2⟩ | e1
    · subst e1
      rw [par_new] at hp
      have := List.mem_singleton.mp hp
      subst this
      exact .inr (.inl ⟨rfl, by rw [e2]⟩)
    · rw [e1, par_app hg] at hp
      exact .inr (.inr (o _ _ hp))
    · rw [par_app (by omega)] at hp
      have := o _ _ hp
      exact .inr (.inr (by omega))
theorem road_two (o : Old Ps) (hg : g < Ps.length) {r : List Nat} (h : Road (Ps ++ [[g]]) Ps.length g r) : r = [g, Ps.length] := by
  rcases road_new o hg h with ⟨e, _⟩ | ⟨_, e⟩ | e
  · omega
  · exact e
  · omega
theorem no_up (o : Old Ps) (hg : g < Ps.length) : ¬ RG (Ps ++ [[g]]) 0 g Ps.length := fun h => by
  have := h.le (o.app (one_lt hg))
  omega
theorem tree_app {Gs : List Tr} {G' : Tr} {k : Nat} (h : k < Gs.length) : treeOf (Gs ++ [G']) k = treeOf Gs k := by unfold treeOf; rw [List.getElem?_append_left h]
theorem tree_new (Gs : List Tr) (G' : Tr) : treeOf (Gs ++ [G']) Gs.length = G' := by unfold treeOf; rw [List.getElem?_append_right (Nat.le_refl _)]; simp
theorem tree_mem {Gs : List Tr} {k : Nat} (h : k < Gs.length) : treeOf Gs k ∈ Gs := by unfold treeOf; rw [List.getElem?_eq_getElem h]; exact List.getElem_mem h
theorem story_new {Gs : List Tr} (o : Old Ps) (r : Root Ps) (hg : g < Ps.length) (lG : Gs.length = Ps.length) {p : Str} (hno : ∀ G ∈ Gs, getV G p = .non) {G' : Tr} (hx : getV G' p ≠ .non) : storyL (Gs ++ [G']) (Ps ++ [[g]]) Ps.length p = [Ps.length] := by
  unfold storyL
  rw [eldL_new o hg, List.filter_append]
  have e1 : (eldL Ps g).filter (storyB (Gs ++ [G']) (Ps ++ [[g]]) p) = [] := List.filter_eq_nil_iff.mpr fun k hk => by
    have hk := ((mem_eldL o hg).mp hk).le o
    unfold storyB
    rcases Nat.eq_zero_or_pos k with h | h
    · rw [decide_eq_false (by omega)]; simp
    · obtain ⟨q, hq⟩ := List.exists_mem_of_ne_nil _ (r k h (by omega))
      have hqk := o k q hq
      rw [par_app (by omega)]
      have : ((par Ps k).filter fun q => decide (getV (treeOf (Gs ++ [G']) q) p = getV (treeOf (Gs ++ [G']) k) p)) ≠ [] := List.ne_nil_of_mem (List.mem_filter.mpr ⟨hq, decide_eq_true (by
        rw [tree_app (by omega), tree_app (by omega), hno _ (tree_mem (by omega)), hno _ (tree_mem (by omega))])⟩)
      cases hf : (par Ps k).filter fun q => decide (getV (treeOf (Gs ++ [G']) q) p = getV (treeOf (Gs ++ [G']) k) p) with
      | nil => exact absurd hf this
      | cons a b => simp
  have e2 : [Ps.length].filter (storyB (Gs ++ [G']) (Ps ++ [[g]]) p) = [Ps.length] := List.filter_eq_self.mpr fun k hk => by
    rw [List.mem_singleton.mp hk]
    unfold storyB
    rw [decide_eq_true (show 0 < Ps.length by omega), par_new]
    have e3 : ([g].filter fun q => decide (getV (treeOf (Gs ++ [G']) q) p = getV (treeOf (Gs ++ [G']) Ps.length) p)) = [] := List.filter_eq_nil_iff.mpr fun q hq => by
      rw [List.mem_singleton.mp hq, decide_eq_true_eq, tree_app (by omega), hno _ (tree_mem (by omega)), ← lG, tree_new]
      exact fun h => hx h.symm
    rw [e3]; rfl
  rw [e1, e2]; rfl
end
end M

/-! ### trees whose paths are out of a known row; joined trees -/
namespace M
open PySem PySem.Spec PyProof.Rows L2
structure Tree0 (U : List Str) (G : Tr) : Prop where
  nd : (keys G).Nodup
  path : ∀ p ∈ keys G, isPathB p = true
  str : ∀ x ∈ G, ∃ z, x.2 = .str z
  sub : ∀ p ∈ keys G, p ∈ U
  clear : Clear G
theorem Tree0.nil {U : List Str} : Tree0 U [] := ⟨List.nodup_nil, fun _ h => absurd h (by simp), fun _ h => absurd h (by simp), fun _ h => absurd h (by simp), Clear.nil⟩
section
variable {U V' : List Str} {G G' A B C P : Tr}
theorem Tree0.ok (t : Tree0 U G) {n : Nat} (hn : U.length ≤ n) : TreeOk n G := ⟨t.nd, t.path, t.str, by
  have := t.nd.length_le_of_subset (l₂ := U) fun p h => t.sub p h
  rw [List.length_map] at this
  omega⟩
theorem Tree0.mono (t : Tree0 U G) (h : ∀ p ∈ U, p ∈ V') : Tree0 V' G := ⟨t.nd, t.path, t.str, fun p hp => h p (t.sub p hp), t.clear⟩
theorem Tree0.done {e : Deed} (t : Tree0 U G) (h : doneR G e = .tree G') : Tree0 (U ++ [e.path]) G' := by
  cases hb : isPathB e.path with
  | false => rw [done_no hb] at h; cases h
  | true =>
    cases e with
    | cut p =>
      rw [done_cut (show isPathB p = true from hb)] at h
      split at h
      · rw [← Told.tree.inj h]
        exact ⟨nd_drop t.nd, fun q hq => t.path q (mem_keys_drop.mp hq).1, fun x hx => t.str x (mem_drop hx), fun q hq => List.mem_append_left _ (t.sub q (mem_keys_drop.mp hq).1), t.clear.drop p⟩
      · cases h
    | put p z =>
      rw [done_put (show isPathB p = true from hb)] at h
      split at h
      · cases h
      · rename_i hh
        have hf : freeB G p = true := by
          rw [hind_free] at hh
          simpa using hh
        rw [← Told.tree.inj h]
        refine ⟨nd_put t.nd, fun q hq => ?_, fun x hx => ?_, fun q hq => ?_, t.clear.put hf⟩
        · rcases mem_keys_put.mp hq with e | hq
          · rw [e]; exact hb
          · exact t.path q hq
        · rcases mem_put hx with e | hx
          · subst e; exact ⟨z, rfl⟩
          · exact t.str x hx.1
        · rcases mem_keys_put.mp hq with e | hq
          · rw [e]; exact List.mem_append_right _ (List.mem_singleton.mpr rfl)
          · exact List.mem_append_left _ (t.sub q hq)
theorem Tree0.fold : ∀ {ds : List Deed} {U : List Str} {G G' : Tr}, Tree0 U G → foldR G ds = .tree G' → Tree0 (U ++ ds.map Deed.path) G'
  | [], U, G, G', t, h => by rw [← Told.tree.inj (show Told.tree G = .tree G' from h)]; exact t.mono fun p hp => List.mem_append_left _ hp
  | e :: r, U, G, G', t, h => by
    cases hd : doneR G e with
    | tree G2 =>
      rw [fold_ok hd] at h
      refine ((t.done hd).fold h).mono fun p hp => ?_
      rw [List.append_assoc] at hp
      exact hp
    | noPath => rw [fold_no (by rw [hd]; intro _ h; cases h), hd] at h; cases h
    | noFile => rw [fold_no (by rw [hd]; intro _ h; cases h), hd] at h; cases h
    | inTheWay => rw [fold_no (by rw [hd]; intro _ h; cases h), hd] at h; cases h
theorem clear_iff {T : Tr} : clearB T = true ↔ Clear T := by
  unfold clearB Clear
  simp only [List.all_eq_true, Bool.not_eq_true']
theorem join_made (h : joinR A B C P = .tree G) : G = madeT A B C P ∧ pickB A B C P = true ∧ leftT A B C P = [] ∧ isTreeB (madeT A B C P) = true := by
  unfold joinR at h
  split at h
  · cases h
  · rename_i h1
    split at h
    · rename_i h2
      cases h
      unfold goodB at h2
      rw [Bool.and_eq_true] at h2
      exact ⟨rfl, by simpa using h1, List.isEmpty_iff.mp h2.1, h2.2⟩
    · cases h
theorem join_of (h1 : pickB A B C P = true) (h2 : leftT A B C P = []) (h3 : isTreeB (madeT A B C P) = true) : joinR A B C P = .tree (madeT A B C P) := by
  have hg : goodB A B C P = true := by unfold goodB; rw [h2, h3]; rfl
  unfold joinR
  rw [if_neg (by rw [h1]; simp), if_pos hg]
theorem stand_opt (tB : Tree0 U B) (tC : Tree0 U C) (hv : ∀ p v, valV P p = some v → OptS v) (p : Str) : OptS (standV A B C P p) := by
  unfold standV
  split
  · rename_i v h; exact hv _ _ h
  · split
    · exact .inl rfl
    · split
      · exact (tC.ok (Nat.le_refl _)).optS p
      · exact (tB.ok (Nat.le_refl _)).optS p
theorem Tree0.made (tA : Tree0 U A) (tB : Tree0 U B) (tC : Tree0 U C) (hv : ∀ p v, valV P p = some v → OptS v) (h : joinR A B C P = .tree G) : Tree0 U G := by
  obtain ⟨rfl, _, _, h3⟩ := join_made h
  rw [isTreeB_iff, Bool.and_eq_true] at h3
  refine ⟨made_nd (nd_allP A B C), fun p hp => (List.all_eq_true.mp h3.1) p hp, fun x hx => ?_, fun p hp => ?_, clear_iff.mp h3.2⟩
  · obtain ⟨p, h, rfl⟩ := List.mem_map.mp hx
    have h2 := (List.mem_filter.mp h).2
    unfold standsB at h2
    rcases stand_opt (A := A) tB tC hv p with e | ⟨z, e⟩
    · rw [e] at h2; simp at h2
    · exact ⟨z, e⟩
  · rw [made_keys] at hp
    rcases mem_allP.mp (List.mem_filter.mp hp).1 with h | h | h
    · exact tA.sub p h
    · exact tB.sub p h
    · exact tC.sub p h
theorem clash_rows_nil : clashesL A B C = [] ↔ clashRows A B C = [] := by
  have p := srtT_perm (clashRows A B C)
  constructor
  · intro h
    have := p.length_eq
    rw [show srtT (clashRows A B C) = [] from h] at this
    exact List.eq_nil_of_length_eq_zero this.symm
  · intro h
    have := p.length_eq
    rw [show (clashRows A B C).length = 0 by rw [h]; rfl] at this
    exact List.eq_nil_of_length_eq_zero this
/-- no clash, no pick: joined -/
theorem join_plain (tA : Tree0 U A) (tB : Tree0 U B) (tC : Tree0 U C) (h : clashesL A B C = []) : joinR A B C [] = .tree (madeT A B C []) := by
  have h := clash_rows_nil.mp h
  unfold clashRows at h
  obtain ⟨h1, h2⟩ := List.append_eq_nil_iff.mp h
  refine join_of rfl (List.map_eq_nil_iff.mp h1) (List.all_eq_true.mpr fun p hp => ?_)
  rw [Bool.and_eq_true]
  refine ⟨made_path (tA.ok (Nat.le_refl _)) (tB.ok (Nat.le_refl _)) (tC.ok (Nat.le_refl _)) hp, List.all_eq_true.mpr fun q hq => ?_⟩
  cases hs : (valV (madeT A B C []) q).isSome with
  | false => rfl
  | true =>
    have : [q, p] ∈ pairsL (madeT A B C []) (keys (madeT A B C [])) := List.mem_flatMap.mpr ⟨p, hp, List.mem_map.mpr ⟨q, List.mem_filter.mpr ⟨hq, hs⟩, rfl⟩⟩
    rw [h2] at this; cases this
theorem plain_clash (h : joinR A B C [] = .tree G) : clashesL A B C = [] := by
  obtain ⟨_, _, h2, h3⟩ := join_made h
  refine clash_rows_nil.mpr ?_
  unfold clashRows
  rw [h2, List.map_nil, List.nil_append]
  refine List.flatMap_eq_nil_iff.mpr fun p hp => ?_
  have := (List.all_eq_true.mp h3) p hp
  rw [Bool.and_eq_true] at this
  refine List.map_eq_nil_iff.mpr (List.filter_eq_nil_iff.mpr fun q hq hs => ?_)
  have := (List.all_eq_true.mp this.2) q hq
  rw [hs] at this; cases this
/-- what stands in the joined tree -/
theorem made_get (p : Str) (h : p ∈ allP A B C) : getV (madeT A B C P) p = standV A B C P p ∧ (valV (madeT A B C P) p).isSome = standsB A B C P p := by
  unfold getV
  rw [made_val (nd_allP A B C)]
  by_cases hs : standsB A B C P p = true
  · rw [if_pos ⟨h, hs⟩, hs]; exact ⟨rfl, rfl⟩
  · rw [if_neg (fun z => hs z.2)]
    have e : standV A B C P p = .non := by
      unfold standsB at hs
      simpa using hs
    exact ⟨by rw [e]; rfl, by rw [Bool.eq_false_iff.mpr hs]; rfl⟩
theorem stand_due {p : Str} (hl : leftT A B C P = []) (h : p ∈ allP A B C) (hp : valV P p = none) :
    (getV B p = getV C p ∨ getV C p = getV A p) ∧ standV A B C P p = getV B p ∨ ¬ (getV B p = getV C p ∨ getV C p = getV A p) ∧ getV B p = getV A p ∧ standV A B C P p = getV C p := by
  have hc : markV (getV A p) (getV B p) (getV C p) ≠ "clash" := fun hc => by
    have : p ∈ leftT A B C P := List.mem_filter.mpr ⟨h, by unfold leftB; rw [hp, decide_eq_true hc]; rfl⟩
    rw [hl] at this; cases this
  rw [stand_line hp hc]
  unfold lineV
  by_cases h1 : getV B p = getV C p
  · exact .inl ⟨.inl h1, if_pos h1⟩
  · rw [if_neg h1]
    by_cases h2 : getV C p = getV A p
    · exact .inl ⟨.inr h2, if_pos h2⟩
    · refine .inr ⟨fun h => h.elim h1 h2, Classical.byContradiction fun h3 => hc (clash_iff.mpr ⟨h1, h3, h2⟩), if_neg h2⟩
end
end M

/-! ### the places of a join as the law's own model has them -/
namespace M
open PySem PySem.Spec PyProof.Rows L2
def genL (f : Str → Bool) (g : Str → V) (ps : List Str) : Tr := (ps.filter f).map fun p => (p, g p)
section
variable {f : Str → Bool} {g : Str → V} {ps : List Str}
theorem gen_keys : keys (genL f g ps) = ps.filter f := by
  unfold genL keys
  rw [List.map_map]
  exact List.map_id _
theorem gen_len : (genL f g ps).length ≤ ps.length := by
  unfold genL
  rw [List.length_map]
  exact List.length_filter_le _ _
theorem gen_next (nd : ps.Nodup) {i : Nat} {z : Str} (h : ps[i]? = some z) : genL f g (ps.take (i + 1)) = if f z = true then putK (genL f g (ps.take i)) z (g z) else genL f g (ps.take i) := by
  have tk : ps.take (i + 1) = ps.take i ++ [z] := by rw [List.take_add_one, h]; rfl
  have hz : z ∉ ps.take i := by
    have := (List.take_sublist (i + 1) ps).nodup nd
    rw [tk] at this
    exact fun hm => (List.nodup_append.mp this).2.2 z hm z (List.mem_singleton.mpr rfl) rfl
  rw [tk]
  cases hs : f z with
  | true =>
    rw [if_pos rfl, put_new]
    · unfold genL
      rw [List.filter_append, List.map_append]
      simp [hs]
    · rw [gen_keys]
      exact fun hm => hz (List.mem_filter.mp hm).1
  | false =>
    rw [if_neg (by simp)]
    unfold genL
    rw [List.filter_append]
    simp [hs]
theorem gen_val (nd : ps.Nodup) {p : Str} (h : p ∈ ps.filter f) : valV (genL f g ps) p = some (g p) :=
  val_of_mem (by rw [gen_keys]; exact nd.filter _) (List.mem_map.mpr ⟨p, h, rfl⟩)
end
def cB (A B C : Tr) (p : Str) : Bool := decide (markV (getV A p) (getV B p) (getV C p) = "clash")
def plL (A B C P : Tr) (ps : List Str) : Tr := genL (cB A B C) (fun p => .bl (!(valV P p).isSome)) ps
def downL (T : Tr) : List Str := (keys T).filter fun p => !freeB T p
/-- what the law's own model says of a join: the paths that hinder it -/
def hindL (A B C P : Tr) : List Str := leftT A B C P ++ srt (downL (madeT A B C P))
section
variable {U : List Str} {A B C P G : Tr}
theorem pl_left : ((keys (plL A B C P (allP A B C))).filter fun p => !(valV P p).isSome) = leftT A B C P := by
  unfold plL
  rw [gen_keys, List.filter_filter]
  rfl
theorem mem_down {T : Tr} {p : Str} : p ∈ downL T ↔ p ∈ keys T ∧ ∃ q ∈ keys T, beneathB q p = true ∨ beneathB p q = true := by
  unfold downL freeB
  rw [List.mem_filter, Bool.not_eq_true', List.all_eq_false]
  simp only [Bool.not_eq_true, Bool.not_eq_false', Bool.or_eq_true]
theorem down_nil {T : Tr} : downL T = [] ↔ Clear T := by
  rw [List.eq_nil_iff_forall_not_mem]
  simp only [mem_down]
  constructor
  · intro h a ha b hb
    cases hx : beneathB b a with
    | false => rfl
    | true => exact absurd ⟨ha, b, hb, .inl hx⟩ (h a)
  · rintro h p ⟨hp, q, hq, e | e⟩
    · rw [h p hp q hq] at e; cases e
    · rw [h q hq p hp] at e; cases e
theorem hind_nil : hindL A B C P = [] ↔ leftT A B C P = [] ∧ Clear (madeT A B C P) := by
  unfold hindL
  rw [List.append_eq_nil_iff, ← down_nil]
  refine and_congr Iff.rfl ⟨fun h => ?_, fun h => by rw [h]; exact List.eq_nil_of_length_eq_zero (by rw [srt_len]; rfl)⟩
  have := (srt_perm (downL (madeT A B C P))).length_eq
  rw [h] at this
  exact List.eq_nil_of_length_eq_zero this.symm
theorem hind_tree {n : Nat} (okA : TreeOk n A) (okB : TreeOk n B) (okC : TreeOk n C) (hp : pickB A B C P = true) (h : hindL A B C P = []) : joinR A B C P = .tree (madeT A B C P) := by
  obtain ⟨h1, h2⟩ := hind_nil.mp h
  refine join_of hp h1 ?_
  rw [isTreeB_iff, Bool.and_eq_true]
  exact ⟨List.all_eq_true.mpr fun p hp => made_path okA okB okC hp, clear_iff.mpr h2⟩
theorem hind_clashed (hp : pickB A B C P = true) (h : hindL A B C P ≠ []) : joinR A B C P = .clashed := by
  unfold joinR
  rw [if_neg (by rw [hp]; simp), if_neg]
  intro hg
  unfold goodB at hg
  rw [Bool.and_eq_true, isTreeB_iff, Bool.and_eq_true] at hg
  exact h (hind_nil.mpr ⟨List.isEmpty_iff.mp hg.1, clear_iff.mp hg.2.2⟩)
theorem hind_place {z : Str} (h : z ∈ hindL A B C []) : placeB A B C z = true := by
  unfold placeB
  rw [decide_eq_true_eq, place_rows, List.mem_flatten]
  unfold clashRows
  unfold hindL at h
  rcases List.mem_append.mp h with h | h
  · exact ⟨[z], List.mem_append_left _ (List.mem_map.mpr ⟨z, h, rfl⟩), List.mem_singleton.mpr rfl⟩
  · obtain ⟨hz, q, hq, e | e⟩ := mem_down.mp (mem_srt.mp h)
    · refine ⟨[z, q], List.mem_append_right _ (List.mem_flatMap.mpr ⟨q, hq, List.mem_map.mpr ⟨z, List.mem_filter.mpr ⟨(mem_above q z).mpr e, ?_⟩, rfl⟩⟩), by simp⟩
      rw [val_some]; exact decide_eq_true hz
    · refine ⟨[q, z], List.mem_append_right _ (List.mem_flatMap.mpr ⟨z, hz, List.mem_map.mpr ⟨q, List.mem_filter.mpr ⟨(mem_above z q).mpr e, ?_⟩, rfl⟩⟩), by simp⟩
      rw [val_some]; exact decide_eq_true hq
theorem pick_of (h : ∀ p ∈ keys P, p ∈ hindL A B C []) : pickB A B C P = true := List.all_eq_true.mpr fun p hp => hind_place (h p hp)
theorem place_in {z : Str} (h : placeB A B C z = true) : z ∈ allP A B C := by
  have mk : ∀ p ∈ keys (madeT A B C []), p ∈ allP A B C := fun p hp => by
    rw [made_keys] at hp
    exact (List.mem_filter.mp hp).1
  unfold placeB at h
  rw [decide_eq_true_eq, place_rows, List.mem_flatten] at h
  obtain ⟨k, hk, hz⟩ := h
  unfold clashRows at hk
  rcases List.mem_append.mp hk with hk | hk
  · obtain ⟨p, hp, rfl⟩ := List.mem_map.mp hk
    rw [List.mem_singleton.mp hz]
    exact (List.mem_filter.mp hp).1
  · obtain ⟨p, hp, hk⟩ := List.mem_flatMap.mp hk
    obtain ⟨q, hq, rfl⟩ := List.mem_map.mp hk
    have hq := (List.mem_filter.mp hq).2
    rw [val_some, decide_eq_true_eq] at hq
    simp only [List.mem_cons, List.mem_nil_iff, or_false] at hz
    rcases hz with rfl | rfl
    · exact mk _ hq
    · exact mk _ hp
theorem pick_no {z : Str} (h : z ∈ keys P) (hz : z ∉ allP A B C) : joinR A B C P = .noClash := by
  have : pickB A B C P = false := by
    refine List.all_eq_false.mpr ⟨z, h, fun e => hz (place_in e)⟩
  unfold joinR
  rw [if_pos this]
end
section
variable {A B C P : Tr} {z : Str}
theorem st_left (h : getV B z = getV C z ∨ getV C z = getV A z) : standV A B C [] z = getV B z ∧ cB A B C z = false := by
  have hc : ¬ markV (getV A z) (getV B z) (getV C z) = "clash" := fun e => by
    obtain ⟨h1, h2, h3⟩ := clash_iff.mp e
    exact h.elim h1 h3
  have ho : ¬ markV (getV A z) (getV B z) (getV C z) = "other" := fun e => by
    obtain ⟨h1, h2⟩ := other_iff.mp e
    exact h.elim h1 fun e => h1 (h2.trans e.symm)
  exact ⟨by rw [stand_no (P := []) rfl, if_neg hc, if_neg ho], decide_eq_false hc⟩
theorem st_right (h1 : getV B z ≠ getV C z) (h : getV B z = getV A z) : standV A B C [] z = getV C z ∧ cB A B C z = false := by
  have hc : ¬ markV (getV A z) (getV B z) (getV C z) = "clash" := fun e => (clash_iff.mp e).2.1 h
  exact ⟨by rw [stand_no (P := []) rfl, if_neg hc, if_pos (other_iff.mpr ⟨h1, h⟩)], decide_eq_false hc⟩
theorem st_clash (h1 : getV B z ≠ getV C z) (h2 : getV C z ≠ getV A z) (h3 : getV B z ≠ getV A z) : standV A B C [] z = .non ∧ cB A B C z = true := by
  have hc : markV (getV A z) (getV B z) (getV C z) = "clash" := clash_iff.mpr ⟨h1, h3, h2⟩
  exact ⟨by rw [stand_no (P := []) rfl, if_pos hc], decide_eq_true hc⟩
theorem st_pick : standV A B C P z = (valV P z).getD (standV A B C [] z) := by
  cases h : valV P z with
  | some v => rw [stand_yes h]; rfl
  | none => rw [stand_no h, stand_no (P := []) rfl]; rfl
end
end M

/-! ### the tree of the files topsj/x, made by a row of puts -/
namespace M
open PySem PySem.Spec PyProof.Rows L2
abbrev topX (j : Nat) : Str := topsN j ++ "/x"
theorem topX_47 (j : Nat) : 47 ∈ cl (topX j) := by
  rw [cl_app, show cl ("/x" : Str) = [47, 120] by decide +kernel]; simp
theorem topsN_num : ∀ i : Fin 200, ((cl (topsN i.val)).drop 4).foldl (fun a c => a * 10 + (c - 48)) 0 = i.val := by decide +kernel
theorem topX_inj {i j : Nat} (hi : i < 200) (hj : j < 200) (h : topX i = topX j) : i = j := by
  have h1 : cl (topsN i) = cl (topsN j) := by
    have e := congrArg cl h
    rw [cl_app, cl_app] at e
    exact List.append_cancel_right e
  have a := topsN_num ⟨i, hi⟩
  have b := topsN_num ⟨j, hj⟩
  rw [show cl (topsN (⟨i, hi⟩ : Fin 200).val) = cl (topsN j) from h1] at a
  exact a.symm.trans b
structure TopT (n : Nat) (G : Tr) : Prop where
  ks : keys G = (List.range n).map topX
  str : ∀ x ∈ G, ∃ z, x.2 = .str z
section
variable {n : Nat} {G A : Tr}
theorem TopT.snoc (h : TopT (n + 1) G) : ∃ A z, G = A ++ [(topX n, V.str z)] ∧ TopT n A := by
  have hl : G.length = n + 1 := by
    have := congrArg List.length h.ks
    simpa using this
  have hne : G ≠ [] := by
    intro e
    rw [e] at hl
    cases hl
  obtain ⟨z, hz⟩ := h.str _ (List.getLast_mem hne)
  have e := List.dropLast_concat_getLast hne
  have hk : (G.dropLast ++ [G.getLast hne]).map (·.1) = (List.range (n + 1)).map topX := by rw [e]; exact h.ks
  rw [List.map_append, List.range_succ, List.map_append] at hk
  obtain ⟨k1, k2⟩ := List.append_inj' hk rfl
  have k3 : (G.getLast hne).1 = topX n := (List.cons.inj k2).1
  refine ⟨G.dropLast, z, ?_, k1, fun x hx => h.str x ((List.dropLast_sublist G).subset hx)⟩
  rw [← hz, ← k3]
  exact e.symm
theorem TopT.not_mem (h : TopT n A) (hn : n < 200) : topX n ∉ keys A := by
  rw [h.ks]
  intro hm
  obtain ⟨i, hi, e⟩ := List.mem_map.mp hm
  have hi := List.mem_range.mp hi
  have := topX_inj (by omega) hn e
  omega
theorem TopT.newT (h : TopT n A) (hn : n ≤ 200) : NewT n A := fun q hq => by
  rw [h.ks] at hq
  obtain ⟨i, hi, e⟩ := List.mem_map.mp hq
  have hi := List.mem_range.mp hi
  exact .inr ⟨⟨i, by omega⟩, hi, e.symm⟩
theorem TopT.free (h : TopT n A) (hn : n < 200) : freeB A (topX n) = true := topsx_free ⟨n, hn⟩ rfl (h.newT (by omega)) (fun hm => by
  rw [h.ks] at hm
  obtain ⟨i, hi, e⟩ := List.mem_map.mp hm
  have : 47 ∈ cl (topsN n) := by rw [← e]; exact topX_47 i
  exact tops_ne (a := 0) (i := ⟨n, hn⟩) this)
theorem TopT.nil (h : TopT 0 G) : G = [] := List.map_eq_nil_iff.mp h.ks
theorem TopT.merge : ∀ {n : Nat} {G : Tr}, n ≤ 200 → TopT n G → mergeK [] (kvs G) = kvs G
  | 0, G, _, h => by rw [h.nil]; rfl
  | n + 1, G, hn, h => by
    obtain ⟨A, z, rfl, hA⟩ := h.snoc
    have ih := TopT.merge (by omega) hA
    have e : kvs (A ++ [(topX n, V.str z)]) = kvs A ++ [(.inr (topX n), V.str z)] := by unfold kvs; rw [List.map_append]; rfl
    unfold mergeK at ih ⊢
    rw [e, List.foldl_append, ih, ← e]
    show putK (kvs A) (.inr (topX n)) (V.str z) = _
    rw [kvs_put, put_new (hA.not_mem (by omega))]
def dOf (x : Str × V) : Deed := .put x.1 (txtV (some x.2))
theorem TopT.fold : ∀ {n : Nat} {G : Tr}, n ≤ 200 → TopT n G → foldR [] (G.map dOf) = .tree G
  | 0, G, _, h => by rw [h.nil]; rfl
  | n + 1, G, hn, h => by
    obtain ⟨A, z, rfl, hA⟩ := h.snoc
    have ih := TopT.fold (by omega) hA
    rw [List.map_append, fold_app _ _ _ _ ih]
    have e : doneR A (dOf (topX n, V.str z)) = .tree (A ++ [(topX n, V.str z)]) := by
      show doneR A (.put (topX n) z) = _
      rw [done_put (topsx_ok ⟨n, by omega⟩), hind_free, hA.free (by omega), if_neg (by simp), put_new (hA.not_mem (by omega))]
    show foldR A [dOf (topX n, V.str z)] = _
    rw [fold_ok e]; rfl
theorem TopT.tree (hn : n ≤ 200) (h : TopT n G) : Tree0 (keys G) G := by
  have t := Tree0.fold (U := []) Tree0.nil (h.fold hn)
  refine t.mono fun p hp => ?_
  rw [List.nil_append, List.map_map] at hp
  exact hp
theorem TopT.deeds (hn : n ≤ 200) (h : TopT n G) : (keys G).map (fun p => Deed.put p (txt G p)) = G.map dOf := by
  rw [List.map_map]
  refine List.map_congr_left fun x hx => ?_
  show Deed.put x.1 (txtV (valV G x.1)) = Deed.put x.1 (txtV (some x.2))
  rw [val_of_mem (h.tree hn).nd hx]
theorem TopT.bad (hn : n ≤ 200) (h : TopT n G) : badP ∉ keys G := fun hm => by
  rw [h.ks] at hm
  obtain ⟨i, hi, e⟩ := List.mem_map.mp hm
  have hi := List.mem_range.mp hi
  exact topsX ⟨i, by omega⟩ e
theorem TopT.len (h : TopT n G) : (keys G).length = n := by rw [h.ks, List.length_map, List.length_range]
end
/-- a new pair: the j-th path and a text -/
def TopR (D : Addr) : Hp → V → V → Prop := fun H x y => ∃ (t : Addr) (j : Nat) (z : Str), x = V.int (0 + (j : Int)) ∧ y = .ref t ∧ t ≠ D ∧ H t = some (.tup [.str (topX j), .str z])
theorem TopR.mono {D : Addr} (H H' : Hp) (x y : V) (h : ∀ b o, b ≠ D → H b = some o → H' b = some o) (r : TopR D H x y) : TopR D H' x y := by
  obtain ⟨t, j, z, ex, e, n, q⟩ := r
  exact ⟨t, j, z, ex, e, n, h _ _ n q⟩
theorem TopR.row {K : PySem.W.Frag} {D : Addr} {H : Hp} : ∀ {js : List Nat} {ys : List V}, Paired (TopR D H) (js.map fun i : Nat => V.int (0 + (i : Int))) ys →
    ∃ (ts : List Addr) (G : Tr), ys = ts.map V.ref ∧ Paired (fun p (kv : Key × V) => SqT K H p [kV kv.1, kv.2]) ts (kvs G) ∧ keys G = js.map topX ∧ ∀ x ∈ G, ∃ z, x.2 = .str z
  | [], ys, h => by cases h; exact ⟨[], [], rfl, .nil, rfl, fun _ h => absurd h (by simp)⟩
  | i :: js, ys, h => by
    rw [List.map_cons] at h
    cases h with
    | cons a t =>
      obtain ⟨p, j, z, ex, ey, n, q⟩ := a
      have ej : i = j := by
        have := V.int.inj ex
        omega
      subst ej
      obtain ⟨ts, G, e1, e2, e3, e4⟩ := TopR.row t
      refine ⟨p :: ts, (topX i, .str z) :: G, by rw [ey, e1]; rfl, .cons (SqT.of q) e2, congrArg (topX i :: ·) e3, fun x hx => ?_⟩
      rcases List.mem_cons.mp hx with e | hx
      · rw [e]; exact ⟨z, rfl⟩
      · exact e4 x hx
end M

/-! short rows for the readings -/
set_option hygiene false in
local macro_rules | `(tactic| walk_at "len") => `(tactic| (intro vs H Q E h; first | (obtain ⟨rfl, _⟩ := h; rfl) | (obtain ⟨_, rfl, _⟩ := h; rfl) | (obtain ⟨_, _, rfl, _⟩ := h; rfl) | (obtain ⟨_, _, _, rfl, _⟩ := h; rfl) | (obtain ⟨_, _, _, _, rfl, _⟩ := h; rfl) | (obtain ⟨_, _, _, _, _, rfl, _⟩ := h; rfl) | (obtain ⟨_, _, _, _, _, _, rfl, _⟩ := h; rfl) | (obtain ⟨_, _, _, _, _, _, _, rfl, _⟩ := h; rfl) | (obtain ⟨_, _, _, _, _, _, _, _, rfl, _⟩ := h; rfl) | (obtain ⟨_, _, _, _, _, _, _, _, _, rfl, _⟩ := h; rfl) | (obtain ⟨_, _, _, _, _, _, _, _, _, _, rfl, _⟩ := h; rfl) | (obtain ⟨_, _, _, _, _, _, _, _, _, _, _, rfl, _⟩ := h; rfl) | (obtain ⟨_, _, _, _, _, _, _, _, _, _, _, _, rfl, _⟩ := h; rfl) | (obtain ⟨_, _, _, _, _, _, _, _, _, _, _, _, _, rfl, _⟩ := h; rfl) | (obtain ⟨_, _, _, _, _, _, _, _, _, _, _, _, _, _, rfl, _⟩ := h; rfl) | (obtain ⟨_, _, _, _, _, _, _, _, _, _, _, _, _, _, _, rfl, _⟩ := h; rfl) | (obtain ⟨_, _, _, _, _, _, _, _, _, _, _, _, _, _, _, _, rfl, _⟩ := h; rfl) | (obtain ⟨_, _, _, _, _, _, _, _, _, _, _, _, _, _, _, _, _, rfl, _⟩ := h; rfl)))
-- a list or a tuple that stands
set_option hygiene false in
local macro_rules | `(tactic| walk_at "sq") => `(tactic| first | assumption | exact SqL.of (by assumption) | exact SqT.of (by assumption) | exact Or.inl (by assumption) | exact Or.inr (by assumption) | exact Or.inl (SqL.of (by assumption)) | exact Or.inr (SqT.of (by assumption)) | exact SqL.of upd_same | exact SqT.of upd_same | exact Or.inl (SqL.of upd_same) | exact Or.inr (SqT.of upd_same) | exact Same.seq (Same.new (by assumption)) (by assumption) | exact Or.inl (Same.seq (Same.new (by assumption)) (by assumption)))
set_option hygiene false in
local macro_rules | `(tactic| walk_at "bits") => `(tactic| first | assumption | exact cellZ_bits (by assumption) _ | exact Bits.div (by assumption) (by decide) | exact Bits.div (cellZ_bits (by assumption) _) (by decide) | exact (Bits.small (by omega) (by omega)).mono (by decide))
set_option hygiene false in
local macro_rules | `(tactic| walk_at "mulv") => `(tactic| first
  | exact mul_b (by assumption)
  | exact mul_26 (by assumption)
  | exact mul_sb (by omega) (by omega)
  | exact Bits.mul (Bits.small (by omega) (by omega)) (Bits.small (by omega) (by omega)) (by decide)
  | exact Bits.mul (n := 1048576) (by first | assumption | exact Bits.div (by assumption) (by decide) | exact cellZ_bits (by assumption) _) (Bits.small (by omega) (by omega)) (by decide)
  | exact Bits.mul (m := 1048576) (Bits.small (by omega) (by omega)) (by first | assumption | exact Bits.div (by assumption) (by decide) | exact cellZ_bits (by assumption) _) (by decide))
set_option hygiene false in
local macro_rules | `(tactic| walk_at "go") => `(tactic| repeat (first
  | refine ⟨_, rfl, ?_⟩
  | refine ⟨_, _, rfl, rfl, ⟨by decide, by decide⟩, ?_⟩
  | refine ⟨_, _, rfl, rfl, (by show (0 : Int) < _; first | decide | omega), ?_⟩
  | refine ⟨_, _, rfl, rfl, (by walk_at "mulv"), ?_⟩
  | refine ⟨_, _, rfl, rfl, ?_⟩
  | refine ⟨rfl, ?_⟩
  | refine ⟨_, _, rfl, (show Bits 1048576 _ by walk_at "bits"), (show Bits 1048576 _ by walk_at "bits"), ?_⟩
  | refine iteT ?_
  | refine iteF ?_
  | refine iteSelf ?_
  | refine iteSelfT ?_
  | refine Or.inl ⟨_, rfl, ?_⟩
  | refine Or.inr ⟨_, rfl, ?_⟩
  | refine ⟨⟨_, rfl⟩, ?_⟩
  | refine ⟨_, _, rfl, (show (_ : Prop) by walk_at "sq"), ?_⟩
  | refine ⟨_, _, _, rfl, (show (_ : Prop) by walk_at "sq"), (show (0 : Int) ≤ _ by omega), ?_⟩
  | refine ⟨sl_of (by omega), ?_⟩
  | refine ⟨Or.inl ⟨rfl, _, (show (_ : Prop) by walk_at "sq")⟩, ?_⟩
  | refine ⟨(show -(2 ^ 62 : Int) ≤ _ by omega), (show _ < (2 ^ 62 : Int) by omega), ?_⟩
  | refine ⟨_, _, _, _, true, rfl, .ty _, .base (.bl _), kit_ty (by decide +kernel), ?_⟩
  | refine ⟨_, _, _, _, true, rfl, .ty _, .base (.str _), kit_ty (by decide +kernel), ?_⟩
  | refine ⟨_, _, _, _, true, rfl, .ty _, .base (.int _), kit_ty (by decide +kernel), ?_⟩
  | refine ⟨_, _, _, _, true, rfl, .ty _, .base (.lst (by assumption)), kit_ty (by decide +kernel), ?_⟩
  | refine ⟨_, _, _, _, true, rfl, .ty _, .base (.tup (by assumption)), kit_ty (by decide +kernel), ?_⟩
  | refine ⟨_, _, _, _, true, rfl, .ty _, .base (.dK (by assumption)), kit_ty (by decide +kernel), ?_⟩
  | refine ⟨_, _, _, _, false, rfl, .ty _, .base (.int _), kit_ty (by decide +kernel), ?_⟩
  | refine ⟨by decide, fun p np => ?_⟩
  | refine ⟨sl_of (by simp), fun p np => ?_⟩
  | refine (show ∃ i j, [V.int _, V.int _] = [V.int i, V.int j] ∧ _ from ⟨_, _, rfl, ?_⟩)))
set_option hygiene false in
local macro_rules | `(tactic| walk_at "cv") => `(tactic| (dsimp only [cxOf, Cx.blk, L2H.blkH, Cx.nox, Cx.wish, Cx.tr, Cx.suite, L2.Cx.tr, L2.Cx.suite]; first | done | rfl))

namespace T
open PySem PySem.Spec PyProof.Rows L2 M
def top (i : Nat) : Stmt := PySem.Challenge.pw_threeroad_k11_whole_every_version_stands.main.body.getD i (.Pass ⟨0, 0, 0, 0⟩)
abbrev s_L_sign_by : Stmt := top 32
abbrev sl_L_sign_by : List Str := ["_law_k"]
abbrev ps_L_sign_by : List Str := ["_law_k"]
theorem scL_sign_by : FnScope sl_L_sign_by ps_L_sign_by (defScope s_L_sign_by) := ⟨rfl, rfl, rfl, by decide +kernel, rfl, by decide +kernel, by decide +kernel⟩
abbrev s_is_part : Stmt := top 14
abbrev sl_is_part : List Str := ["part", "sign"]
abbrev ps_is_part : List Str := ["part"]
theorem scis_part : FnScope sl_is_part ps_is_part (defScope s_is_part) := ⟨rfl, rfl, rfl, by decide +kernel, rfl, by decide +kernel, by decide +kernel⟩
abbrev s_is_path : Stmt := top 15
abbrev sl_is_path : List Str := ["text", "parts", "part"]
abbrev ps_is_path : List Str := ["text"]
theorem scis_path : FnScope sl_is_path ps_is_path (defScope s_is_path) := ⟨rfl, rfl, rfl, by decide +kernel, rfl, by decide +kernel, by decide +kernel⟩
abbrev s_above : Stmt := top 16
abbrev sl_above : List Str := ["path", "parts", "many"]
abbrev ps_above : List Str := ["path"]
theorem scabove : FnScope sl_above ps_above (defScope s_above) := ⟨rfl, rfl, rfl, by decide +kernel, rfl, by decide +kernel, by decide +kernel⟩
abbrev s_L_name_by : Stmt := top 33
abbrev sl_L_name_by : List Str := ["_law_k", "_law_shift", "_law_size", "_law_way", "_law_rest", "_law_j", "_law_at", "_law_told", "_law_name"]
abbrev ps_L_name_by : List Str := ["_law_k", "_law_shift"]
theorem scL_name_by : FnScope sl_L_name_by ps_L_name_by (defScope s_L_name_by) := ⟨rfl, rfl, rfl, by decide +kernel, rfl, by decide +kernel, by decide +kernel⟩
abbrev s_L_path_by : Stmt := top 34
abbrev sl_L_path_by : List Str := ["_law_cell", "_law_shift", "_law_depth", "_law_parts", "_law_j"]
abbrev ps_L_path_by : List Str := ["_law_cell", "_law_shift"]
theorem scL_path_by : FnScope sl_L_path_by ps_L_path_by (defScope s_L_path_by) := ⟨rfl, rfl, rfl, by decide +kernel, rfl, by decide +kernel, by decide +kernel⟩
abbrev s_L_line_by : Stmt := top 35
abbrev sl_L_line_by : List Str := ["_law_k", "_law_shift", "_law_some", "_law_size", "_law_j"]
abbrev ps_L_line_by : List Str := ["_law_k", "_law_shift"]
theorem scL_line_by : FnScope sl_L_line_by ps_L_line_by (defScope s_L_line_by) := ⟨rfl, rfl, rfl, by decide +kernel, rfl, by decide +kernel, by decide +kernel⟩
abbrev s_L_is_free : Stmt := top 36
abbrev sl_L_is_free : List Str := ["_law_tree", "_law_path", "_law_other"]
abbrev ps_L_is_free : List Str := ["_law_tree", "_law_path"]
theorem scL_is_free : FnScope sl_L_is_free ps_L_is_free (defScope s_L_is_free) := ⟨rfl, rfl, rfl, by decide +kernel, rfl, by decide +kernel, by decide +kernel⟩
abbrev s_is_tree : Stmt := top 19
abbrev sl_is_tree : List Str := ["files", "path", "folder"]
abbrev ps_is_tree : List Str := ["files"]
theorem scis_tree : FnScope sl_is_tree ps_is_tree (defScope s_is_tree) := ⟨rfl, rfl, rfl, by decide +kernel, rfl, by decide +kernel, by decide +kernel⟩
abbrev s_is_beneath : Stmt := top 17
abbrev sl_is_beneath : List Str := ["path", "upper"]
abbrev ps_is_beneath : List Str := ["path", "upper"]
theorem scis_beneath : FnScope sl_is_beneath ps_is_beneath (defScope s_is_beneath) := ⟨rfl, rfl, rfl, by decide +kernel, rfl, by decide +kernel, by decide +kernel⟩
abbrev s_is_hindered : Stmt := top 20
abbrev sl_is_hindered : List Str := ["tree", "path", "folder", "lower"]
abbrev ps_is_hindered : List Str := ["tree", "path"]
theorem scis_hindered : FnScope sl_is_hindered ps_is_hindered (defScope s_is_hindered) := ⟨rfl, rfl, rfl, by decide +kernel, rfl, by decide +kernel, by decide +kernel⟩
abbrev s_done : Stmt := top 21
abbrev sl_done : List Str := ["tree", "deed", "path", "made"]
abbrev ps_done : List Str := ["tree", "deed"]
theorem scdone : FnScope sl_done ps_done (defScope s_done) := ⟨rfl, rfl, rfl, by decide +kernel, rfl, by decide +kernel, by decide +kernel⟩
abbrev s_changed : Stmt := top 22
abbrev sl_changed : List Str := ["tree", "deeds", "made", "deed"]
abbrev ps_changed : List Str := ["tree", "deeds"]
theorem scchanged : FnScope sl_changed ps_changed (defScope s_changed) := ⟨rfl, rfl, rfl, by decide +kernel, rfl, by decide +kernel, by decide +kernel⟩
abbrev s_L_word_of : Stmt := top 37
abbrev sl_L_word_of : List Str := ["_law_tree", "_law_deeds", "_law_made", "_law_deed"]
abbrev ps_L_word_of : List Str := ["_law_tree", "_law_deeds"]
theorem scL_word_of : FnScope sl_L_word_of ps_L_word_of (defScope s_L_word_of) := ⟨rfl, rfl, rfl, by decide +kernel, rfl, by decide +kernel, by decide +kernel⟩
abbrev s_L_deeds_by : Stmt := top 38
abbrev sl_L_deeds_by : List Str := ["_law_cell", "_law_tree", "_law_shift", "_law_deeds", "_law_many", "_law_j", "_law_mixed", "_law_path", "_law_deed", "_law_behind"]
abbrev ps_L_deeds_by : List Str := ["_law_cell", "_law_tree", "_law_shift"]
theorem scL_deeds_by : FnScope sl_L_deeds_by ps_L_deeds_by (defScope s_L_deeds_by) := ⟨rfl, rfl, rfl, by decide +kernel, rfl, by decide +kernel, by decide +kernel⟩
abbrev s_all_paths : Stmt := top 24
abbrev sl_all_paths : List Str := ["elder", "one", "other"]
abbrev ps_all_paths : List Str := ["elder", "one", "other"]
theorem scall_paths : FnScope sl_all_paths ps_all_paths (defScope s_all_paths) := ⟨rfl, rfl, rfl, by decide +kernel, rfl, by decide +kernel, by decide +kernel⟩
abbrev s_mark : Stmt := top 25
abbrev sl_mark : List Str := ["was", "left", "right"]
abbrev ps_mark : List Str := ["was", "left", "right"]
theorem scmark : FnScope sl_mark ps_mark (defScope s_mark) := ⟨rfl, rfl, rfl, by decide +kernel, rfl, by decide +kernel, by decide +kernel⟩
abbrev s_put_together : Stmt := top 26
abbrev sl_put_together : List Str := ["elder", "one", "other", "picks", "made", "left", "path", "word", "text"]
abbrev ps_put_together : List Str := ["elder", "one", "other", "picks"]
theorem scput_together : FnScope sl_put_together ps_put_together (defScope s_put_together) := ⟨rfl, rfl, rfl, by decide +kernel, rfl, by decide +kernel, by decide +kernel⟩
abbrev s_clashes : Stmt := top 27
abbrev sl_clashes : List Str := ["elder", "one", "other", "made", "left", "found", "path", "folder"]
abbrev ps_clashes : List Str := ["elder", "one", "other"]
theorem scclashes : FnScope sl_clashes ps_clashes (defScope s_clashes) := ⟨rfl, rfl, rfl, by decide +kernel, rfl, by decide +kernel, by decide +kernel⟩
abbrev s_joined : Stmt := top 28
abbrev sl_joined : List Str := ["elder", "one", "other", "picks", "places", "clash", "path", "made", "left"]
abbrev ps_joined : List Str := ["elder", "one", "other", "picks"]
theorem scjoined : FnScope sl_joined ps_joined (defScope s_joined) := ⟨rfl, rfl, rfl, by decide +kernel, rfl, by decide +kernel, by decide +kernel⟩
abbrev s_Book___init__ : Stmt := inClass (top 30) 0
abbrev sl_Book___init__ : List Str := ["self"]
abbrev ps_Book___init__ : List Str := ["self"]
theorem scBook___init__ : FnScope sl_Book___init__ ps_Book___init__ (defScope s_Book___init__) := ⟨rfl, rfl, rfl, by decide +kernel, rfl, by decide +kernel, by decide +kernel⟩
abbrev s_Book_many : Stmt := inClass (top 30) 1
abbrev sl_Book_many : List Str := ["self"]
abbrev ps_Book_many : List Str := ["self"]
theorem scBook_many : FnScope sl_Book_many ps_Book_many (defScope s_Book_many) := ⟨rfl, rfl, rfl, by decide +kernel, rfl, by decide +kernel, by decide +kernel⟩
abbrev s_Book_need : Stmt := inClass (top 30) 2
abbrev sl_Book_need : List Str := ["self", "number"]
abbrev ps_Book_need : List Str := ["self", "number"]
theorem scBook_need : FnScope sl_Book_need ps_Book_need (defScope s_Book_need) := ⟨rfl, rfl, rfl, by decide +kernel, rfl, by decide +kernel, by decide +kernel⟩
abbrev s_Book_parents : Stmt := inClass (top 30) 4
abbrev sl_Book_parents : List Str := ["self", "number"]
abbrev ps_Book_parents : List Str := ["self", "number"]
theorem scBook_parents : FnScope sl_Book_parents ps_Book_parents (defScope s_Book_parents) := ⟨rfl, rfl, rfl, by decide +kernel, rfl, by decide +kernel, by decide +kernel⟩
abbrev s_Book_made : Stmt := inClass (top 30) 5
abbrev sl_Book_made : List Str := ["self", "tree", "parents"]
abbrev ps_Book_made : List Str := ["self", "tree", "parents"]
theorem scBook_made : FnScope sl_Book_made ps_Book_made (defScope s_Book_made) := ⟨rfl, rfl, rfl, by decide +kernel, rfl, by decide +kernel, by decide +kernel⟩
abbrev s_Book_elders : Stmt := inClass (top 30) 7
abbrev sl_Book_elders : List Str := ["self", "number", "known", "later", "parent"]
abbrev ps_Book_elders : List Str := ["self", "number"]
theorem scBook_elders : FnScope sl_Book_elders ps_Book_elders (defScope s_Book_elders) := ⟨rfl, rfl, rfl, by decide +kernel, rfl, by decide +kernel, by decide +kernel⟩
abbrev s_Book_nearest : Stmt := inClass (top 30) 8
abbrev sl_Book_nearest : List Str := ["self", "one", "other", "theirs", "elder"]
abbrev ps_Book_nearest : List Str := ["self", "one", "other"]
theorem scBook_nearest : FnScope sl_Book_nearest ps_Book_nearest (defScope s_Book_nearest) := ⟨rfl, rfl, rfl, by decide +kernel, rfl, by decide +kernel, by decide +kernel⟩
abbrev s_Book_grow : Stmt := inClass (top 30) 6
abbrev sl_Book_grow : List Str := ["self", "parent", "deeds"]
abbrev ps_Book_grow : List Str := ["self", "parent", "deeds"]
theorem scBook_grow : FnScope sl_Book_grow ps_Book_grow (defScope s_Book_grow) := ⟨rfl, rfl, rfl, by decide +kernel, rfl, by decide +kernel, by decide +kernel⟩
abbrev s_Book_merge : Stmt := inClass (top 30) 9
abbrev sl_Book_merge : List Str := ["self", "one", "other", "picks", "elder", "tree"]
abbrev ps_Book_merge : List Str := ["self", "one", "other", "picks"]
theorem scBook_merge : FnScope sl_Book_merge ps_Book_merge (defScope s_Book_merge) := ⟨rfl, rfl, rfl, by decide +kernel, rfl, by decide +kernel, by decide +kernel⟩
abbrev s_Book_tree : Stmt := inClass (top 30) 3
abbrev sl_Book_tree : List Str := ["self", "number"]
abbrev ps_Book_tree : List Str := ["self", "number"]
theorem scBook_tree : FnScope sl_Book_tree ps_Book_tree (defScope s_Book_tree) := ⟨rfl, rfl, rfl, by decide +kernel, rfl, by decide +kernel, by decide +kernel⟩
abbrev s_L_nearest_by : Stmt := top 40
abbrev sl_L_nearest_by : List Str := ["_law_older", "_law_one", "_law_other", "_law_known", "_law_k", "_law_step", "_law_later", "_law_parent"]
abbrev ps_L_nearest_by : List Str := ["_law_older", "_law_one", "_law_other"]
theorem scL_nearest_by : FnScope sl_L_nearest_by ps_L_nearest_by (defScope s_L_nearest_by) := ⟨rfl, rfl, rfl, by decide +kernel, rfl, by decide +kernel, by decide +kernel⟩
abbrev s_L_grew : Stmt := top 41
abbrev sl_L_grew : List Str := ["_law_book", "_law_parent", "_law_deeds", "e", "_law_word"]
abbrev ps_L_grew : List Str := ["_law_book", "_law_parent", "_law_deeds"]
theorem scL_grew : FnScope sl_L_grew ps_L_grew (defScope s_L_grew) := ⟨rfl, rfl, rfl, by decide +kernel, rfl, by decide +kernel, by decide +kernel⟩
abbrev s_L_joined : Stmt := top 42
abbrev sl_L_joined : List Str := ["_law_book", "_law_one", "_law_other", "_law_picks", "e", "_law_word"]
abbrev ps_L_joined : List Str := ["_law_book", "_law_one", "_law_other", "_law_picks"]
theorem scL_joined : FnScope sl_L_joined ps_L_joined (defScope s_L_joined) := ⟨rfl, rfl, rfl, by decide +kernel, rfl, by decide +kernel, by decide +kernel⟩
abbrev s_L_joined_by : Stmt := top 39
abbrev sl_L_joined_by : List Str := ["_law_elder", "_law_one", "_law_other", "_law_picks", "_law_made", "_law_places", "_law_path", "_law_was", "_law_left", "_law_line", "_law_below"]
abbrev ps_L_joined_by : List Str := ["_law_elder", "_law_one", "_law_other", "_law_picks"]
theorem scL_joined_by : FnScope sl_L_joined_by ps_L_joined_by (defScope s_L_joined_by) := ⟨rfl, rfl, rfl, by decide +kernel, rfl, by decide +kernel, by decide +kernel⟩
abbrev s_L_reads : Stmt := top 46
abbrev sl_L_reads : List Str := ["_law_book", "_law_trees", "_law_older", "_law_number", "_law_tree"]
abbrev ps_L_reads : List Str := ["_law_book", "_law_trees", "_law_older", "_law_number"]
theorem scL_reads : FnScope sl_L_reads ps_L_reads (defScope s_L_reads) := ⟨rfl, rfl, rfl, by decide +kernel, rfl, by decide +kernel, by decide +kernel⟩
abbrev s_L_grows : Stmt := top 43
abbrev sl_L_grows : List Str := ["_law_book", "_law_trees", "_law_older", "_law_cell", "_law_shift", "_law_parent", "_law_deeds", "_law_due", "_law_kept", "_law_found"]
abbrev ps_L_grows : List Str := ["_law_book", "_law_trees", "_law_older", "_law_cell", "_law_shift"]
theorem scL_grows : FnScope sl_L_grows ps_L_grows (defScope s_L_grows) := ⟨rfl, rfl, rfl, by decide +kernel, rfl, by decide +kernel, by decide +kernel⟩
abbrev s_L_joins : Stmt := top 44
abbrev sl_L_joins : List Str := ["_law_book", "_law_trees", "_law_older", "_law_cell", "_law_shift", "_law_one", "_law_other", "_law_elder", "_law_picks", "_law_made", "_law_places", "_law_k", "_law_due", "_law_kept", "_law_found"]
abbrev ps_L_joins : List Str := ["_law_book", "_law_trees", "_law_older", "_law_cell", "_law_shift"]
theorem scL_joins : FnScope sl_L_joins ps_L_joins (defScope s_L_joins) := ⟨rfl, rfl, rfl, by decide +kernel, rfl, by decide +kernel, by decide +kernel⟩
abbrev s_L_turn : Stmt := top 45
abbrev sl_L_turn : List Str := ["_law_book", "_law_trees", "_law_older", "_law_cell", "_law_shift", "_law_holds"]
abbrev ps_L_turn : List Str := ["_law_book", "_law_trees", "_law_older", "_law_cell", "_law_shift"]
theorem scL_turn : FnScope sl_L_turn ps_L_turn (defScope s_L_turn) := ⟨rfl, rfl, rfl, by decide +kernel, rfl, by decide +kernel, by decide +kernel⟩
abbrev s_law : Stmt := top 47
abbrev sl_law : List Str := ["_law_script", "_law_shift", "_law_book", "_law_trees", "_law_older", "_law_j", "_law_path", "_law_k", "_law_both", "_law_cell", "_law_one", "_law_other", "_law_many", "_law_number"]
abbrev ps_law : List Str := ["_law_script"]
theorem sclaw : FnScope sl_law ps_law (defScope s_law) := ⟨rfl, rfl, rfl, by decide +kernel, rfl, by decide +kernel, by decide +kernel⟩
structure Txt (K : PySem.W.Frag) (mg : Str → Option Value) (C_Book C_Clashed C_InTheWay C_NoClash C_NoFile C_NoPath C_NoVersion C_RoadError C_SameVersion : Addr) : Prop where
  d_L_sign_by : Def K mg "_law_sign_by" s_L_sign_by ps_L_sign_by
  d_is_part : Def K mg "is_part" s_is_part ps_is_part
  d_is_path : Def K mg "is_path" s_is_path ps_is_path
  d_above : Def K mg "above" s_above ps_above
  d_L_name_by : Def K mg "_law_name_by" s_L_name_by ps_L_name_by
  d_L_path_by : Def K mg "_law_path_by" s_L_path_by ps_L_path_by
  d_L_line_by : Def K mg "_law_line_by" s_L_line_by ps_L_line_by
  d_L_is_free : Def K mg "_law_is_free" s_L_is_free ps_L_is_free
  d_is_tree : Def K mg "is_tree" s_is_tree ps_is_tree
  d_is_beneath : Def K mg "is_beneath" s_is_beneath ps_is_beneath
  d_is_hindered : Def K mg "is_hindered" s_is_hindered ps_is_hindered
  d_done : Def K mg "done" s_done ps_done
  d_changed : Def K mg "changed" s_changed ps_changed
  d_L_word_of : Def K mg "_law_word_of" s_L_word_of ps_L_word_of
  d_L_deeds_by : Def K mg "_law_deeds_by" s_L_deeds_by ps_L_deeds_by
  d_all_paths : Def K mg "all_paths" s_all_paths ps_all_paths
  d_mark : Def K mg "mark" s_mark ps_mark
  d_put_together : Def K mg "put_together" s_put_together ps_put_together
  d_clashes : Def K mg "clashes" s_clashes ps_clashes
  d_joined : Def K mg "joined" s_joined ps_joined
  d_Book___init__ : MDef K C_Book "__init__" "Book.__init__" s_Book___init__ ps_Book___init__
  d_Book_many : MDef K C_Book "many" "Book.many" s_Book_many ps_Book_many
  d_Book_need : MDef K C_Book "need" "Book.need" s_Book_need ps_Book_need
  d_Book_parents : MDef K C_Book "parents" "Book.parents" s_Book_parents ps_Book_parents
  d_Book_made : MDef K C_Book "made" "Book.made" s_Book_made ps_Book_made
  d_Book_elders : MDef K C_Book "elders" "Book.elders" s_Book_elders ps_Book_elders
  d_Book_nearest : MDef K C_Book "nearest" "Book.nearest" s_Book_nearest ps_Book_nearest
  d_Book_grow : MDef K C_Book "grow" "Book.grow" s_Book_grow ps_Book_grow
  d_Book_merge : MDef K C_Book "merge" "Book.merge" s_Book_merge ps_Book_merge
  d_Book_tree : MDef K C_Book "tree" "Book.tree" s_Book_tree ps_Book_tree
  d_L_nearest_by : Def K mg "_law_nearest_by" s_L_nearest_by ps_L_nearest_by
  d_L_grew : Def K mg "_law_grew" s_L_grew ps_L_grew
  d_L_joined : Def K mg "_law_joined" s_L_joined ps_L_joined
  d_L_joined_by : Def K mg "_law_joined_by" s_L_joined_by ps_L_joined_by
  d_L_reads : Def K mg "_law_reads" s_L_reads ps_L_reads
  d_L_grows : Def K mg "_law_grows" s_L_grows ps_L_grows
  d_L_joins : Def K mg "_law_joins" s_L_joins ps_L_joins
  d_L_turn : Def K mg "_law_turn" s_L_turn ps_L_turn
  d_law : Def K mg "law" s_law ps_law
  n_all : mg "all" = none
  n_any : mg "any" = none
  n_bool : mg "bool" = none
  n_dict : mg "dict" = none
  n_int : mg "int" = none
  n_isinstance : mg "isinstance" = none
  n_len : mg "len" = none
  n_list : mg "list" = none
  n_max : mg "max" = none
  n_min : mg "min" = none
  n_range : mg "range" = none
  n_set : mg "set" = none
  n_sorted : mg "sorted" = none
  n_str : mg "str" = none
  c_MOST_PARTS : ∃ t, mg "MOST_PARTS" = some (.int 8 t)
  c_MOST_SIGNS : ∃ t, mg "MOST_SIGNS" = some (.int 12 t)
  c_SIGNS : ∃ t, mg "SIGNS" = some (.str "abcdefghijklmnopqrstuvwxyzABCDEFGHIJKLMNOPQRSTUVWXYZ0123456789.-_" t)
  cl_Book : Cls K C_Book
  a_trees : NoAttr K C_Book "trees"
  a_older : NoAttr K C_Book "older"
  g_Book : mg "Book" = some (.ref C_Book)
  mk_Book : MkB K C_Book
  x_Clashed : XCls K mg "Clashed" C_Clashed
  x_InTheWay : XCls K mg "InTheWay" C_InTheWay
  x_NoClash : XCls K mg "NoClash" C_NoClash
  x_NoFile : XCls K mg "NoFile" C_NoFile
  x_NoPath : XCls K mg "NoPath" C_NoPath
  x_NoVersion : XCls K mg "NoVersion" C_NoVersion
  x_RoadError : XCls K mg "RoadError" C_RoadError
  x_SameVersion : XCls K mg "SameVersion" C_SameVersion
  e_NoPath : ExcC K C_NoPath
  m_NoPath_RoadError : PySem.W.exmOne K (.ref C_NoPath) (.ref C_RoadError) = some true
  q_NoPath_NoPath : PySem.W.kitOne K (.ref C_NoPath) (.ref C_NoPath) = some true
  q_NoPath_NoFile : PySem.W.kitOne K (.ref C_NoPath) (.ref C_NoFile) = some false
  q_NoPath_InTheWay : PySem.W.kitOne K (.ref C_NoPath) (.ref C_InTheWay) = some false
  q_NoPath_SameVersion : PySem.W.kitOne K (.ref C_NoPath) (.ref C_SameVersion) = some false
  q_NoPath_NoClash : PySem.W.kitOne K (.ref C_NoPath) (.ref C_NoClash) = some false
  q_NoPath_Clashed : PySem.W.kitOne K (.ref C_NoPath) (.ref C_Clashed) = some false
  e_NoFile : ExcC K C_NoFile
  m_NoFile_RoadError : PySem.W.exmOne K (.ref C_NoFile) (.ref C_RoadError) = some true
  q_NoFile_NoPath : PySem.W.kitOne K (.ref C_NoFile) (.ref C_NoPath) = some false
  q_NoFile_NoFile : PySem.W.kitOne K (.ref C_NoFile) (.ref C_NoFile) = some true
  q_NoFile_InTheWay : PySem.W.kitOne K (.ref C_NoFile) (.ref C_InTheWay) = some false
  q_NoFile_SameVersion : PySem.W.kitOne K (.ref C_NoFile) (.ref C_SameVersion) = some false
  q_NoFile_NoClash : PySem.W.kitOne K (.ref C_NoFile) (.ref C_NoClash) = some false
  q_NoFile_Clashed : PySem.W.kitOne K (.ref C_NoFile) (.ref C_Clashed) = some false
  e_InTheWay : ExcC K C_InTheWay
  m_InTheWay_RoadError : PySem.W.exmOne K (.ref C_InTheWay) (.ref C_RoadError) = some true
  q_InTheWay_NoPath : PySem.W.kitOne K (.ref C_InTheWay) (.ref C_NoPath) = some false
  q_InTheWay_NoFile : PySem.W.kitOne K (.ref C_InTheWay) (.ref C_NoFile) = some false
  q_InTheWay_InTheWay : PySem.W.kitOne K (.ref C_InTheWay) (.ref C_InTheWay) = some true
  q_InTheWay_SameVersion : PySem.W.kitOne K (.ref C_InTheWay) (.ref C_SameVersion) = some false
  q_InTheWay_NoClash : PySem.W.kitOne K (.ref C_InTheWay) (.ref C_NoClash) = some false
  q_InTheWay_Clashed : PySem.W.kitOne K (.ref C_InTheWay) (.ref C_Clashed) = some false
  e_NoClash : ExcC K C_NoClash
  m_NoClash_RoadError : PySem.W.exmOne K (.ref C_NoClash) (.ref C_RoadError) = some true
  q_NoClash_NoPath : PySem.W.kitOne K (.ref C_NoClash) (.ref C_NoPath) = some false
  q_NoClash_NoFile : PySem.W.kitOne K (.ref C_NoClash) (.ref C_NoFile) = some false
  q_NoClash_InTheWay : PySem.W.kitOne K (.ref C_NoClash) (.ref C_InTheWay) = some false
  q_NoClash_SameVersion : PySem.W.kitOne K (.ref C_NoClash) (.ref C_SameVersion) = some false
  q_NoClash_NoClash : PySem.W.kitOne K (.ref C_NoClash) (.ref C_NoClash) = some true
  q_NoClash_Clashed : PySem.W.kitOne K (.ref C_NoClash) (.ref C_Clashed) = some false
  e_Clashed : ExcC K C_Clashed
  m_Clashed_RoadError : PySem.W.exmOne K (.ref C_Clashed) (.ref C_RoadError) = some true
  q_Clashed_NoPath : PySem.W.kitOne K (.ref C_Clashed) (.ref C_NoPath) = some false
  q_Clashed_NoFile : PySem.W.kitOne K (.ref C_Clashed) (.ref C_NoFile) = some false
  q_Clashed_InTheWay : PySem.W.kitOne K (.ref C_Clashed) (.ref C_InTheWay) = some false
  q_Clashed_SameVersion : PySem.W.kitOne K (.ref C_Clashed) (.ref C_SameVersion) = some false
  q_Clashed_NoClash : PySem.W.kitOne K (.ref C_Clashed) (.ref C_NoClash) = some false
  q_Clashed_Clashed : PySem.W.kitOne K (.ref C_Clashed) (.ref C_Clashed) = some true
  e_NoVersion : ExcC K C_NoVersion
  m_NoVersion_RoadError : PySem.W.exmOne K (.ref C_NoVersion) (.ref C_RoadError) = some true
  q_NoVersion_NoPath : PySem.W.kitOne K (.ref C_NoVersion) (.ref C_NoPath) = some false
  q_NoVersion_NoFile : PySem.W.kitOne K (.ref C_NoVersion) (.ref C_NoFile) = some false
  q_NoVersion_InTheWay : PySem.W.kitOne K (.ref C_NoVersion) (.ref C_InTheWay) = some false
  q_NoVersion_SameVersion : PySem.W.kitOne K (.ref C_NoVersion) (.ref C_SameVersion) = some false
  q_NoVersion_NoClash : PySem.W.kitOne K (.ref C_NoVersion) (.ref C_NoClash) = some false
  q_NoVersion_Clashed : PySem.W.kitOne K (.ref C_NoVersion) (.ref C_Clashed) = some false
  e_SameVersion : ExcC K C_SameVersion
  m_SameVersion_RoadError : PySem.W.exmOne K (.ref C_SameVersion) (.ref C_RoadError) = some true
  q_SameVersion_NoPath : PySem.W.kitOne K (.ref C_SameVersion) (.ref C_NoPath) = some false
  q_SameVersion_NoFile : PySem.W.kitOne K (.ref C_SameVersion) (.ref C_NoFile) = some false
  q_SameVersion_InTheWay : PySem.W.kitOne K (.ref C_SameVersion) (.ref C_InTheWay) = some false
  q_SameVersion_SameVersion : PySem.W.kitOne K (.ref C_SameVersion) (.ref C_SameVersion) = some true
  q_SameVersion_NoClash : PySem.W.kitOne K (.ref C_SameVersion) (.ref C_NoClash) = some false
  q_SameVersion_Clashed : PySem.W.kitOne K (.ref C_SameVersion) (.ref C_Clashed) = some false
section
variable {P : Program} {w : World} {K : PySem.W.Frag} {mg : Str → Option Value} {base : Heap} {C_Book C_Clashed C_InTheWay C_NoClash C_NoFile C_NoPath C_NoVersion C_RoadError C_SameVersion : Addr}
/-- _law_cell_at: the script's cell, 0 behind its end -/
def spCell (K : PySem.W.Frag) : Sp := fun vs H Q _ => ∃ (a : Addr) (ns : List Int) (k : Int), vs = [.ref a, .int k] ∧ SqL K H a (ns.map V.int) ∧ 0 ≤ k ∧ Q (.int (cellZ ns k)) H
/-- _law_sign_by: a sign of a part -/
def spSign : Sp := fun vs H Q _ => ∃ (k : Int), vs = [.int k] ∧ Q (.str (c1 (sgn k))) H
theorem okL_sign_by (T : Txt K mg C_Book C_Clashed C_InTheWay C_NoClash C_NoFile C_NoPath C_NoVersion C_RoadError C_SameVersion) : Cal P w K mg base CX0 1 "_law_sign_by" ps_L_sign_by (spSign) := by
  have sc := scL_sign_by
  refine T.d_L_sign_by.ok sc (by walk_at "len") (fun f cdv A outer s H vs Q E hr h => ?_)
  have hu := hu_of hr
  obtain ⟨k, rfl, q⟩ := h
  refine ⟨_, PSs.cv (by exact (pss_one (ps_ret (pe_ix ix_str pe_str (pe_op op_mod (pv 0) pe_int) (fun _ _ => rfl))))) (by walk_at "cv"), ?_⟩
  walk_at "go"
  exact ⟨_, _, _, rfl, rfl, by decide +kernel, sgn_at k, q⟩
/-! the program's paths -/
def spPart : Sp := fun vs H Q _ => ∃ (z : Str), vs = [.str z] ∧ z.length ≤ 16777000 ∧ ∀ H', Same H H' → Q (.bl (isPartB z)) H'
def spPath : Sp := fun vs H Q _ => ∃ (z : Str), vs = [.str z] ∧ z.length ≤ 16777000 ∧ ∀ H', Same H H' → Q (.bl (isPathB z)) H'
def spAbove : Sp := fun vs H Q _ => ∃ (z : Str), vs = [.str z] ∧ z.length ≤ 16777000 ∧ ∀ p H', H p = none → Same H H' → H' p = some (.lst ((aboveL z).map V.str)) → Q (.ref p) H'
theorem okis_part (T : Txt K mg C_Book C_Clashed C_InTheWay C_NoClash C_NoFile C_NoPath C_NoVersion C_RoadError C_SameVersion) : Cal P w K mg base CX0 1 "is_part" ps_is_part (spPart) := by
  have sc := scis_part
  refine T.d_is_part.ok sc (by walk_at "len") (fun f cdv A outer s H vs Q E hr h => ?_)
  have hu := hu_of hr
  obtain ⟨z, rfl, hz, q⟩ := h
  refine ⟨_, PSs.cv (by exact (pss_cons (ps_if (PW.pt (pw_or (pt_cmpR op_eq (pv 0) pe_str (nomark _)) (pw_or1 (pt_cmpR op_eq (pv 0) pe_str (nomark _))))) (pss_one (ps_ret pe_bl)) pss_nil)
      (pss_one (ps_ret (pe_and (pe_chain op_le op_le pe_int (pe_callB call_len_str (by rfl) T.n_len (by decide +kernel) (pa_cons (pv 0) pa_nil)) (pe_globI (by rfl) T.c_MOST_SIGNS)) (pe_one (pe_callB (cr_all rfl) (by rfl) T.n_all (by decide +kernel) (pa_cons (pe_lc (own := [("sign", 1)]) (g := gName 1) rfl sc.nd (pi_str (pv 0)) (blkOk_by (N := sl_is_part) (sc := defScope s_is_part) (by decide +kernel)) (fun _ _ _ _ _ => (pg_name (i := 1) sc.nd rfl (by first | exact Or.inl rfl | exact Or.inr rfl))) (fun _ _ _ _ _ => pts_nil) (fun _ _ _ _ _ => PE.cv (by exact (pe_cmpR op_in_sign (pv 1) (pe_globS (by rfl) T.c_SIGNS) (by rfl))) (by walk_at "cv"))) pa_nil)))))))) (by walk_at "cv"), ?_⟩
  walk_at "go"
  refine iteD (fun h1 => ?_) fun h1 => ?_
  · walk_at "go"
    have := q H (Same.refl H)
    rwa [part_no (.inl (V.str.inj h1))] at this
  walk_at "go"
  refine iteD (fun h2 => ?_) fun h2 => ?_
  · walk_at "go"
    have := q H (Same.refl H)
    rwa [part_no (.inr (V.str.inj h2))] at this
  walk_at "go"
  have e := part_yes (z := z) (fun e => h1 (congrArg V.str e)) (fun e => h2 (congrArg V.str e))
  refine iteD (fun h3 => ?_) fun h3 => ?_
  · walk_at "go"
    refine iteD (fun h4 => ?_) fun h4 => ?_
    · walk_at "go"
      intro D hD
      refine lcM (j := 1) wS (by simp) (fun _ _ => trivial) hD (fun v => match v with | .str x => .bl (decide ((cl x).headD 0 ∈ sgns)) | _ => .bl false) (by have := len_cl z; show z.length ≤ _; omega) (fun _ => rfl) (fun x H1 hx e1 Q2 k => ?_) fun H' e' hl => ?_
      · obtain ⟨c, hc, rfl⟩ := List.mem_map.mp hx
        walk_at "go"
        exact k H1 (Same.refl _)
      · refine ⟨D, ((cl z).map fun c => decide (c ∈ sgns)), rfl, SqL.of (by rw [hl, List.map_map, List.map_map]; rfl), ?_⟩
        have := q H' e'
        rw [e, decide_eq_true (show 1 ≤ z.length by omega), decide_eq_true (show z.length ≤ 12 by omega)] at this
        rw [List.all_map]
        exact this
    · walk_at "go"
      have := q H (Same.refl H)
      rwa [e, decide_eq_false (show ¬ z.length ≤ 12 by omega), Bool.and_false, Bool.false_and] at this
  · walk_at "go"
    have := q H (Same.refl H)
    rwa [e, decide_eq_false (show ¬ 1 ≤ z.length by omega), Bool.false_and, Bool.false_and] at this
theorem okis_path (T : Txt K mg C_Book C_Clashed C_InTheWay C_NoClash C_NoFile C_NoPath C_NoVersion C_RoadError C_SameVersion) : Cal P w K mg base CX0 2 "is_path" ps_is_path (spPath) := by
  have sc := scis_path
  refine T.d_is_path.ok sc (by walk_at "len") (fun f cdv A outer s H vs Q E hr h => ?_)
  have hu := hu_of hr
  obtain ⟨z, rfl, hz, q⟩ := h
  refine ⟨_, PSs.cv (by exact (pss_cons (ps_set (i := 1) sc.nd rfl (Or.inl rfl) (pe_split (pv 0) pe_str))
      (pss_one (ps_ret (pe_and (pe_cmpR op_le (pe_callB call_len_seq (by rfl) T.n_len (by decide +kernel) (pa_cons (pv 1) pa_nil)) (pe_globI (by rfl) T.c_MOST_PARTS) (nomark _)) (pe_one (pe_callB (cr_all rfl) (by rfl) T.n_all (by decide +kernel) (pa_cons (pe_lc (own := [("part", 2)]) (g := gName 2) rfl sc.nd (pi_list (pv 1)) (blkOk_by (N := sl_is_path) (sc := defScope s_is_path) (by decide +kernel)) (fun _ _ _ _ _ => (pg_name (i := 2) sc.nd rfl (by first | exact Or.inl rfl | exact Or.inr rfl))) (fun _ _ _ _ _ => pts_nil) (fun _ _ _ _ _ => PE.cv (by exact (pe_calC (okis_part T) (hr.mono (by decide)) (by rfl) pass0 (pa_cons (pv 2) pa_nil))) (by walk_at "cv"))) pa_nil)))))))) (by walk_at "cv"), ?_⟩
  walk_at "go"
  intro p np
  refine new_at np fun H1 e1 h1 => ?_
  walk_at "go"
  rw [List.length_map]
  refine iteD (fun h2 => ?_) fun h2 => ?_
  · walk_at "go"
    refine ⟨⟨_, SqL.of h1⟩, fun D hD => ?_⟩
    refine lcM (j := 2) wL rfl (fun H' e' => e'.seq (SqL.of h1)) hD (fun v => match v with | .str x => .bl (isPartB x) | _ => .bl false) (by rw [List.length_map]; have := parts_many z; show (partsOf z).length ≤ _; omega) (fun _ => rfl) (fun x H2 hx e2 Q2 k => ?_) fun H' e' hl => ?_
    · obtain ⟨c, hc, rfl⟩ := List.mem_map.mp hx
      walk_at "go"
      exact ⟨by have := parts_len hc; omega, k⟩
    · refine ⟨D, (partsOf z).map isPartB, rfl, SqL.of (by rw [hl, map_strs _ isPartB _ fun _ _ => rfl]; rfl), ?_⟩
      have := q H' (e1.trans e')
      rw [isPathB, decide_eq_true (show (partsOf z).length ≤ 8 from by have h2 : ((partsOf z).length : Int) ≤ 8 := h2; omega)] at this
      rw [List.all_map]
      exact this
  · walk_at "go"
    have := q H1 e1
    rwa [isPathB, decide_eq_false (show ¬ (partsOf z).length ≤ 8 from fun x => h2 (by show ((partsOf z).length : Int) ≤ 8; omega)), Bool.false_and] at this
theorem okabove (T : Txt K mg C_Book C_Clashed C_InTheWay C_NoClash C_NoFile C_NoPath C_NoVersion C_RoadError C_SameVersion) : Cal P w K mg base CX0 1 "above" ps_above (spAbove) := by
  have sc := scabove
  refine T.d_above.ok sc (by walk_at "len") (fun f cdv A outer s H vs Q E hr h => ?_)
  have hu := hu_of hr
  obtain ⟨z, rfl, hz, q⟩ := h
  refine ⟨_, PSs.cv (by exact (pss_cons (ps_set (i := 1) sc.nd rfl (Or.inr rfl) (pe_split (pv 0) pe_str))
      (pss_one (ps_ret (pe_lc (own := [("many", 2)]) (g := gName 2) rfl sc.nd (pi_range2 (by rfl) T.n_range (pa_cons pe_int (pa_cons (pe_callB call_len_seq (by rfl) T.n_len (by decide +kernel) (pa_cons (pv 1) pa_nil)) pa_nil))) (blkOk_by (N := sl_above) (sc := defScope s_above) (by decide +kernel)) (fun _ _ _ _ _ => (pg_name (i := 2) sc.nd rfl (by first | exact Or.inl rfl | exact Or.inr rfl))) (fun _ _ _ _ _ => pts_nil) (fun _ _ _ _ _ => PE.cv (by exact (pe_join pe_str (pe_slice sl_list (pv 1) po_none (po_some (pv 2))))) (by walk_at "cv"))))))) (by walk_at "cv"), ?_⟩
  walk_at "go"
  intro p np
  refine new_at np fun H1 e1 h1 => ?_
  walk_at "go"
  rw [List.length_map]
  have hm := parts_many z
  refine ⟨⟨by decide, by decide, (show (-2 ^ 62 : Int) ≤ ((partsOf z).length : Int) by omega), (show ((partsOf z).length : Int) < 2 ^ 62 by omega)⟩, fun D hD => ?_⟩
  refine lcM (j := 2) wR (by rw [List.length_map, List.length_range]) (fun _ _ => trivial) hD (fun v => match v with | .int i => .str (Txt.join slash ((partsOf z).take i.toNat)) | _ => .non) (by show (((partsOf z).length : Int) - 1).toNat ≤ _; omega) (fun _ => rfl) (fun x H2 hx e2 Q2 k => ?_) fun H' e' hl => ?_
  · obtain ⟨i, hi, rfl⟩ := List.mem_map.mp hx
    walk_at "go"
    have hi2 : i < (partsOf z).length - 1 := by
      have := List.mem_range.mp hi
      have : i < (((partsOf z).length : Int) - 1).toNat := this
      omega
    refine ⟨_, _, rfl, SqL.of (e2 _ _ h1), fun s ns => ?_⟩
    rw [cut_take _ (by omega), ← List.map_take]
    refine ⟨_, s, (partsOf z).take ((1 : Int) + (i : Int)).toNat, rfl, rfl, Or.inl (SqL.of upd_same), ?_, ?_⟩
    · exact Nat.le_trans (parts_take_sum z _) (by omega)
    · exact k _ (Same.new ns)
  · refine q D H' ?_ (e1.trans e') ?_
    · exact e1.free hD
    · rw [hl, List.map_map, aboveL, List.map_map]
      refine congrArg (fun l => some (HO.lst l)) ?_
      have e0 : (((Txt.split z "/").map V.str).length : Int) = ((partsOf z).length : Int) := by rw [List.length_map]; rfl
      have e1 : (((partsOf z).length : Int) - 1).toNat = (partsOf z).length - 1 := by omega
      show List.map _ (List.range (((partsOf z).length : Int) - 1).toNat) = _
      rw [e1]
      refine List.map_congr_left fun i _ => ?_
      have ei : ((1 : Int) + (i : Int)).toNat = i + 1 := by omega
      show V.str (Txt.join slash ((partsOf z).take ((1 : Int) + (i : Int)).toNat)) = _
      rw [ei]
      rfl
/-- _law_name_by, _law_path_by, _law_line_by -/
def spName : Sp := fun vs H Q _ => ∃ (k s : Int), vs = [.int k, .int s] ∧ Bits 1048576 k ∧ Bits 1048576 s ∧ ∀ z H', Same H H' → isPartB z = true → NS s z → Q (.str z) H'
theorem okL_name_by (T : Txt K mg C_Book C_Clashed C_InTheWay C_NoClash C_NoFile C_NoPath C_NoVersion C_RoadError C_SameVersion) : Cal P w K mg base CX0 2 "_law_name_by" ps_L_name_by (spName) := by
  have sc := scL_name_by
  refine T.d_L_name_by.ok sc (by walk_at "len") (fun f cdv A outer s H vs Q E hr h => ?_)
  have hu := hu_of hr
  obtain ⟨k, s, rfl, hk, hs, q⟩ := h
  refine ⟨_, PSs.cv (by exact (pss_cons (ps_set (i := 2) sc.nd rfl (Or.inl rfl) pe_int)
      (pss_cons (ps_if (pt_cmpR op_eq (pe_op op_mod (pe_op op_fdiv (pv 1) pe_int) pe_int) pe_int (nomark _)) (pss_one (ps_set (i := 2) sc.nd rfl (Or.inl rfl) (pe_op op_add pe_int (pe_op op_mod (pe_op op_fdiv (pv 1) pe_int) pe_int)))) pss_nil)
      (pss_cons (ps_set (i := 3) sc.nd rfl (Or.inr rfl) (pe_op op_mod (pe_op op_fdiv (pv 1) pe_int) pe_int))
      (pss_cons (ps_setLc (i := 4) rfl sc.nd rfl rfl (sw_true rfl rfl rfl (by decide +kernel)) (pi_range1 (by rfl) T.n_range (pa_cons pe_int pa_nil)) (blkOk_by (own := [("_law_j", 5)]) (N := sl_L_name_by) (sc := defScope s_L_name_by) (by decide +kernel)) (fun _ _ _ _ _ => (pg_name (i := 5) sc.nd rfl (by first | exact Or.inl rfl | exact Or.inr rfl))) (fun _ _ _ _ _ => pts_nil) (fun _ _ _ _ _ => PE.cv (by exact (pe_calC (okL_sign_by T) (hr.mono (by decide)) (by rfl) pass0 (pa_cons (pe_op op_add (pe_op op_add (pe_op op_fdiv (pv 1) pe_int) (pe_op op_mulV pe_int (pv 5))) (pe_op op_mulV (pv 0) (pe_callTy call_int1 (by rfl) T.n_int (by decide +kernel) (pa_cons (pe_cmpR op_eq (pv 3) pe_int (nomark _)) pa_nil)))) pa_nil))) (by walk_at "cv")))
      (pss_cons (ps_set (i := 6) sc.nd rfl (Or.inl rfl) (pe_op op_mulV (pe_op op_mod (pe_op op_fdiv (pv 1) pe_int) (pv 2)) (pe_callTy call_int1 (by rfl) T.n_int (by decide +kernel) (pa_cons (pe_cmpR op_eq (pv 3) pe_int (nomark _)) pa_nil))))
      (pss_cons (ps_set (i := 7) sc.nd rfl (Or.inl rfl) (pe_calC (okL_sign_by T) (hr.mono (by decide)) (by rfl) pass0 (pa_cons (pe_op op_add (pv 1) (pe_op op_mulV (pv 0) (pe_ix ix_list (pe_lst (pa_cons pe_int (pa_cons pe_int pa_nil))) (pe_callTy call_int1 (by rfl) T.n_int (by decide +kernel) (pa_cons (pe_cmpR op_eq (pv 3) pe_int (nomark _)) pa_nil)) (fun _ _ => rfl)))) pa_nil)))
      (pss_cons (ps_set (i := 8) sc.nd rfl (Or.inl rfl) (pe_op op_add_str (pe_op op_add_str (pe_join pe_str (pe_slice sl_list (pv 4) po_none (po_some (pv 6)))) (pv 7)) (pe_join pe_str (pe_slice sl_list (pv 4) (po_some (pv 6)) (po_some (pe_op op_sub (pv 2) pe_int))))))
      (pss_cons (ps_if (pt_cmpR op_eq (pv 3) pe_int (nomark _)) (pss_one (ps_set (i := 8) sc.nd rfl (Or.inl rfl) (pe_join pe_str (pe_slice sl_list (pv 4) po_none (po_some (pe_op op_add pe_int (pe_op op_mod (pe_op op_add (pe_op op_fdiv (pv 1) pe_int) (pv 0)) pe_int))))))) pss_nil)
      (pss_cons (ps_if (PW.pt (pw_or (pt_cmpR op_eq (pv 8) pe_str (nomark _)) (pw_or1 (pt_cmpR op_eq (pv 8) pe_str (nomark _))))) (pss_one (ps_ret pe_str)) pss_nil)
      (pss_one (ps_ret (pv 8))))))))))))) (by walk_at "cv"), ?_⟩
  walk_at "go"
  refine if_join (fun σ H' => H' = H ∧ ∃ (sz : Int), 1 ≤ sz ∧ sz ≤ 12 ∧ sz = szB s ∧ σ = [some (.int k), some (.int s), some (.int sz), none, none, none, none, none, none]) ?_ (fun h N hj => ?_) fun h => ⟨rfl, 1, by decide, by decide, (if_neg fun e => h (congrArg V.int e)).symm, rfl⟩
  · rintro σ H' ⟨rfl, sz, h1, h12, hsz, rfl⟩
    walk_at "go"
    intro D hD
    refine lcM (j := 5) wR (by rw [List.length_map, List.length_range]) (fun _ _ => trivial) hD (fI fun i => V.str (c1 (sgn (s / 195 + 7 * i + k * (if decide (V.int (s / 5 % 4) = V.int 0) = true then 1 else 0))))) (by decide) (fun _ => rfl) (fun x H2 hx e2 Q2 kk => ?_) fun H2 e2 hD2 => ?_
    · obtain ⟨i, hi, rfl⟩ := List.mem_map.mp hx
      have hi := List.mem_range.mp hi
      walk_at "go"
      exact kk _ (Same.refl _)
    obtain ⟨B, hB⟩ : ∃ B, B = s / 195 + k * (if decide (V.int (s / 5 % 4) = V.int 0) = true then 1 else 0) := ⟨_, rfl⟩
    have ez : (List.map (fI fun i => V.str (c1 (sgn (s / 195 + 7 * i + k * (if decide (V.int (s / 5 % 4) = V.int 0) = true then 1 else 0))))) ((List.range (12 - 0 : Int).toNat).map fun i : Nat => V.int (0 + (i : Int)))) = ((restL B).map c1).map V.str := by
      unfold restL
      rw [List.map_map, List.map_map, List.map_map]
      refine List.map_congr_left fun i _ => ?_
      show V.str (c1 (sgn (s / 195 + 7 * (0 + (i : Int)) + k * _))) = V.str (c1 (sgn (B + 7 * (0 + (i : Int)))))
      rw [hB]
      congr 3
      omega
    replace hD2 : H2 D = some (.lst (((restL B).map c1).map V.str)) := by rw [← ez]; exact hD2
    obtain ⟨zs, hzz⟩ : ∃ zs, zs = restL B := ⟨_, rfl⟩
    rw [← hzz] at hD2
    have hzl : zs.length = 12 := by rw [hzz]; exact restL_len B
    have hzs : ∀ c ∈ zs, c ∈ sgns := fun c hc => restL_mem (hzz ▸ hc)
    have ha : 0 ≤ s / 20 % sz ∧ s / 20 % sz < sz := ⟨Int.emod_nonneg _ (by omega), Int.emod_lt_of_pos _ (by omega)⟩
    walk_at "go"
    have e3 := Same.new (o := HO.lst [V.int 1, V.int 26]) np
    have hp3 : upd H2 p (HO.lst [V.int 1, V.int 26]) p = _ := upd_same
    have hD3 := e3 _ _ hD2
    generalize upd H2 p (HO.lst [V.int 1, V.int 26]) = H3 at e3 hp3 hD3 ⊢
    refine ⟨_, _, _, _, rfl, rfl, SqL.of hp3, at2i _, ?_⟩
    walk_at "go"
    obtain ⟨c, hcc⟩ : ∃ c, c = sgn (s + k * (if decide (V.int (s / 5 % 4) = V.int 3) = true then 26 else 1)) := ⟨_, rfl⟩
    have hc : c ∈ sgns := by rw [hcc]; exact sgn_mem _
    rw [← hcc]
    have hm := mul_le (b := decide (V.int (s / 5 % 4) = V.int 1)) ha.1
    walk_at "go"
    intro p4 n4
    have hn : s / 20 % sz * (if decide (V.int (s / 5 % 4) = V.int 1) = true then 1 else 0) = nmAt s sz := rfl
    have hm2 := hm
    rw [hn] at hm
    rw [cut_take _ hm2.1, hn, ← List.map_take, ← List.map_take]
    have e4 := Same.new (o := HO.lst (((zs.take (nmAt s sz).toNat).map c1).map V.str)) n4
    have hp4 : upd H3 p4 (HO.lst (((zs.take (nmAt s sz).toNat).map c1).map V.str)) p4 = _ := upd_same
    have hD4 := e4 _ _ hD3
    refine ⟨_, _, (zs.take (nmAt s sz).toNat).map c1, rfl, rfl, Or.inl (SqL.of hp4), join_room _ (by rw [List.length_take]; omega), ?_⟩
    generalize upd H3 p4 _ = H4 at e4 hp4 hD4 ⊢
    walk_at "go"
    have l1 := glue_len (zs.take (nmAt s sz).toNat)
    rw [List.length_take] at l1
    refine ⟨sl_of (show (Txt.join "" _).length + (c1 c).length ≤ _ by rw [l1, len_c1]; omega), ?_⟩
    walk_at "go"
    intro p5 n5
    rw [cut_mid _ hm2.1 (show s / 20 % sz * (if decide (V.int (s / 5 % 4) = V.int 1) = true then 1 else 0) ≤ sz - 1 by rw [hn]; omega), hn, ← List.map_drop, ← List.map_drop, ← List.map_take, ← List.map_take]
    have e5 := Same.new (o := HO.lst ((((zs.drop (nmAt s sz).toNat).take ((sz - 1).toNat - (nmAt s sz).toNat)).map c1).map V.str)) n5
    have hp5 : upd H4 p5 (HO.lst ((((zs.drop (nmAt s sz).toNat).take ((sz - 1).toNat - (nmAt s sz).toNat)).map c1).map V.str)) p5 = _ := upd_same
    have hD5 := e5 _ _ hD4
    refine ⟨_, _, ((zs.drop (nmAt s sz).toNat).take ((sz - 1).toNat - (nmAt s sz).toNat)).map c1, rfl, rfl, Or.inl (SqL.of hp5), join_room _ (by rw [List.length_take, List.length_drop]; omega), ?_⟩
    generalize upd H4 p5 _ = H5 at e5 hp5 hD5 ⊢
    have l2 := glue_len ((zs.drop (nmAt s sz).toNat).take ((sz - 1).toNat - (nmAt s sz).toNat))
    rw [List.length_take, List.length_drop] at l2
    refine ⟨_, _, rfl, rfl, sl_of (show (Txt.join "" _ ++ c1 c).length + (Txt.join "" _).length ≤ _ by rw [len_app, l1, l2, len_c1]; omega), ?_⟩
    have nm := NameOk.mid (n := nmAt s sz) (sz := sz) hzs hzl hc hm.1 (by omega) h12
    have nt : s / 5 % 4 ≠ 2 → NS s (Txt.join "" ((zs.take (nmAt s sz).toNat).map c1) ++ c1 c ++ Txt.join "" (((zs.drop (nmAt s sz).toNat).take ((sz - 1).toNat - (nmAt s sz).toNat)).map c1)) := ns_mid hzl hm.1 (by omega) h12 hsz
    have hs5 : Same H' H5 := e2.trans (e3.trans (e4.trans e5))
    walk_at "go"
    refine if_join (fun σ H6 => Same H' H6 ∧ ∃ (v4 v6 v7 : Option V) (z : Str), NameOk z ∧ NS s z ∧ σ = [some (.int k), some (.int s), some (.int sz), some (.int (s / 5 % 4)), v4, none, v6, v7, some (.str z)]) ?_ (fun h N hj => ?_) fun h => ⟨hs5, _, _, _, _, nm, nt fun e => h (congrArg V.int e), rfl⟩
    · rintro σ H6 ⟨hs6, v4, v6, v7, z, nm, nt, rfl⟩
      walk_at "go"
      refine iteD (fun hz => ?_) fun hz1 => ?_
      · walk_at "go"
        exact q _ _ hs6 (by decide +kernel) (.inl rfl)
      walk_at "go"
      refine iteD (fun hz => ?_) fun hz2 => ?_
      · walk_at "go"
        exact q _ _ hs6 (by decide +kernel) (.inl rfl)
      walk_at "go"
      exact q _ _ hs6 (nm.part (fun e => hz1 (congrArg V.str e)) fun e => hz2 (congrArg V.str e)) nt
    walk_at "go"
    intro p6 n6
    rw [cut_take _ (show 0 ≤ 1 + (s / 65 + k) % 12 by omega), ← List.map_take, ← List.map_take]
    refine ⟨_, _, (zs.take (1 + (s / 65 + k) % 12).toNat).map c1, rfl, rfl, Or.inl (SqL.of upd_same), join_room _ (by rw [List.length_take]; omega), ?_⟩
    refine hj _ _ ⟨hs5.trans (Same.new n6), _, _, _, _, NameOk.signs (fun c hc => hzs c (List.mem_of_mem_take hc)) (by rw [List.length_take]; omega) (by rw [List.length_take]; omega), (by rw [hzz, show (1 + (s / 65 + k) % 12).toNat = ((s / 65 + k) % 12).toNat + 1 by omega]; exact ns_rest (V.int.inj h) (by rw [hB, V.int.inj h]; simp)), rfl⟩
  · walk_at "go"
    exact hj _ _ ⟨rfl, 1 + s / 195 % 12, by omega, by omega, (if_pos (V.int.inj h)).symm, rfl⟩
theorem topsI {i : Int} (h0 : 0 ≤ i) (h : i < 200) : ∃ j : Fin 200, ("tops" : Str) ++ Str.ofString (toString i) = topsN j.val ∧ (("tops" : Str).length + (Str.ofString (toString i)).length ≤ 20) := by
  obtain ⟨n, rfl⟩ := Int.eq_ofNat_of_zero_le h0
  have e : ((0 : Int) + (n : Int)) = (n : Int) := Int.zero_add _
  refine ⟨⟨n, by omega⟩, ?_, ?_⟩
  · unfold topsN
    show _ = ("tops" : Str) ++ Str.ofString (toString ((0 : Int) + (n : Int)))
    rw [e]
  · have := tops_len ⟨n, by omega⟩
    simp only [e] at this
    exact this
theorem few8 {z : Str} (h : isPathB z = true) : (partsOf z).length ≤ 8 := by
  rw [isPathB, Bool.and_eq_true, decide_eq_true_eq] at h
  exact h.1

def spPathBy : Sp := fun vs H Q _ => ∃ (c s : Int), vs = [.int c, .int s] ∧ Bits 1048576 c ∧ Bits 1048576 s ∧ ∀ z H', Same H H' → PathX z → Q (.str z) H'
theorem okL_path_by (T : Txt K mg C_Book C_Clashed C_InTheWay C_NoClash C_NoFile C_NoPath C_NoVersion C_RoadError C_SameVersion) : Cal P w K mg base CX0 3 "_law_path_by" ps_L_path_by (spPathBy) := by
  have sc := scL_path_by
  refine T.d_L_path_by.ok sc (by walk_at "len") (fun f cdv A outer s H vs Q E hr h => ?_)
  have hu := hu_of hr
  obtain ⟨c, s, rfl, hc, hs, q⟩ := h
  refine ⟨_, PSs.cv (by exact (pss_cons (ps_if (pt_cmpR op_eq (pe_op op_mod (pv 0) pe_int) pe_int (nomark _)) (pss_one (ps_ret (pe_op op_add_str (pe_op op_add_str pe_str (pe_callTy call_str_int (by rfl) T.n_str (by decide +kernel) (pa_cons (pe_op op_mod (pe_op op_fdiv (pv 0) pe_int) pe_int) pa_nil))) pe_str))) pss_nil)
      (pss_cons (ps_set (i := 2) sc.nd rfl (Or.inl rfl) (pe_ix ix_list (pe_lst (pa_cons pe_int (pa_cons pe_int (pa_cons pe_int (pa_cons pe_int (pa_cons pe_int pa_nil)))))) (pe_op op_mod (pv 0) pe_int) (fun _ _ => rfl)))
      (pss_cons (ps_setLc (i := 3) rfl sc.nd rfl rfl (sw_true rfl rfl rfl (by decide +kernel)) (pi_range1 (by rfl) T.n_range (pa_cons (pv 2) pa_nil)) (blkOk_by (own := [("_law_j", 4)]) (N := sl_L_path_by) (sc := defScope s_L_path_by) (by decide +kernel)) (fun _ _ _ _ _ => (pg_name (i := 4) sc.nd rfl (by first | exact Or.inl rfl | exact Or.inr rfl))) (fun _ _ _ _ _ => pts_nil) (fun _ _ _ _ _ => PE.cv (by exact (pe_calC (okL_name_by T) (hr.mono (by decide)) (by rfl) pass0 (pa_cons (pe_op op_mod (pe_op op_fdiv (pe_op op_fdiv (pv 0) pe_int) (pe_ix ix_list (pe_lst (pa_cons pe_int (pa_cons pe_int (pa_cons pe_int pa_nil)))) (pv 4) (fun _ _ => rfl))) pe_int) (pa_cons (pv 1) pa_nil)))) (by walk_at "cv")))
      (pss_cons (ps_if (pt_cmpR op_eq (pe_op op_mod (pv 1) pe_int) pe_int (nomark _)) (pss_cons (ps_set (i := 3) sc.nd rfl (Or.inl rfl) (pe_op op_cat (pe_lc (own := [("_law_j", 4)]) (g := gName 4) rfl sc.nd (pi_range1 (by rfl) T.n_range (pa_cons (pe_op op_add pe_int (pe_op op_mod (pe_op op_fdiv (pv 1) pe_int) pe_int)) pa_nil)) (blkOk_by (N := sl_L_path_by) (sc := defScope s_L_path_by) (by decide +kernel)) (fun _ _ _ _ _ => (pg_name (i := 4) sc.nd rfl (by first | exact Or.inl rfl | exact Or.inr rfl))) (fun _ _ _ _ _ => pts_nil) (fun _ _ _ _ _ => PE.cv (by exact (pe_calC (okL_name_by T) (hr.mono (by decide)) (by rfl) pass0 (pa_cons (pe_op op_add pe_int (pv 4)) (pa_cons (pv 1) pa_nil)))) (by walk_at "cv"))) (pv 3)))
      (pss_one (ps_if (pt_cmpR op_eq (pe_op op_mod (pv 0) pe_int) pe_int (nomark _)) (pss_one (ps_set (i := 3) sc.nd rfl (Or.inl rfl) (pe_slice sl_list (pv 3) po_none (po_some (pe_op op_add pe_int (pe_op op_mod (pe_op op_fdiv (pv 0) pe_int) (pe_callB call_len_seq (by rfl) T.n_len (by decide +kernel) (pa_cons (pv 3) pa_nil)))))))) pss_nil))) pss_nil)
      (pss_one (ps_ret (pe_join pe_str (pv 3))))))))) (by walk_at "cv"), ?_⟩
  walk_at "go"
  refine iteD (fun h4 => ?_) fun h4 => ?_
  · walk_at "go"
    have r0 : 0 ≤ c / 11 % 60 := Int.emod_nonneg _ (by decide)
    obtain ⟨j, ej, lj⟩ := topsI r0 (by omega)
    refine ⟨log_small r0 (by omega), ?_⟩
    refine ⟨_, _, rfl, rfl, sl_of (Nat.le_trans lj (by decide)), ?_⟩
    walk_at "go"
    refine ⟨sl_of (by rw [len_app, show ("/x" : Str).length = 2 by decide +kernel]; omega), ?_⟩
    walk_at "go"
    refine q _ _ (Same.refl _) ?_
    rw [ej]
    exact ⟨topsx_ok j, topsX j⟩
  walk_at "go"
  have e1 := Same.new (o := HO.lst [V.int 1, V.int 1, V.int 2, V.int 2, V.int 3]) np
  have hp1 : upd H p (HO.lst [V.int 1, V.int 1, V.int 2, V.int 2, V.int 3]) p = _ := upd_same
  generalize upd H p (HO.lst [V.int 1, V.int 1, V.int 2, V.int 2, V.int 3]) = H1 at e1 hp1 ⊢
  obtain ⟨d, hd, hm⟩ := at_ints (ns := [1, 1, 2, 2, 3]) (i := c % 5) (by omega) (by show c % 5 < 5; omega)
  have hd3 : 1 ≤ d ∧ d ≤ 3 := by simp at hm; omega
  refine ⟨_, _, _, _, rfl, rfl, SqL.of hp1, hd, ?_⟩
  walk_at "go"
  intro D hD
  refine lcP (j := 4) wR (by rw [List.length_map, List.length_range]) (fun _ _ => trivial) hD (fun _ y => ∃ c, y = V.str c ∧ Nm s c) (by omega) (fun _ => rfl) (fun x H2 hx e2 Q2 kk => ?_) fun ys H2 hp e2 hD2 => ?_
  · obtain ⟨i, hi, rfl⟩ := List.mem_map.mp hx
    have hi := List.mem_range.mp hi
    walk_at "go"
    have e3 := Same.new (o := HO.lst [V.int 1, V.int 3, V.int 9]) np
    have hp3 : upd H2 p (HO.lst [V.int 1, V.int 3, V.int 9]) p = _ := upd_same
    generalize upd H2 p (HO.lst [V.int 1, V.int 3, V.int 9]) = H3 at e3 hp3 ⊢
    obtain ⟨g, hg, hgm⟩ := at_ints (ns := [1, 3, 9]) (i := 0 + (i : Int)) (by omega) (by show 0 + (i : Int) < 3; omega)
    have hg9 : 1 ≤ g ∧ g ≤ 9 := by simp at hgm; omega
    refine ⟨_, _, _, _, rfl, rfl, SqL.of hp3, hg, ?_⟩
    refine ⟨_, _, rfl, rfl, ⟨by omega, by omega⟩, ?_⟩
    walk_at "go"
    exact fun z H' e hz ht => kk _ _ (e3.trans e) ⟨z, rfl, hz, ht⟩
  obtain ⟨ps, rfl, hpl, hps⟩ := strs_all hp
  rw [List.length_map, List.length_range] at hpl
  have hs2 := e1.trans e2
  walk_at "go"
  refine if_join (fun σ H' => Same H H' ∧ ∃ (D : Addr) (bs : List Str) (v4 : Option V), H' D = some (.lst (bs.map V.str)) ∧ 1 ≤ bs.length ∧ bs.length ≤ 8 ∧ (∀ z ∈ bs, Nm s z) ∧ σ = [some (.int c), some (.int s), some (.int d), some (.ref D), v4]) ?_ (fun h N hj => ?_) fun h => ⟨hs2, D, ps, _, hD2, by omega, by omega, hps, rfl⟩
  · rintro σ H3 ⟨e3, D, bs, v4, hD3, h1, h8, hall, rfl⟩
    walk_at "go"
    refine ⟨_, _, bs, rfl, rfl, Or.inl (SqL.of hD3), Nm.room hall h8, ?_⟩
    exact q _ _ e3 (PathX.join (List.length_pos_iff.mp h1) hall h8)
  walk_at "go"
  intro E hE
  refine lcP (j := 4) wR (by rw [List.length_map, List.length_range]) (fun _ _ => trivial) hE (fun _ y => ∃ c, y = V.str c ∧ Nm s c) (by omega) (fun _ => rfl) (fun x H2 hx e2 Q2 kk => ?_) fun ys H3 hp3 e3 hE3 => ?_
  · obtain ⟨i, hi, rfl⟩ := List.mem_map.mp hx
    have hi := List.mem_range.mp hi
    walk_at "go"
    exact fun z H' e hz ht => kk _ _ e ⟨z, rfl, hz, ht⟩
  obtain ⟨as, rfl, hal, has⟩ := strs_all hp3
  rw [List.length_map, List.length_range] at hal
  have hD3 := e3 _ _ hD2
  walk_at "go"
  refine ⟨_, _, _, _, rfl, rfl, hE3, hD3, sl_of (by rw [List.length_map, List.length_map]; omega), fun p4 n4 => ?_⟩
  rw [← List.map_append]
  have e4 := Same.new (o := HO.lst ((as ++ ps).map V.str)) n4
  have hp4 : upd H3 p4 (HO.lst ((as ++ ps).map V.str)) p4 = _ := upd_same
  generalize upd H3 p4 (HO.lst ((as ++ ps).map V.str)) = H4 at e4 hp4 ⊢
  have hs4 := hs2.trans (e3.trans e4)
  have hall : ∀ z ∈ as ++ ps, Nm s z := fun z hz => (List.mem_append.mp hz).elim (has z) (hps z)
  have hlen : (as ++ ps).length ≤ 8 := by rw [List.length_append]; omega
  have hpos : 0 < (as ++ ps).length := by rw [List.length_append]; omega
  generalize as ++ ps = bs at hp4 hall hlen hpos
  walk_at "go"
  refine iteD (fun h => ?_) fun h => ?_
  · walk_at "go"
    rw [List.length_map]
    refine ⟨show (0 : Int) < (bs.length : Int) by omega, ?_⟩
    have hm0 : 0 ≤ c / 13 % (bs.length : Int) := Int.emod_nonneg _ (by omega)
    walk_at "go"
    intro p5 n5
    rw [cut_take _ (show 0 ≤ 1 + c / 13 % (bs.length : Int) by omega), ← List.map_take]
    have h1 : ∀ z ∈ bs.take (1 + c / 13 % (bs.length : Int)).toNat, Nm s z := fun z hz => hall z (List.mem_of_mem_take hz)
    refine hj _ _ ⟨hs4.trans (Same.new n5), p5, _, _, upd_same, ?_, ?_, h1, rfl⟩
    · rw [List.length_take]; omega
    · rw [List.length_take]; omega
  · exact hj _ _ ⟨hs4, p4, bs, _, hp4, hpos, hlen, hall, rfl⟩
def spLineBy : Sp := fun vs H Q _ => ∃ (k s : Int), vs = [.int k, .int s] ∧ Bits 1048576 k ∧ Bits 1048576 s ∧ ∀ z H', Same H H' → z.length ≤ 700 → Q (.str z) H'
theorem okL_line_by (T : Txt K mg C_Book C_Clashed C_InTheWay C_NoClash C_NoFile C_NoPath C_NoVersion C_RoadError C_SameVersion) : Cal P w K mg base CX0 1 "_law_line_by" ps_L_line_by (spLineBy) := by
  have sc := scL_line_by
  refine T.d_L_line_by.ok sc (by walk_at "len") (fun f cdv A outer s H vs Q E hr h => ?_)
  have hu := hu_of hr
  obtain ⟨k, s, rfl, hk, hs, q⟩ := h
  refine ⟨_, PSs.cv (by exact (pss_cons (ps_set (i := 2) sc.nd rfl (Or.inr rfl) pe_str)
      (pss_cons (ps_set (i := 2) sc.nd rfl (Or.inr rfl) (pe_op op_add_str (pv 2) pe_str))
      (pss_cons (ps_set (i := 3) sc.nd rfl (Or.inl rfl) (pe_op op_mod (pv 0) pe_int))
      (pss_cons (ps_if (pt_cmpR op_eq (pv 3) pe_int (nomark _)) (pss_cons (ps_set (i := 3) sc.nd rfl (Or.inl rfl) (pe_op op_add pe_int (pe_op op_mod (pv 1) pe_int)))
      (pss_one (ps_if (pt_cmpR op_eq (pe_op op_mod (pe_op op_fdiv (pv 1) pe_int) pe_int) pe_int (nomark _)) (pss_one (ps_set (i := 3) sc.nd rfl (Or.inl rfl) (pe_op op_add pe_int (pe_op op_mod (pe_op op_fdiv (pv 1) pe_int) pe_int)))) pss_nil))) pss_nil)
      (pss_one (ps_ret (pe_join pe_str (pe_lc (own := [("_law_j", 4)]) (g := gName 4) rfl sc.nd (pi_range1 (by rfl) T.n_range (pa_cons (pv 3) pa_nil)) (blkOk_by (N := sl_L_line_by) (sc := defScope s_L_line_by) (by decide +kernel)) (fun _ _ _ _ _ => (pg_name (i := 4) sc.nd rfl (by first | exact Or.inl rfl | exact Or.inr rfl))) (fun _ _ _ _ _ => pts_nil) (fun _ _ _ _ _ => PE.cv (by exact (pe_ix ix_str (pv 2) (pe_op op_mod (pe_op op_add (pe_op op_add (pv 1) (pe_op op_mulV pe_int (pv 0))) (pv 4)) pe_int) (fun _ _ => rfl))) (by walk_at "cv"))))))))))) (by walk_at "cv"), ?_⟩
  walk_at "go"
  refine ⟨sl_of lineA_len, ?_⟩
  walk_at "go"
  refine if_join (fun σ H6 => Same H H6 ∧ ∃ (a : Int), 0 ≤ a ∧ a ≤ 602 ∧ σ = [some (.int k), some (.int s), some (.str lineS), some (.int a), none]) ?_ (fun h N hj => ?_) fun h => ⟨Same.refl _, k % 4, by omega, by omega, rfl⟩
  · rintro σ H6 ⟨e6, a, h0, h6, rfl⟩
    walk_at "go"
    intro D hD
    refine lcP (j := 4) wR (by rw [List.length_map, List.length_range]) (fun _ _ => trivial) hD (fun _ y => ∃ c, y = V.str (c1 c) ∧ c ∈ cl lineS) (by omega) (fun _ => rfl) (fun x H2 hx e2 Q2 kk => ?_) fun ys H2 hp e2 hD2 => ?_
    · obtain ⟨i, hi, rfl⟩ := List.mem_map.mp hx
      walk_at "go"
      obtain ⟨c, hc, hcm⟩ := line_at (i := (s + 5 * k + (0 + (i : Int))) % 96) (by omega) (by omega)
      exact ⟨_, _, _, rfl, rfl, lineS_small, hc, kk _ _ (Same.refl _) ⟨c, rfl, hcm⟩⟩
    obtain ⟨zs, rfl, hzl, hzs⟩ := signs_of hp
    rw [List.length_map, List.length_range] at hzl
    refine ⟨_, _, zs.map c1, rfl, rfl, Or.inl (SqL.of hD2), join_room _ (by omega), ?_⟩
    exact q _ _ (e6.trans e2) (by show (Txt.join "" (zs.map c1)).length ≤ 700; rw [glue_len]; omega)
  · walk_at "go"
    refine iteD (fun h4 => ?_) fun h4 => ?_
    · walk_at "go"
      exact hj _ _ ⟨Same.refl _, 3 + s / 240 % 600, by omega, by omega, rfl⟩
    · exact hj _ _ ⟨Same.refl _, 3 + s % 60, by omega, by omega, rfl⟩
def spFree : Sp := fun vs H Q _ => ∃ (d : Addr) (G : Tr) (p : Str), vs = [.ref d, .str p] ∧ RdD H d G ∧ (∀ q ∈ keys G, q.length ≤ 16777000) ∧ p.length ≤ 16777000 ∧ ∀ H', Same H H' → Q (.bl (freeB G p)) H'
theorem okL_is_free (T : Txt K mg C_Book C_Clashed C_InTheWay C_NoClash C_NoFile C_NoPath C_NoVersion C_RoadError C_SameVersion) : Cal P w K mg base CX0 1 "_law_is_free" ps_L_is_free (spFree) := by
  have sc := scL_is_free
  refine T.d_L_is_free.ok sc (by walk_at "len") (fun f cdv A outer s H vs Q E hr h => ?_)
  have hu := hu_of hr
  obtain ⟨d, G, p, rfl, hd, hk, hp, q⟩ := h
  refine ⟨_, PSs.cv (by exact (pss_cons (ps_lockO (ps_for PassesOwn.never rfl (pi_keys (pv 0)) (pg_name (i := 2) sc.nd rfl (Or.inl rfl)) (pss_one (ps_if (PW.pt (pw_or (pt_val (pe_m1 PySem.F.slot_str_startswith PySem.F.type_str_startswith mt_startswith (pv 2) (pe_op op_add_str (pv 1) pe_str))) (pw_or1 (pt_val (pe_m1 PySem.F.slot_str_startswith PySem.F.type_str_startswith mt_startswith (pv 1) (pe_op op_add_str (pv 2) pe_str)))))) (pss_one (ps_ret pe_bl)) pss_nil))))
      (pss_one (ps_ret pe_bl)))) (by walk_at "cv"), ?_⟩
  rcases hd with hd | ⟨od, hd⟩
  · refine Or.inl ⟨d, _, hd, trivial, fun od => ?_⟩
    have un : ∀ H', Same (upd H d (.frz od (.dK (kvs G)))) H' → Same H (upd H' d (.dK (kvs G))) := fun H' e => Same.unlock hd e
    have fr : ∀ H', Same (upd H d (.frz od (.dK (kvs G)))) H' → H' d = some (.frz od (.dK (kvs G))) := fun H' e => Same.frz e
    generalize upd H d (.frz od (.dK (kvs G))) = HL at un fr ⊢
    have fr0 := fr HL (Same.refl _)
    walk_at "go"
    refine ⟨d, od, rfl, .inl ⟨kvs G, fr0, ?_⟩⟩
    refine for_it wK (fun i σ H' => Same HL H' ∧ (∃ v2, σ = [some (.ref d), some (.str p), v2]) ∧ ((keys G).take i).all (fun o => !(beneathB o p || beneathB p o)) = true) ⟨Same.refl _, ⟨_, rfl⟩, rfl⟩ (fun i σ H' _ h => fr _ h.1) ?_ ?_
    · rintro i x σ H2 H3 hi ⟨e2, ⟨v2, rfl⟩, ht⟩ ⟨rfl, hx⟩
      rw [kvs_keys, List.getElem?_map] at hx
      obtain ⟨z, hz, rfl⟩ := Option.map_eq_some_iff.mp hx
      have hzl := hk z (List.mem_of_getElem? hz)
      walk_at "go"
      refine ⟨sl_of (by rw [show ("/" : Str).length = 1 from slash_len]; omega), ?_⟩
      walk_at "go"
      have bad : beneathB z p = true ∨ beneathB p z = true → freeB G p = false := fun h => List.all_eq_false.mpr ⟨z, List.mem_of_getElem? hz, by rcases h with h | h <;> rw [h] <;> simp⟩
      refine iteB (fun hb => ?_) fun hb => ?_
      · have hb : beneathB z p = true := hb
        walk_at "go"
        refine ⟨fr _ e2, ?_⟩
        have hq := q _ (un _ e2)
        rwa [bad (.inl hb)] at hq
      have hb : beneathB z p = false := hb
      walk_at "go"
      refine ⟨sl_of (by rw [show ("/" : Str).length = 1 from slash_len]; omega), ?_⟩
      walk_at "go"
      refine iteB (fun hc => ?_) fun hc => ?_
      · have hc : beneathB p z = true := hc
        walk_at "go"
        refine ⟨fr _ e2, ?_⟩
        have hq := q _ (un _ e2)
        rwa [bad (.inr hc)] at hq
      have hc : beneathB p z = false := hc
      refine ⟨e2, ⟨_, rfl⟩, ?_⟩
      rw [all_next hz, ht, hb, hc]; rfl
    · rintro σ H2 ⟨e2, ⟨v2, rfl⟩, ht⟩
      rw [all_kvs] at ht
      refine ⟨fr _ e2, ?_⟩
      walk_at "go"
      have hq := q _ (un _ e2)
      rwa [freeB, ht] at hq

  · refine Or.inr ?_
    have un : ∀ H', Same H H' → Same H H' := fun _ e => e
    have fr : ∀ H', Same H H' → H' d = some (.frz od (.dK (kvs G))) := fun H' e => e _ _ hd
    have fr0 := fr H (Same.refl _)
    walk_at "go"
    refine ⟨d, od, rfl, .inl ⟨kvs G, fr0, ?_⟩⟩
    refine for_it wK (fun i σ H' => Same H H' ∧ (∃ v2, σ = [some (.ref d), some (.str p), v2]) ∧ ((keys G).take i).all (fun o => !(beneathB o p || beneathB p o)) = true) ⟨Same.refl _, ⟨_, rfl⟩, rfl⟩ (fun i σ H' _ h => fr _ h.1) ?_ ?_
    · rintro i x σ H2 H3 hi ⟨e2, ⟨v2, rfl⟩, ht⟩ ⟨rfl, hx⟩
      rw [kvs_keys, List.getElem?_map] at hx
      obtain ⟨z, hz, rfl⟩ := Option.map_eq_some_iff.mp hx
      have hzl := hk z (List.mem_of_getElem? hz)
      walk_at "go"
      refine ⟨sl_of (by rw [show ("/" : Str).length = 1 from slash_len]; omega), ?_⟩
      walk_at "go"
      have bad : beneathB z p = true ∨ beneathB p z = true → freeB G p = false := fun h => List.all_eq_false.mpr ⟨z, List.mem_of_getElem? hz, by rcases h with h | h <;> rw [h] <;> simp⟩
      refine iteB (fun hb => ?_) fun hb => ?_
      · have hb : beneathB z p = true := hb
        walk_at "go"
      
        have hq := q _ (un _ e2)
        rwa [bad (.inl hb)] at hq
      have hb : beneathB z p = false := hb
      walk_at "go"
      refine ⟨sl_of (by rw [show ("/" : Str).length = 1 from slash_len]; omega), ?_⟩
      walk_at "go"
      refine iteB (fun hc => ?_) fun hc => ?_
      · have hc : beneathB p z = true := hc
        walk_at "go"
      
        have hq := q _ (un _ e2)
        rwa [bad (.inr hc)] at hq
      have hc : beneathB p z = false := hc
      refine ⟨e2, ⟨_, rfl⟩, ?_⟩
      rw [all_next hz, ht, hb, hc]; rfl
    · rintro σ H2 ⟨e2, ⟨v2, rfl⟩, ht⟩
      rw [all_kvs] at ht
    
      walk_at "go"
      have hq := q _ (un _ e2)
      rwa [freeB, ht] at hq

def spIsTree : Sp := fun vs H Q _ => ∃ (d : Addr) (G : Tr), vs = [.ref d] ∧ AtD H d G ∧ G.length ≤ 100000 ∧ (∀ p ∈ keys G, p.length ≤ 16777000) ∧ ∀ H', Same H H' → Q (.bl (isTreeB G)) H'
/-- the first i paths are well -/
def treeTo (G : Tr) (i : Nat) : Bool := ((keys G).take i).all fun p => isPathB p && (aboveL p).all fun q => !(valV G q).isSome
theorem treeTo_next {G : Tr} {i : Nat} {p : Str} (h : (keys G)[i]? = some p) : treeTo G (i + 1) = (treeTo G i && (isPathB p && (aboveL p).all fun q => !(valV G q).isSome)) := by
  unfold treeTo
  rw [List.take_add_one, h, List.all_append]
  simp
theorem treeTo_bad {G : Tr} {i : Nat} {p : Str} (h : (keys G)[i]? = some p) (hb : (isPathB p && (aboveL p).all fun q => !(valV G q).isSome) = false) : isTreeB G = false := by
  unfold isTreeB
  refine List.all_eq_false.mpr ⟨p, List.mem_of_getElem? h, by rw [hb]; simp⟩
theorem okis_tree (T : Txt K mg C_Book C_Clashed C_InTheWay C_NoClash C_NoFile C_NoPath C_NoVersion C_RoadError C_SameVersion) : Cal P w K mg base CX0 3 "is_tree" ps_is_tree (spIsTree) := by
  have sc := scis_tree
  refine T.d_is_tree.ok sc (by walk_at "len") (fun f cdv A outer s H vs Q E hr h => ?_)
  have hu := hu_of hr
  obtain ⟨d, G, rfl, hd, hl, hk, q⟩ := h
  refine ⟨_, PSs.cv (by exact (pss_cons (ps_lock (ps_for PassesOwn.never rfl (pi_keys (pv 0)) (pg_name (i := 1) sc.nd rfl (Or.inl rfl)) (pss_cons (ps_if (pt_not (pt_val (pe_calC (okis_path T) (hr.mono (by decide)) (by rfl) pass0 (pa_cons (pv 1) pa_nil)))) (pss_one (ps_ret pe_bl)) pss_nil)
      (pss_one (ps_for PassesOwn.never rfl (pi_list (pe_calC (okabove T) (hr.mono (by decide)) (by rfl) pass0 (pa_cons (pv 1) pa_nil))) (pg_name (i := 2) sc.nd rfl (Or.inl rfl)) (pss_one (ps_if (pt_cmp (pc_din hu (pv 2) (pv 0))) (pss_one (ps_ret pe_bl)) pss_nil)))))))
      (pss_one (ps_ret pe_bl)))) (by walk_at "cv"), ?_⟩
  walk_at "go"
  refine ⟨d, _, hd, trivial, fun od => ?_⟩
  have un : ∀ H', Same (upd H d (.frz od (.dK (kvs G)))) H' → Same H (upd H' d (.dK (kvs G))) := fun H' e => Same.unlock hd e
  have fr : ∀ H', Same (upd H d (.frz od (.dK (kvs G)))) H' → H' d = some (.frz od (.dK (kvs G))) := fun H' e => Same.frz e
  generalize upd H d (.frz od (.dK (kvs G))) = HL at un fr ⊢
  have fr0 := fr HL (Same.refl _)
  walk_at "go"
  refine ⟨d, od, rfl, .inl ⟨kvs G, fr0, ?_⟩⟩
  refine for_it wK (fun i σ H' => Same HL H' ∧ (∃ v1 v2, σ = [some (.ref d), v1, v2]) ∧ treeTo G i = true) ⟨Same.refl _, ⟨_, _, rfl⟩, rfl⟩ (fun i σ H' _ h => fr _ h.1) ?_ ?_
  · rintro i x σ H2 H3 hi ⟨e2, ⟨v1, v2, rfl⟩, ht⟩ ⟨rfl, hx⟩
    rw [kvs_keys, List.getElem?_map] at hx
    rw [kvs_len] at hi
    obtain ⟨p, hp, rfl⟩ := Option.map_eq_some_iff.mp hx
    have hpl := hk p (List.mem_of_getElem? hp)
    walk_at "go"
    refine ⟨hpl, fun H4 e4 => ?_⟩
    have e4 := e2.trans e4
    walk_at "go"
    refine iteBN (fun hb => ?_) fun hb => ?_
    · walk_at "go"
      refine ⟨fr _ e4, ?_⟩
      have hq := q _ (un _ e4)
      rwa [treeTo_bad hp (by rw [hb]; rfl)] at hq
    walk_at "go"
    refine ⟨hpl, fun p5 H5 n5 e5 h5 => ?_⟩
    have e5 := e4.trans e5
    walk_at "go"
    refine ⟨⟨_, SqL.of h5⟩, ?_⟩
    refine for_it wL (fun j σ H' => Same HL H' ∧ H' p5 = some (.lst ((aboveL p).map V.str)) ∧ (∃ v2, σ = [some (.ref d), some (.str p), v2]) ∧ ((aboveL p).take j).all (fun q => !(valV G q).isSome) = true) ⟨e5, h5, ⟨_, rfl⟩, rfl⟩ (fun _ σ H' _ h => SqL.of h.2.1) ?_ ?_
    · rintro j x σ H6 H7 hj ⟨e6, h6, ⟨v2, rfl⟩, ha⟩ ⟨rfl, hx⟩
      rw [List.getElem?_map] at hx
      obtain ⟨z, hz, rfl⟩ := Option.map_eq_some_iff.mp hx
      walk_at "go"
      refine ⟨_, _, rfl, (rd_frz (fr _ e6)).get z, ?_⟩
      walk_at "go"
      refine iteB (fun hv => ?_) fun hv => ?_
      · walk_at "go"
        refine ⟨fr _ e6, ?_⟩
        have hq := q _ (un _ e6)
        rwa [treeTo_bad hp (by rw [hb, Bool.true_and]; exact List.all_eq_false.mpr ⟨z, List.mem_of_getElem? hz, by rw [hv]; simp⟩)] at hq
      · refine ⟨e6, h6, ⟨_, rfl⟩, ?_⟩
        rw [List.take_add_one, hz, List.all_append, ha, Bool.true_and]
        show ((!(valV G z).isSome) && true) = true
        rw [hv]; rfl
    · rintro σ H6 ⟨e6, h6, ⟨v2, rfl⟩, ha⟩
      refine ⟨e6, ⟨_, _, rfl⟩, ?_⟩
      rw [treeTo_next hp, ht, hb]
      rw [List.length_map, List.take_length] at ha
      exact ha
  · rintro σ H2 ⟨e2, ⟨v1, v2, rfl⟩, ht⟩
    rw [kvs_len] at ht
    refine ⟨fr _ e2, ?_⟩
    walk_at "go"
    have hq := q _ (un _ e2)
    have e : isTreeB G = true := by
      unfold treeTo at ht
      rw [show (keys G).take G.length = keys G from List.take_of_length_le (by rw [List.length_map]; exact Nat.le_refl _)] at ht
      exact ht
    rwa [e] at hq
/-- is_beneath -/
def spBeneath : Sp := fun vs H Q _ => ∃ (z u : Str), vs = [.str z, .str u] ∧ u.length ≤ 16777000 ∧ Q (.bl (beneathB z u)) H
theorem okis_beneath (T : Txt K mg C_Book C_Clashed C_InTheWay C_NoClash C_NoFile C_NoPath C_NoVersion C_RoadError C_SameVersion) : Cal P w K mg base CX0 1 "is_beneath" ps_is_beneath (spBeneath) := by
  have sc := scis_beneath
  refine T.d_is_beneath.ok sc (by walk_at "len") (fun f cdv A outer s H vs Q E hr h => ?_)
  have hu := hu_of hr
  obtain ⟨z, u, rfl, hu2, q⟩ := h
  refine ⟨_, PSs.cv (by exact (pss_one (ps_ret (pe_m1 PySem.F.slot_str_startswith PySem.F.type_str_startswith mt_startswith (pv 0) (pe_op op_add_str (pv 1) pe_str))))) (by walk_at "cv"), ?_⟩
  walk_at "go"
  refine ⟨sl_of (show u.length + ("/" : Str).length ≤ _ by rw [show ("/" : Str).length = 1 by decide +kernel]; omega), ?_⟩
  walk_at "go"
  exact q
def spHindered : Sp := fun vs H Q _ => ∃ (d : Addr) (G : Tr) (p : Str), vs = [.ref d, .str p] ∧ AtD H d G ∧ G.length ≤ 100000 ∧ p.length ≤ 16777000 ∧ ∀ H', Same H H' → Q (.bl (hindB G p)) H'
theorem okis_hindered (T : Txt K mg C_Book C_Clashed C_InTheWay C_NoClash C_NoFile C_NoPath C_NoVersion C_RoadError C_SameVersion) : Cal P w K mg base CX0 2 "is_hindered" ps_is_hindered (spHindered) := by
  have sc := scis_hindered
  refine T.d_is_hindered.ok sc (by walk_at "len") (fun f cdv A outer s H vs Q E hr h => ?_)
  have hu := hu_of hr
  obtain ⟨d, G, p, rfl, hd, hl, hp, q⟩ := h
  refine ⟨_, PSs.cv (by exact (pss_cons (ps_for PassesOwn.never rfl (pi_list (pe_calC (okabove T) (hr.mono (by decide)) (by rfl) pass0 (pa_cons (pv 1) pa_nil))) (pg_name (i := 2) sc.nd rfl (Or.inl rfl)) (pss_one (ps_if (pt_cmp (pc_din hu (pv 2) (pv 0))) (pss_one (ps_ret pe_bl)) pss_nil)))
      (pss_one (ps_ret (pe_callB (cr_any rfl) (by rfl) T.n_any (by decide +kernel) (pa_cons (pe_lock (pe_lc (own := [("lower", 3)]) (g := gName 3) rfl sc.nd (pi_keys (pv 0)) (blkOk_by (N := sl_is_hindered) (sc := defScope s_is_hindered) (by decide +kernel)) (fun _ _ _ _ _ => (pg_name (i := 3) sc.nd rfl (by first | exact Or.inl rfl | exact Or.inr rfl))) (fun _ _ _ _ _ => pts_nil) (fun _ _ _ _ _ => PE.cv (by exact (pe_calC (okis_beneath T) (hr.mono (by decide)) (by rfl) pass0 (pa_cons (pv 3) (pa_cons (pv 1) pa_nil)))) (by walk_at "cv")))) pa_nil)))))) (by walk_at "cv"), ?_⟩
  walk_at "go"
  refine ⟨hp, fun p5 H5 n5 e5 h5 => ?_⟩
  walk_at "go"
  refine ⟨⟨_, SqL.of h5⟩, ?_⟩
  refine for_it wL (fun j σ H' => Same H H' ∧ H' p5 = some (.lst ((aboveL p).map V.str)) ∧ (∃ v2, σ = [some (.ref d), some (.str p), v2, none]) ∧ ((aboveL p).take j).any (fun q => (valV G q).isSome) = false) ⟨e5, h5, ⟨_, rfl⟩, rfl⟩ (fun _ σ H' _ h => SqL.of h.2.1) ?_ ?_
  · rintro j x σ H6 H7 hj ⟨e6, h6, ⟨v2, rfl⟩, ha⟩ ⟨rfl, hx⟩
    rw [List.getElem?_map] at hx
    obtain ⟨z, hz, rfl⟩ := Option.map_eq_some_iff.mp hx
    have hd6 : AtD H7 d G := e6 _ _ hd
    walk_at "go"
    refine ⟨_, _, rfl, hd6.rd.get z, ?_⟩
    walk_at "go"
    refine iteB (fun hv => ?_) fun hv => ?_
    · walk_at "go"
      have hq := q _ e6
      rwa [hindB, List.any_eq_true.mpr ⟨z, List.mem_of_getElem? hz, hv⟩, Bool.true_or] at hq
    · refine ⟨e6, h6, ⟨_, rfl⟩, ?_⟩
      rw [any_next hz, ha, hv]; rfl
  · rintro σ H6 ⟨e6, h6, ⟨v2, rfl⟩, ha⟩
    rw [List.length_map, List.take_length] at ha
    have hd6 : AtD H6 d G := e6 _ _ hd
    walk_at "go"
    refine ⟨d, _, hd6, trivial, fun od => ?_⟩
    have un : ∀ H', Same (upd H6 d (.frz od (.dK (kvs G)))) H' → Same H6 (upd H' d (.dK (kvs G))) := fun H' e => Same.unlock hd6 e
    have fr : ∀ H', Same (upd H6 d (.frz od (.dK (kvs G)))) H' → H' d = some (.frz od (.dK (kvs G))) := fun H' e => Same.frz e
    have ne : ∀ (D : Addr), upd H6 d (.frz od (.dK (kvs G))) D = none → D ≠ d := fun D h e => by subst e; rw [upd_same] at h; cases h
    generalize upd H6 d (.frz od (.dK (kvs G))) = HL at un fr ne ⊢
    have fr0 := fr HL (Same.refl _)
    walk_at "go"
    refine ⟨d, od, rfl, .inl ⟨kvs G, fr0, fun D hD => ?_⟩⟩
    refine lcM (j := 3) wK (by rw [List.length_map]) (fun H' e => fr _ e) hD (fS fun z => .bl (beneathB z p)) (by rw [kvs_len]; omega) (fun _ => rfl) (fun x H7 hx e7 Q2 k => ?_) fun H' e' hl' => ?_
    · rw [kvs_keys] at hx
      obtain ⟨z, hz, rfl⟩ := List.mem_map.mp hx
      walk_at "go"
      exact k _ (Same.refl _)
    · refine ⟨fr _ e', ?_⟩
      have hl2 : upd H' d (.dK (kvs G)) D = some (.lst (((keys G).map fun z => beneathB z p).map V.bl)) := by
        rw [upd_ne (ne D hD), hl', kvs_keys, fS_map, bl_map]
      refine ⟨D, _, rfl, SqL.of hl2, ?_⟩
      have hq := q _ (e6.trans (un _ e'))
      rw [hindB, ha, Bool.false_or] at hq
      rw [List.any_map]
      exact hq
def spDone (C1 C2 C3 : Addr) (K : PySem.W.Frag) : Sp := fun vs H Q E => ∃ (d a : Addr) (G : Tr) (e : Deed), vs = [.ref d, .ref a] ∧ AtD H d G ∧ SqT K H a e.vs ∧ G.length ≤ 100000 ∧ e.path.length ≤ 16777000 ∧
  match doneR G e with
  | .tree G' => ∀ p H', H p = none → Same H H' → AtD H' p G' → Q (.ref p) H'
  | .noPath => ∀ H', Same H H' → E (.ref C1) none H'
  | .noFile => ∀ H', Same H H' → E (.ref C2) none H'
  | .inTheWay => ∀ H', Same H H' → E (.ref C3) none H'
theorem okdone (T : Txt K mg C_Book C_Clashed C_InTheWay C_NoClash C_NoFile C_NoPath C_NoVersion C_RoadError C_SameVersion) : Cal P w K mg base (L2N.CX P w) 3 "done" ps_done (spDone C_NoPath C_NoFile C_InTheWay K) := by
  have sc := scdone
  refine T.d_done.okX sc (by walk_at "len") (fun f cdv A outer s H vs Q E hr h => ?_)
  have hu := hu_of hr
  obtain ⟨d, a, G, e, rfl, hd, ha, hl, hp, q⟩ := h
  refine ⟨_, PSs.cv (by exact (pss_cons (ps_set (i := 2) sc.nd rfl (Or.inl rfl) (pe_ix ix_tup (pv 1) pe_int (fun _ _ => rfl)))
      (pss_cons (ps_if (pt_not (pt_val (pe_calC (okis_path T) (hr.mono (by decide)) (by rfl) pass0 (pa_cons (pv 2) pa_nil)))) (pss_one (L2N.ps_raise rfl (L2N.takes_of rfl rfl rfl rfl) (L2N.pmk_own PySem.F.excBase_ValueError T.x_NoPath.xC T.x_NoPath.gC T.x_NoPath.kC (raises_own T.x_NoPath.bC T.x_NoPath.tC) (by exact rfl)))) pss_nil)
      (pss_cons (ps_set (i := 3) sc.nd rfl (Or.inl rfl) (pe_callTy call_dictD (by rfl) T.n_dict (by decide +kernel) (pa_cons (pv 0) pa_nil)))
      (pss_cons (ps_if (pt_cmpR op_eq (pe_ix ix_tup (pv 1) pe_int (fun _ _ => rfl)) pe_str (nomark _)) (pss_cons (ps_if (pt_cmp (pc_dnotin hu (pv 2) (pv 3))) (pss_one (L2N.ps_raise rfl (L2N.takes_of rfl rfl rfl rfl) (L2N.pmk_own PySem.F.excBase_ValueError T.x_NoFile.xC T.x_NoFile.gC T.x_NoFile.kC (raises_own T.x_NoFile.bC T.x_NoFile.tC) (by exact rfl)))) pss_nil)
      (pss_cons (ps_expr (pe_dpop1 (pv 3) (pv 2) ⟨rfl, rfl, rfl, rfl⟩))
      (pss_one (ps_ret (pv 3))))) pss_nil)
      (pss_cons (ps_if (pt_val (pe_calC (okis_hindered T) (hr.mono (by decide)) (by rfl) pass0 (pa_cons (pv 0) (pa_cons (pv 2) pa_nil)))) (pss_one (L2N.ps_raise rfl (L2N.takes_of rfl rfl rfl rfl) (L2N.pmk_own PySem.F.excBase_ValueError T.x_InTheWay.xC T.x_InTheWay.gC T.x_InTheWay.kC (raises_own T.x_InTheWay.bC T.x_InTheWay.tC) (by exact rfl)))) pss_nil)
      (pss_cons (ps_dput hu (pv 3) (pv 2) (pe_ix ix_tup (pv 1) pe_int (fun _ _ => rfl)) rfl)
      (pss_one (ps_ret (pv 3)))))))))) (by walk_at "cv"), ?_⟩
  have at1 : atI e.vs 1 = some (.str e.path) := by cases e <;> rfl
  walk_at "go"
  refine ⟨_, _, _, _, rfl, rfl, ha, at1, ?_⟩
  walk_at "go"
  refine ⟨hp, fun H1 e1 => ?_⟩
  have hd1 : AtD H1 d G := e1 _ _ hd
  have ha1 := Same.tup e1 ha
  walk_at "go"
  refine iteBN (fun hb => ?_) fun hb => ?_
  · rw [done_no hb] at q
    exact q H1 e1
  walk_at "go"
  intro p2 n2
  have e2 := Same.new (o := HO.dK (kvs G)) n2
  have hp2 : AtD (upd H1 p2 (HO.dK (kvs G))) p2 G := upd_same
  generalize upd H1 p2 (HO.dK (kvs G)) = H2 at e2 hp2 ⊢
  have hd2 : AtD H2 d G := e2 _ _ hd1
  have ha2 := Same.tup e2 ha1
  have n2H : H p2 = none := e1.free n2
  have e12 := e1.trans e2
  walk_at "go"
  cases e with
  | cut p =>
    refine ⟨_, _, _, _, rfl, rfl, ha2, rfl, ?_⟩
    walk_at "go"
    have hb : isPathB p = true := hb
    rw [done_cut hb] at q
    refine ⟨_, _, rfl, hp2.rd.get p, ?_⟩
    walk_at "go"
    cases hv : valV G p with
    | none =>
      rw [hv] at q
      walk_at "go"
      exact q H2 e12
    | some v =>
      rw [hv] at q
      walk_at "go"
      refine ⟨.inl ⟨_, hp2.rd⟩, ?_⟩
      walk_at "go"
      refine ⟨_, .inr p, v, hp2, rfl, by rw [kvs_val]; exact hv, ?_⟩
      rw [kvs_drop]
      walk_at "go"
      exact q p2 _ n2H (Same.mut e12 n2H) upd_same
  | put p z =>
    refine ⟨_, _, _, _, rfl, rfl, ha2, rfl, ?_⟩
    walk_at "go"
    have hb : isPathB p = true := hb
    rw [done_put hb] at q
    refine ⟨_, G, p, rfl, hd2, hl, hp, fun H3 e3 => ?_⟩
    have hp3 : AtD H3 p2 G := e3 _ _ hp2
    have ha3 := Same.tup e3 ha2
    have e13 := e12.trans e3
    walk_at "go"
    refine iteB (fun hh => ?_) fun hh => ?_
    · rw [if_pos hh] at q
      exact q H3 e13
    · rw [if_neg (by rw [hh]; simp)] at q
      walk_at "go"
      refine ⟨_, _, _, _, rfl, rfl, ha3, rfl, ?_⟩
      walk_at "go"
      refine ⟨_, _, rfl, hp3.put (by omega) p _, ?_⟩
      walk_at "go"
      exact q p2 _ n2H (Same.mut e13 n2H) upd_same
/-- a row of deeds in memory: the list at p, the deeds' tuples at ts -/
def RowAt (K : PySem.W.Frag) (H : Hp) (p : Addr) (ts : List Addr) (ds : List Deed) : Prop := SqL K H p (ts.map V.ref) ∧ TsAt H ts (ds.map Deed.strs)
theorem RowAt.at {K : PySem.W.Frag} {H : Hp} {p : Addr} {ts : List Addr} {ds : List Deed} (h : RowAt K H p ts ds) {i : Nat} {x : V} (hx : (ts.map V.ref)[i]? = some x) : ∃ t e, x = .ref t ∧ ds[i]? = some e ∧ H t = some (.tup e.vs) := by
  rw [List.getElem?_map] at hx
  obtain ⟨t, ht, rfl⟩ := Option.map_eq_some_iff.mp hx
  obtain ⟨k, hk, r⟩ := Paired.get h.2 ht
  rw [List.getElem?_map] at hk
  obtain ⟨e, he, rfl⟩ := Option.map_eq_some_iff.mp hk
  exact ⟨t, e, rfl, he, by rw [vs_strs]; exact r⟩
theorem RowAt.len {K : PySem.W.Frag} {H : Hp} {p : Addr} {ts : List Addr} {ds : List Deed} (h : RowAt K H p ts ds) : ts.length = ds.length := by
  have := h.2.length
  rwa [List.length_map] at this
theorem RowAt.same {K : PySem.W.Frag} {H H' : Hp} {p : Addr} {ts : List Addr} {ds : List Deed} (h : RowAt K H p ts ds) (e : Same H H') : RowAt K H' p ts ds := ⟨e.seq h.1, h.2.same e⟩
def spChanged (C1 C2 C3 : Addr) (K : PySem.W.Frag) : Sp := fun vs H Q E => ∃ (d p : Addr) (G : Tr) (b : Nat) (ts : List Addr) (ds : List Deed), vs = [.ref d, .ref p] ∧ AtD H d G ∧ RowAt K H p ts ds ∧ TreeOk b G ∧ b + ds.length ≤ 100000 ∧ (∀ e ∈ ds, e.path.length ≤ 16777000) ∧
  match foldR G ds with
  | .tree G' => ∀ p H', H p = none → Same H H' → AtD H' p G' → Q (.ref p) H'
  | .noPath => ∀ H', Same H H' → E (.ref C1) none H'
  | .noFile => ∀ H', Same H H' → E (.ref C2) none H'
  | .inTheWay => ∀ H', Same H H' → E (.ref C3) none H'
theorem okchanged (T : Txt K mg C_Book C_Clashed C_InTheWay C_NoClash C_NoFile C_NoPath C_NoVersion C_RoadError C_SameVersion) : Cal P w K mg base (L2N.CX P w) 4 "changed" ps_changed (spChanged C_NoPath C_NoFile C_InTheWay K) := by
  have sc := scchanged
  refine T.d_changed.okX sc (by walk_at "len") (fun f cdv A outer s H vs Q E hr h => ?_)
  have hu := hu_of hr
  obtain ⟨d, p, G, b, ts, ds, rfl, hd, row, ok, hl, hsh, q⟩ := h
  have hlen := ok.len
  have ltd := row.len
  refine ⟨_, PSs.cv (by exact (pss_cons (ps_set (i := 2) sc.nd rfl (Or.inl rfl) (pe_callTy call_dictD (by rfl) T.n_dict (by decide +kernel) (pa_cons (pv 0) pa_nil)))
      (pss_cons (ps_for (passes_of rfl) rfl (pi_list (pv 1)) (pg_name (i := 3) sc.nd rfl (Or.inl rfl)) (pss_one (ps_set (i := 2) sc.nd rfl (Or.inl rfl) (pe_calC (okdone T) (hr.mono (by decide)) (by rfl) (L2N.passes_call (L2N.takes_of rfl rfl rfl rfl) (fun _ _ _ _ h => h)) (pa_cons (pv 2) (pa_cons (pv 3) pa_nil))))))
      (pss_one (ps_ret (pv 2)))))) (by walk_at "cv"), ?_⟩
  walk_at "go"
  intro m nm
  obtain ⟨H1, q1, e1, h1⟩ := alloc (o := HO.dK (kvs G)) nm
  rw [q1]
  have hm1 : AtD H1 m G := h1
  clear q1 h1
  walk_at "go"
  refine ⟨⟨_, e1.seq row.1⟩, ?_⟩
  refine for_it wL (fun i σ H' => Same H H' ∧ (∃ (m : Addr) (Gi : Tr), H m = none ∧ AtD H' m Gi ∧ foldR G (ds.take i) = .tree Gi ∧ ∃ v3, σ = [some (.ref d), some (.ref p), some (.ref m), v3])) ⟨e1, m, G, nm, hm1, by rw [List.take_zero]; rfl, _, rfl⟩ (fun _ σ H' _ h => h.1.seq row.1) ?_ ?_
  · rintro i x σ H2 H3 hi ⟨e2, m2, Gi, n2, hm2, hf, v3, rfl⟩ ⟨rfl, hx⟩
    obtain ⟨t, e, rfl, he, ht⟩ := (row.same e2).at hx
    have oki := ok.fold hf
    have lti : (ds.take i).length ≤ ds.length := by rw [List.length_take]; omega
    walk_at "go"
    refine ⟨m2, t, Gi, e, rfl, hm2, SqT.of ht, by have := oki.len; omega, hsh e (List.mem_of_getElem? he), ?_⟩
    cases hr : doneR Gi e with
    | tree G2 =>
      intro p2 H4 n4 e4 h4
      walk_at "go"
      exact ⟨e2.trans e4, p2, G2, e2.free n4, h4, fold_next hf he hr, _, rfl⟩
    | noPath =>
      rw [fold_stop hf he (by rw [hr]; intro _ h; cases h), hr] at q
      exact fun H4 e4 => q _ (e2.trans e4)
    | noFile =>
      rw [fold_stop hf he (by rw [hr]; intro _ h; cases h), hr] at q
      exact fun H4 e4 => q _ (e2.trans e4)
    | inTheWay =>
      rw [fold_stop hf he (by rw [hr]; intro _ h; cases h), hr] at q
      exact fun H4 e4 => q _ (e2.trans e4)
  · rintro σ H2 ⟨e2, m2, Gi, n2, hm2, hf, v3, rfl⟩
    rw [List.length_map, ltd, List.take_length] at hf
    rw [hf] at q
    walk_at "go"
    exact q m2 H2 n2 e2 hm2
def bad3 : List Str := ["", "a/../b", "a b"]
theorem bad3_no : ∀ z ∈ bad3, isPathB z = false := by decide +kernel

def dbl : Str := "a//b"
theorem dbl_no : isPathB dbl = false := by decide +kernel
def spWordOf (K : PySem.W.Frag) : Sp := fun vs H Q _ => ∃ (d p : Addr) (G : Tr) (b : Nat) (ts : List Addr) (ds : List Deed), vs = [.ref d, .ref p] ∧ AtD H d G ∧ RowAt K H p ts ds ∧ TreeOk b G ∧ b + ds.length ≤ 100000 ∧ (∀ e ∈ ds, e.path.length ≤ 16777000 ∧ (e.path = dbl ∨ isPathB e.path = true)) ∧
  ∀ v H', Same H H' → (match foldR G ds with
  | .tree G' => ∃ p, v = .ref p ∧ H p = none ∧ AtD H' p G'
  | r => v = .str (toldWord r)) → Q v H'
theorem okL_word_of (T : Txt K mg C_Book C_Clashed C_InTheWay C_NoClash C_NoFile C_NoPath C_NoVersion C_RoadError C_SameVersion) : Cal P w K mg base CX0 2 "_law_word_of" ps_L_word_of (spWordOf K) := by
  have sc := scL_word_of
  refine T.d_L_word_of.ok sc (by walk_at "len") (fun f cdv A outer s H vs Q E hr h => ?_)
  have hu := hu_of hr
  obtain ⟨d, p, G, b, ts, ds, rfl, hd, row, ok, hl, hsh, q⟩ := h
  have hlen := ok.len
  have ltd := row.len
  refine ⟨_, PSs.cv (by exact (pss_cons (ps_set (i := 2) sc.nd rfl (Or.inl rfl) (pe_callTy call_dictD (by rfl) T.n_dict (by decide +kernel) (pa_cons (pv 0) pa_nil)))
      (pss_cons (ps_for PassesOwn.never rfl (pi_list (pv 1)) (pg_name (i := 3) sc.nd rfl (Or.inl rfl)) (pss_cons (ps_if (pt_cmpR op_eq (pe_ix ix_tup (pv 3) pe_int (fun _ _ => rfl)) pe_str (nomark _)) (pss_one (ps_ret pe_str)) pss_nil)
      (pss_cons (ps_if (PW.pt (pw_and (pt_cmpR op_eq (pe_ix ix_tup (pv 3) pe_int (fun _ _ => rfl)) pe_str (nomark _)) (pw_and1 (pt_cmp (pc_dnotin hu (pe_ix ix_tup (pv 3) pe_int (fun _ _ => rfl)) (pv 2)))))) (pss_one (ps_ret pe_str)) pss_nil)
      (pss_one (ps_if (pt_cmpR op_eq (pe_ix ix_tup (pv 3) pe_int (fun _ _ => rfl)) pe_str (nomark _)) (pss_one (ps_expr (pe_dpop1 (pv 2) (pe_ix ix_tup (pv 3) pe_int (fun _ _ => rfl)) ⟨rfl, rfl, rfl, rfl⟩))) (pss_one (ps_if (pt_not (pt_val (pe_calC (okL_is_free T) (hr.mono (by decide)) (by rfl) pass0 (pa_cons (pv 2) (pa_cons (pe_ix ix_tup (pv 3) pe_int (fun _ _ => rfl)) pa_nil))))) (pss_one (ps_ret pe_str)) (pss_one (ps_dput hu (pv 2) (pe_ix ix_tup (pv 3) pe_int (fun _ _ => rfl)) (pe_ix ix_tup (pv 3) pe_int (fun _ _ => rfl)) rfl)))))))))
      (pss_one (ps_ret (pv 2)))))) (by walk_at "cv"), ?_⟩
  walk_at "go"
  intro m nm
  obtain ⟨H1, q1, e1, h1⟩ := alloc (o := HO.dK (kvs G)) nm
  rw [q1]
  have hm1 : AtD H1 m G := h1
  clear q1 h1
  walk_at "go"
  refine ⟨⟨_, e1.seq row.1⟩, ?_⟩
  refine for_it wL (fun i σ H' => Same H H' ∧ (∃ (Gi : Tr), AtD H' m Gi ∧ foldR G (ds.take i) = .tree Gi ∧ ∃ v3, σ = [some (.ref d), some (.ref p), some (.ref m), v3])) ⟨e1, G, hm1, by rw [List.take_zero]; rfl, _, rfl⟩ (fun _ σ H' _ h => h.1.seq row.1) ?_ ?_
  · rintro i x σ H2 H3 hi ⟨e2, Gi, hm2, hf, v3, rfl⟩ ⟨rfl, hx⟩
    obtain ⟨t, e, rfl, he, ht⟩ := (row.same e2).at hx
    have oki := ok.fold hf
    have lti : (ds.take i).length ≤ ds.length := by rw [List.length_take]; omega
    have hli := oki.len
    obtain ⟨hsl, hbp⟩ := hsh e (List.mem_of_getElem? he)
    have at1 : atI e.vs 1 = some (.str e.path) := by cases e <;> rfl
    walk_at "go"
    refine ⟨_, _, _, _, rfl, rfl, SqT.of ht, at1, ?_⟩
    walk_at "go"
    have e4 := Same.refl H3
    have hm4 : AtD H3 m Gi := e4 _ _ hm2
    have ht4 := e4 _ _ ht
    have e04 := e2.trans e4
    refine iteD (fun hbad => ?_) fun hbad => ?_
    · have hbad : e.path = dbl := V.str.inj hbad
      walk_at "go"
      have hr := done_no (G := Gi) (e := e) (hbad ▸ dbl_no)
      rw [fold_stop hf he (by rw [hr]; intro _ h; cases h), hr] at q
      exact q _ _ e04 rfl
    have hbad : ¬ e.path = dbl := fun h => hbad (congrArg V.str h)
    have hb := hbp.resolve_left hbad
    have at0 : atI e.vs 0 = some (match e with | .cut _ => V.str "cut" | .put _ _ => V.str "put") := by cases e <;> rfl
    walk_at "go"
    cases e with
    | cut z =>
      have hb : isPathB z = true := hb
      have hr := done_cut (G := Gi) hb
      refine ⟨_, _, _, _, rfl, rfl, SqT.of ht4, rfl, ?_⟩
      walk_at "go"
      refine ⟨_, _, _, _, rfl, rfl, SqT.of ht4, rfl, ?_⟩
      walk_at "go"
      refine ⟨_, _, rfl, hm4.rd.get z, ?_⟩
      walk_at "go"
      cases hv : valV Gi z with
      | none =>
        walk_at "go"
        rw [hv] at hr
        rw [fold_stop hf he (by rw [hr]; intro _ h; cases h), hr] at q
        exact q _ _ e04 rfl
      | some v =>
        walk_at "go"
        rw [hv] at hr
        refine ⟨_, _, _, _, rfl, rfl, SqT.of ht4, rfl, ?_⟩
        walk_at "go"
        refine ⟨.inl ⟨_, hm4.rd⟩, ?_⟩
        walk_at "go"
        refine ⟨_, _, _, _, rfl, rfl, SqT.of ht4, rfl, ?_⟩
        walk_at "go"
        refine hm4.pop hv ?_
        walk_at "go"
        exact ⟨Same.mut e04 nm, _, upd_same, fold_next hf he hr, _, rfl⟩
    | put z y =>
      have hb : isPathB z = true := hb
      have hr := done_put (G := Gi) (z := y) hb
      rw [hind_free] at hr
      refine ⟨_, _, _, _, rfl, rfl, SqT.of ht4, rfl, ?_⟩
      walk_at "go"
      refine ⟨_, _, _, _, rfl, rfl, SqT.of ht4, rfl, ?_⟩
      walk_at "go"
      refine ⟨_, _, _, _, rfl, rfl, SqT.of ht4, rfl, ?_⟩
      refine ⟨_, Gi, z, rfl, hm4.rd, oki.short, hsl, fun H5 e5 => ?_⟩
      have hm5 : AtD H5 m Gi := e5 _ _ hm4
      have ht5 := e5 _ _ ht4
      have e05 := e04.trans e5
      walk_at "go"
      refine iteBN (fun hf2 => ?_) fun hf2 => ?_
      · walk_at "go"
        rw [hf2] at hr
        have hr : doneR Gi (.put z y) = .inTheWay := hr
        rw [fold_stop hf he (by rw [hr]; intro _ h; cases h), hr] at q
        exact q _ _ e05 rfl
      · walk_at "go"
        rw [hf2] at hr
        have hr : doneR Gi (.put z y) = .tree (putK Gi z (.str y)) := hr
        refine ⟨_, _, _, _, rfl, rfl, SqT.of ht5, rfl, ?_⟩
        walk_at "go"
        refine ⟨_, _, _, _, rfl, rfl, SqT.of ht5, rfl, ?_⟩
        walk_at "go"
        refine ⟨_, _, rfl, hm5.put (by omega) z _, ?_⟩
        exact ⟨Same.mut e05 nm, _, upd_same, fold_next hf he hr, _, rfl⟩
  · rintro σ H2 ⟨e2, Gi, hm2, hf, v3, rfl⟩
    rw [List.length_map, ltd, List.take_length] at hf
    rw [hf] at q
    walk_at "go"
    exact q _ H2 e2 ⟨m, rfl, nm, hm2⟩
theorem rng_at {N i : Nat} {w : V} (h : ((List.range N).map fun i : Nat => V.int (0 + (i : Int)))[i]? = some w) : w = nV i := by
  have hi : i < N := by
    rcases Nat.lt_or_ge i N with h2 | h2
    · exact h2
    · rw [List.getElem?_eq_none (by rw [List.length_map, List.length_range]; exact h2)] at h; cases h
  rw [List.getElem?_map, List.getElem?_range hi] at h
  have := Option.some.inj h
  rw [← this]
  show V.int (0 + (i : Int)) = V.int (i : Int)
  rw [Int.zero_add]
def DeedX (e : Deed) : Prop := e.path = dbl ∨ PathX e.path
theorem DeedX.len {e : Deed} (h : DeedX e) : e.path.length ≤ 210 := by
  rcases h with h | h
  · rw [h]; exact (by decide +kernel : dbl.length ≤ 210)
  · exact Nat.le_trans (path_len h.path) (by decide)
theorem DeedX.wo {e : Deed} (h : DeedX e) : e.path.length ≤ 16777000 ∧ (e.path = dbl ∨ isPathB e.path = true) := ⟨Nat.le_trans h.len (by decide), h.elim .inl fun h => .inr h.path⟩
def spDeedsBy (K : PySem.W.Frag) : Sp := fun vs H Q _ => ∃ (c s : Int) (d : Addr) (G : Tr), vs = [.int c, .ref d, .int s] ∧ AtD H d G ∧ TreeOk 1000 G ∧ Bits 1048576 c ∧ Bits 1048576 s ∧
  ∀ (r : Addr) (rs : List Addr) (ds : List Deed) H', H r = none → Same H H' → H' r = some (.lst (rs.map V.ref)) → TsAt H' rs (ds.map Deed.strs) → ds.length ≤ 9 → (∀ e ∈ ds, DeedX e) → Q (.ref r) H'
theorem okL_deeds_by (T : Txt K mg C_Book C_Clashed C_InTheWay C_NoClash C_NoFile C_NoPath C_NoVersion C_RoadError C_SameVersion) : Cal P w K mg base CX0 4 "_law_deeds_by" ps_L_deeds_by (spDeedsBy K) := by
  have sc := scL_deeds_by
  refine T.d_L_deeds_by.ok sc (by walk_at "len") (fun f cdv A outer s H vs Q E hr h => ?_)
  have hu := hu_of hr
  obtain ⟨c, s, d0, G0, rfl, hd0, ok0, hc, hs, q⟩ := h
  refine ⟨_, PSs.cv (by exact (pss_cons (ps_set (i := 3) sc.nd rfl (Or.inl rfl) (pe_lst pa_nil))
      (pss_cons (ps_set (i := 4) sc.nd rfl (Or.inl rfl) (pe_op op_add pe_int (pe_op op_mod (pv 0) pe_int)))
      (pss_cons (ps_if (pt_cmpR op_eq (pe_op op_mod (pe_op op_fdiv (pv 0) pe_int) pe_int) pe_int (nomark _)) (pss_one (ps_set (i := 4) sc.nd rfl (Or.inl rfl) pe_int)) pss_nil)
      (pss_cons (ps_for PassesOwn.never rfl (pi_range1 (by rfl) T.n_range (pa_cons (pv 4) pa_nil)) (pg_name (i := 5) sc.nd rfl (Or.inl rfl)) (pss_cons (ps_set (i := 6) sc.nd rfl (Or.inl rfl) (pe_op op_mod (pe_op op_mulV (pe_op op_add (pv 0) (pe_op op_mulV pe_int (pe_op op_add (pv 5) pe_int))) pe_int) pe_int))
      (pss_cons (ps_set (i := 7) sc.nd rfl (Or.inl rfl) (pe_calC (okL_path_by T) (hr.mono (by decide)) (by rfl) pass0 (pa_cons (pv 6) (pa_cons (pv 2) pa_nil))))
      (pss_cons (ps_if (pt_cmpR op_eq (pe_op op_mod (pe_op op_fdiv (pv 6) pe_int) pe_int) pe_int (nomark _)) (pss_one (ps_set (i := 7) sc.nd rfl (Or.inl rfl) pe_str)) pss_nil)
      (pss_cons (ps_set (i := 8) sc.nd rfl (Or.inl rfl) (pe_tup (pa_cons pe_str (pa_cons (pv 7) (pa_cons (pe_calC (okL_line_by T) (hr.mono (by decide)) (by rfl) pass0 (pa_cons (pe_op op_fdiv (pv 6) pe_int) (pa_cons (pv 2) pa_nil))) pa_nil)))))
      (pss_cons (ps_if (pt_cmpR op_eq (pe_op op_mod (pe_op op_fdiv (pv 6) pe_int) pe_int) pe_int (nomark _)) (pss_one (ps_set (i := 8) sc.nd rfl (Or.inl rfl) (pe_tup (pa_cons pe_str (pa_cons (pv 7) pa_nil))))) pss_nil)
      (pss_cons (ps_set (i := 9) sc.nd rfl (Or.inl rfl) (pe_calC (okL_word_of T) (hr.mono (by decide)) (by rfl) pass0 (pa_cons (pv 1) (pa_cons (pe_lst (pa_cons (pv 8) pa_nil)) pa_nil))))
      (pss_one (ps_if (pt_val (pe_callB call_isi (by rfl) T.n_isinstance (by decide +kernel) (pa_cons (pv 9) (pa_cons (pe_bltn (v := .ty "dict") (by rfl) T.n_dict (by decide +kernel) rfl) pa_nil)))) (pss_cons (ps_set (i := 1) sc.nd rfl (Or.inl rfl) (pv 9))
      (pss_one (ps_expr (pe_bm PySem.F.plainAttrs_list PySem.F.slot_list_append PySem.F.type_list_append mt_append (pv 3) (pa_cons (pv 8) pa_nil))))) (pss_one (ps_if (pt_cmpR op_lt (pe_op op_mod (pe_op op_fdiv (pv 6) pe_int) pe_int) pe_int (nomark _)) (pss_one (ps_expr (pe_bm PySem.F.plainAttrs_list PySem.F.slot_list_append PySem.F.type_list_append mt_append (pv 3) (pa_cons (pv 8) pa_nil)))) pss_nil)))))))))))
      (pss_one (ps_ret (pv 3)))))))) (by walk_at "cv"), ?_⟩
  walk_at "go"
  obtain ⟨P, hP⟩ : ∃ P, P = p := ⟨p, rfl⟩
  rw [← hP] at np ⊢
  clear hP
  obtain ⟨H1, q1, e1, h1⟩ := alloc (o := HO.lst []) np
  rw [q1]
  have np0 := np
  walk_at "go"
  refine if_join (fun σ H' => H' = H1 ∧ ∃ (m : Int), 1 ≤ m ∧ m ≤ 9 ∧ σ = [some (.int c), some (.ref d0), some (.int s), some (.ref P), some (.int m), none, none, none, none, none]) ?_ (fun h N hj => by walk_at "go"; exact hj _ _ ⟨rfl, 9, by decide, by decide, rfl⟩) fun h => ⟨rfl, 1 + c % 3, by omega, by omega, rfl⟩
  rintro σ H' ⟨rfl, m, m1, m9, rfl⟩
  walk_at "go"
  refine for_it wR (fun i σ H' => Same H H' ∧ ∃ (rs : List Addr) (ds : List Deed) (dc : Addr) (G : Tr) (v5 v6 v7 v8 v9 : Option V), H' P = some (.lst (rs.map V.ref)) ∧ TsAt H' rs (ds.map Deed.strs) ∧ ds.length ≤ i ∧ (∀ e ∈ ds, DeedX e) ∧ dc ≠ P ∧ AtD H' dc G ∧ TreeOk (1000 + i) G ∧ σ = [some (.int c), some (.ref dc), some (.int s), some (.ref P), some (.int m), v5, v6, v7, v8, v9])
    ⟨e1, [], [], d0, G0, _, _, _, _, _, h1, .nil, Nat.le_refl _, (fun _ h => absurd h (by simp)), ne_of_none (show H d0 = some (.dK (kvs G0)) from hd0) np0, e1 _ _ hd0, ok0, rfl⟩ (fun _ _ _ _ _ => trivial) ?_ ?_
  · rintro i x σ H0 H2 hi ⟨e2, rs, ds, dc, G, v5, v6, v7, v8, v9, h2, hts, lds, hpl, ndc, hd, ok, rfl⟩ ⟨rfl, hx⟩
    have := rng_at hx
    subst this
    have hi : i < 9 := by omega
    have lrs : rs.length = ds.length := by rw [hts.length, List.length_map]
    have hb : CMulV (c + 1000003 * ((i : Int) + 1)) 48271 := Bits.mul (Bits.add hc (Bits.small (i := 1000003 * ((i : Int) + 1)) (by omega) (by omega))) (Bits.small (i := 48271) (by decide) (by decide)) (by decide)
    walk_at "go"
    refine ⟨hb, ?_⟩
    walk_at "go"
    dsimp only
    have mx0 : 0 ≤ (c + 1000003 * ((i : Int) + 1)) * 48271 % 131071 := Int.emod_nonneg _ (by decide)
    have mx1 : (c + 1000003 * ((i : Int) + 1)) * 48271 % 131071 < 131071 := Int.emod_lt_of_pos _ (by decide)
    generalize (c + 1000003 * ((i : Int) + 1)) * 48271 % 131071 = mx at mx0 mx1 ⊢
    have bmx : Bits 1048576 mx := (Bits.small (by omega) (by omega)).mono (by decide)
    intro z H3 e3 hz
    have hd3 : AtD H3 dc G := e3 _ _ hd
    have h3 := e3 _ _ h2
    have hts3 := hts.same e3
    have e03 := e2.trans e3
    walk_at "go"
    refine if_join (fun σ H' => H' = H3 ∧ ∃ z : Str, (z = dbl ∨ PathX z) ∧ σ = [some (.int c), some (.ref dc), some (.int s), some (.ref P), some (.int m), some (nV i), some (.int mx), some (.str z), v8, v9]) ?_ (fun h N hj => by walk_at "go"; exact hj _ _ ⟨rfl, dbl, .inl rfl, rfl⟩) fun h => ⟨rfl, z, .inr hz, rfl⟩
    clear hz z
    rintro σ HX ⟨eX, z, hz, rfl⟩
    rw [eX]
    clear eX
    walk_at "go"
    intro y H4 e4 ly
    walk_at "go"
    obtain ⟨H5, q5, e5, h5⟩ := alloc (o := HO.tup (Deed.put z y).vs) np
    rw [show upd H4 p (HO.tup [V.str (Str.ofString "put"), V.str z, V.str y]) = H5 from q5]
    have e35 := e4.trans e5
    refine if_join (fun σ H' => Same H3 H' ∧ ∃ (e : Deed) (T : Addr), DeedX e ∧ H' T = some (.tup e.vs) ∧ σ = [some (.int c), some (.ref dc), some (.int s), some (.ref P), some (.int m), some (nV i), some (.int mx), some (.str z), some (.ref T), v9]) ?_ (fun h N hj => ?_) fun h => ⟨e35, .put z y, _, hz, h5, rfl⟩
    rotate_left
    · walk_at "go"
      obtain ⟨H6, q6, e6, h6⟩ := alloc (o := HO.tup (Deed.cut z).vs) np
      rw [show upd H5 p (HO.tup [V.str (Str.ofString "cut"), V.str z]) = H6 from q6]
      exact hj _ _ ⟨e35.trans e6, .cut z, p, hz, h6, rfl⟩
    clear h5 q5 e5 e35 np e4 ly
    rintro σ H7 ⟨e7, e, T, he, hT, rfl⟩
    have e07 := e03.trans e7
    have hd7 : AtD H7 dc G := e7 _ _ hd3
    have h7 := e7 _ _ h3
    have hts7 := hts3.same e7
    walk_at "go"
    obtain ⟨H8, q8, e8, h8⟩ := alloc (o := HO.lst [V.ref T]) np
    rw [q8]
    have hd8 : AtD H8 dc G := e8 _ _ hd7
    refine ⟨dc, p, G, 1000 + i, [T], [e], rfl, hd8, ⟨SqL.of h8, .cons (by rw [← vs_strs]; exact e8 _ _ hT) .nil⟩, ok, by simp; omega, (fun x hx => by rw [List.mem_singleton.mp hx]; exact he.wo), fun v H9 e9 hv => ?_⟩
    have e79 := e8.trans e9
    have h9 := e79 _ _ h7
    have hT9 := e79 _ _ hT
    have hts9 := hts7.same e79
    have push : Same H (upd H9 P (.lst (rs.map V.ref ++ [V.ref T]))) ∧ upd H9 P (.lst (rs.map V.ref ++ [V.ref T])) P = some (.lst ((rs ++ [T]).map V.ref)) ∧ TsAt (upd H9 P (.lst (rs.map V.ref ++ [V.ref T]))) (rs ++ [T]) ((ds ++ [e]).map Deed.strs) ∧ (ds ++ [e]).length ≤ i + 1 ∧ (∀ x ∈ ds ++ [e], DeedX x) := by
      refine ⟨Same.mut (e07.trans e79) np0, by rw [upd_same, List.map_append]; rfl, ?_, by rw [List.length_append]; simp; omega, fun x hx => ?_⟩
      · rw [List.map_append]
        exact TsAt.push hts9 h9 (by rw [← vs_strs]; exact hT9)
      · rcases List.mem_append.mp hx with h | h
        · exact hpl x h
        · rw [List.mem_singleton.mp h]; exact he
    have okd : TreeOk (1000 + (i + 1)) G := ok.mono (by omega)
    have dcP : ∀ {q : Addr} {X : Tr}, AtD H9 q X → q ≠ P := fun {q X} h e => by
      have h : H9 q = some (.dK (kvs X)) := h
      rw [e, h9] at h; cases h
    have two : (∃ G' p9, v = .ref p9 ∧ AtD H9 p9 G' ∧ TreeOk (1000 + (i + 1)) G') ∨ ∃ w, v = .str w := by
      cases hf : foldR G [e] with
      | tree G' =>
        rw [hf] at hv
        obtain ⟨p9, h1, _, h2⟩ := hv
        exact .inl ⟨G', p9, h1, h2, ok.fold hf⟩
      | noPath => rw [hf] at hv; exact .inr ⟨_, hv⟩
      | noFile => rw [hf] at hv; exact .inr ⟨_, hv⟩
      | inTheWay => rw [hf] at hv; exact .inr ⟨_, hv⟩
    clear hv
    obtain ⟨a1, a2, a3, a4, a5⟩ := push
    rcases two with ⟨G', p9, rfl, hm9, ok9⟩ | ⟨w, rfl⟩
    · have hmk : H9 p9 = some (.dK (kvs G')) := hm9
      walk_at "go"
      refine ⟨P, _, _, rfl, rfl, h9, sl_lt (by rw [List.length_map]; omega), ?_⟩
      exact ⟨a1, _, _, p9, G', _, _, _, _, _, a2, a3, a4, a5, dcP hm9, (upd_ne (dcP hm9)).trans hmk, ok9, rfl⟩
    · walk_at "go"
      refine ⟨_, _, _, _, false, rfl, .ty _, .base (.str _), kit_ty (by decide +kernel), ?_⟩
      have hd9 : AtD H9 dc G := e79 _ _ hd7
      walk_at "go"
      refine iteD (fun _ => ?_) fun _ => ?_
      · walk_at "go"
        refine ⟨P, _, _, rfl, rfl, h9, sl_lt (by rw [List.length_map]; omega), ?_⟩
        exact ⟨a1, _, _, dc, G, _, _, _, _, _, a2, a3, a4, a5, ndc, (upd_ne ndc).trans hd9, okd, rfl⟩
      · walk_at "go"
        exact ⟨e07.trans e79, _, _, dc, G, _, _, _, _, _, h9, hts9, by omega, hpl, ndc, hd9, okd, rfl⟩
  rintro σ H2 ⟨e2, rs, ds, dc, G, v5, v6, v7, v8, v9, h2, hts, lds, hpl, ndc, hd, ok, rfl⟩
  walk_at "go"
  exact q P rs ds H2 np0 e2 h2 hts (by omega) hpl
def spAllPaths : Sp := fun vs H Q _ => ∃ (a b c : Addr) (A B C : Tr), vs = [.ref a, .ref b, .ref c] ∧ AtD H a A ∧ AtD H b B ∧ AtD H c C ∧ A.length + B.length + C.length < 4000 ∧ ∀ p H', H p = none → Same H H' → H' p = some (.lst ((allP A B C).map V.str)) → Q (.ref p) H'
theorem okall_paths (T : Txt K mg C_Book C_Clashed C_InTheWay C_NoClash C_NoFile C_NoPath C_NoVersion C_RoadError C_SameVersion) : Cal P w K mg base CX0 1 "all_paths" ps_all_paths (spAllPaths) := by
  have sc := scall_paths
  refine T.d_all_paths.ok sc (by walk_at "len") (fun f cdv A outer s H vs Q E hr h => ?_)
  have hu := hu_of hr
  obtain ⟨a, b, c, A, B, C, rfl, ha, hb, hc, hl, q⟩ := h
  refine ⟨_, PSs.cv (by exact (pss_one (ps_ret (pe_sortedSet rfl (by rfl) T.n_sorted (by rfl) T.n_set (pe_op op_cat (pe_op op_cat (pe_callTy (call_listD rfl) (by rfl) T.n_list (by decide +kernel) (pa_cons (pv 0) pa_nil)) (pe_callTy (call_listD rfl) (by rfl) T.n_list (by decide +kernel) (pa_cons (pv 1) pa_nil))) (pe_callTy (call_listD rfl) (by rfl) T.n_list (by decide +kernel) (pa_cons (pv 2) pa_nil))))))) (by walk_at "cv"), ?_⟩
  walk_at "go"
  intro L1 n1
  rw [kvs_keys]
  obtain ⟨H1, q1, e1, h1⟩ := alloc (o := HO.lst ((keys A).map V.str)) n1
  rw [q1]
  have hb1 : AtD H1 b B := e1 _ _ hb
  have hc1 : AtD H1 c C := e1 _ _ hc
  walk_at "go"
  intro L2 n2
  rw [kvs_keys]
  obtain ⟨H2, q2, e2, h2⟩ := alloc (o := HO.lst ((keys B).map V.str)) n2
  rw [q2]
  have hc2 : AtD H2 c C := e2 _ _ hc1
  refine ⟨_, _, _, _, rfl, rfl, e2 _ _ h1, h2, sl_of (by rw [List.length_map, List.length_map, List.length_map, List.length_map]; omega), fun L3 n3 => ?_⟩
  rw [← List.map_append]
  obtain ⟨H3, q3, e3, h3⟩ := alloc (o := HO.lst ((keys A ++ keys B).map V.str)) n3
  rw [q3]
  have hc3 : AtD H3 c C := e3 _ _ hc2
  walk_at "go"
  intro L4 n4
  rw [kvs_keys]
  obtain ⟨H4, q4, e4, h4⟩ := alloc (o := HO.lst ((keys C).map V.str)) n4
  rw [q4]
  refine ⟨_, _, _, _, rfl, rfl, e4 _ _ h3, h4, sl_of (by rw [List.length_map, List.length_map, List.length_append, List.length_map, List.length_map, List.length_map]; omega), fun L5 n5 => ?_⟩
  rw [← List.map_append]
  obtain ⟨H5, q5, e5, h5⟩ := alloc (o := HO.lst ((keys A ++ keys B ++ keys C).map V.str)) n5
  rw [q5]
  refine ⟨L5, _, rfl, SqL.of h5, by rw [List.length_append, List.length_append, List.length_map, List.length_map, List.length_map]; omega, fun p6 n6 => ?_⟩
  have e05 := e1.trans (e2.trans (e3.trans (e4.trans e5)))
  exact q p6 _ (e05.free n6) (e05.trans (Same.new n6)) upd_same
def spMark : Sp := fun vs H Q _ => ∃ w l r, vs = [w, l, r] ∧ OptS w ∧ OptS l ∧ OptS r ∧ Q (.str (markV w l r)) H
theorem okmark (T : Txt K mg C_Book C_Clashed C_InTheWay C_NoClash C_NoFile C_NoPath C_NoVersion C_RoadError C_SameVersion) : Cal P w K mg base CX0 1 "mark" ps_mark (spMark) := by
  have sc := scmark
  refine T.d_mark.ok sc (by walk_at "len") (fun f cdv A outer s H vs Q E hr h => ?_)
  have hu := hu_of hr
  obtain ⟨w, l, r, rfl, hw, hl, hr2, q⟩ := h
  refine ⟨_, PSs.cv (by exact (pss_cons (ps_if (pt_cmpR op_eq (pv 1) (pv 2) (nomark _)) (pss_one (ps_ret (pe_ifExp (pt_cmpR op_eq (pv 1) (pv 0) (nomark _)) pe_str pe_str))) pss_nil)
      (pss_cons (ps_if (pt_cmpR op_eq (pv 1) (pv 0) (nomark _)) (pss_one (ps_ret pe_str)) pss_nil)
      (pss_cons (ps_if (pt_cmpR op_eq (pv 2) (pv 0) (nomark _)) (pss_one (ps_ret pe_str)) pss_nil)
      (pss_one (ps_ret pe_str)))))) (by walk_at "cv"), ?_⟩
  walk_at "go"
  refine ⟨hl.scal hr2, _, rfl, ?_⟩
  unfold M.markV at q
  refine iteD (fun h1 => ?_) fun h1 => ?_
  · rw [if_pos h1] at q
    walk_at "go"
    refine ⟨hl.scal hw, _, rfl, ?_⟩
    refine iteD (fun h2 => ?_) fun h2 => ?_
    · rw [if_pos h2] at q
      walk_at "go"
      exact q
    · rw [if_neg h2] at q
      walk_at "go"
      exact q
  rw [if_neg h1] at q
  walk_at "go"
  refine ⟨hl.scal hw, _, rfl, ?_⟩
  refine iteD (fun h2 => ?_) fun h2 => ?_
  · rw [if_pos h2] at q
    walk_at "go"
    exact q
  rw [if_neg h2] at q
  walk_at "go"
  refine ⟨hr2.scal hw, _, rfl, ?_⟩
  refine iteD (fun h3 => ?_) fun h3 => ?_
  · rw [if_pos h3] at q
    walk_at "go"
    exact q
  · rw [if_neg h3] at q
    walk_at "go"
    exact q
def spMarks : Sp := fun vs H Q _ => ∃ (a b c : Addr) (A B C : Tr) (n : Nat), vs = [.ref a, .ref b, .ref c] ∧ AtD H a A ∧ AtD H b B ∧ AtD H c C ∧ TreeOk n A ∧ TreeOk n B ∧ TreeOk n C ∧ n ≤ 1000 ∧ ∀ p ts H', H p = none → Same H H' → H' p = some (.lst (ts.map V.ref)) → TsAt H' ts (marksL A B C) → Q (.ref p) H'
def spPut : Sp := fun vs H Q _ => ∃ (a b c d : Addr) (A B C P : Tr) (n : Nat), vs = [.ref a, .ref b, .ref c, .ref d] ∧ AtD H a A ∧ AtD H b B ∧ AtD H c C ∧ RdD H d P ∧ TreeOk n A ∧ TreeOk n B ∧ TreeOk n C ∧ n ≤ 1000 ∧ (∀ p v, valV P p = some v → OptS v) ∧
  ∀ t m l H', H m = none → H l = none → m ≠ l → Same H H' → H' t = some (.tup [.ref m, .ref l]) → AtD H' m (madeT A B C P) → H' l = some (.lst ((leftT A B C P).map V.str)) → Q (.ref t) H'
theorem okput_together (T : Txt K mg C_Book C_Clashed C_InTheWay C_NoClash C_NoFile C_NoPath C_NoVersion C_RoadError C_SameVersion) : Cal P w K mg base CX0 2 "put_together" ps_put_together (spPut) := by
  have sc := scput_together
  refine T.d_put_together.ok sc (by walk_at "len") (fun f cdv A outer s H vs Q E hr h => ?_)
  have hu := hu_of hr
  obtain ⟨a, b, c, d, A, B, C, P, n, rfl, ha, hb, hc, hd, okA, okB, okC, hn, hP, q⟩ := h
  have lA := okA.len
  have lB := okB.len
  have lC := okC.len
  refine ⟨_, PSs.cv (by exact (pss_cons (ps_set (i := 4) sc.nd rfl (Or.inl rfl) pe_dnewK)
      (pss_cons (ps_set (i := 5) sc.nd rfl (Or.inl rfl) (pe_lst pa_nil))
      (pss_cons (ps_for PassesOwn.never rfl (pi_list (pe_calC (okall_paths T) (hr.mono (by decide)) (by rfl) pass0 (pa_cons (pv 0) (pa_cons (pv 1) (pa_cons (pv 2) pa_nil))))) (pg_name (i := 6) sc.nd rfl (Or.inl rfl)) (pss_cons (ps_set (i := 7) sc.nd rfl (Or.inl rfl) (pe_calC (okmark T) (hr.mono (by decide)) (by rfl) pass0 (pa_cons (pe_dget1 hu (pv 0) (pv 6) ⟨rfl, rfl, rfl, rfl⟩) (pa_cons (pe_dget1 hu (pv 1) (pv 6) ⟨rfl, rfl, rfl, rfl⟩) (pa_cons (pe_dget1 hu (pv 2) (pv 6) ⟨rfl, rfl, rfl, rfl⟩) pa_nil)))))
      (pss_cons (ps_set (i := 8) sc.nd rfl (Or.inl rfl) (pe_ifExp (pt_cmpR op_eq (pv 7) pe_str (nomark _)) (pe_dget1 hu (pv 2) (pv 6) ⟨rfl, rfl, rfl, rfl⟩) (pe_dget1 hu (pv 1) (pv 6) ⟨rfl, rfl, rfl, rfl⟩)))
      (pss_cons (ps_if (pt_cmp (pc_din hu (pv 6) (pv 3))) (pss_one (ps_set (i := 8) sc.nd rfl (Or.inl rfl) (pe_dget hu (pv 3) (pv 6) (fun _ _ => rfl)))) (pss_one (ps_if (pt_cmpR op_eq (pv 7) pe_str (nomark _)) (pss_cons (ps_set (i := 8) sc.nd rfl (Or.inl rfl) pe_non)
      (pss_one (ps_expr (pe_bm PySem.F.plainAttrs_list PySem.F.slot_list_append PySem.F.type_list_append mt_append (pv 5) (pa_cons (pv 6) pa_nil))))) pss_nil)))
      (pss_one (ps_if (pt_cmpR op_notN (pv 8) pe_non (nomark _)) (pss_one (ps_dput hu (pv 4) (pv 6) (pv 8) rfl)) pss_nil))))))
      (pss_one (ps_ret (pe_tup (pa_cons (pv 4) (pa_cons (pv 5) pa_nil))))))))) (by walk_at "cv"), ?_⟩
  walk_at "go"
  intro F nF
  obtain ⟨H1, q1, e1, h1⟩ := alloc (o := HO.dK []) nF
  rw [q1]
  walk_at "go"
  obtain ⟨G, hGe⟩ : ∃ G, G = p := ⟨_, rfl⟩
  rw [← hGe] at np ⊢
  clear hGe
  have nG := np
  clear p
  obtain ⟨H2, q2, e2, h2⟩ := alloc (o := HO.lst []) np
  rw [q2]
  have e02 := e1.trans e2
  have nG0 : H G = none := e1.free nG
  have nFG : F ≠ G := ne_of_none h1 nG
  refine ⟨a, b, c, A, B, C, rfl, e02 _ _ ha, e02 _ _ hb, e02 _ _ hc, by omega, fun L H3 nL e3 hL => ?_⟩
  have e03 := e02.trans e3
  have hF3 : AtD H3 F [] := e3 _ _ (e2 _ _ h1)
  have hG3 := e3 _ _ h2
  have nLF : L ≠ F := (ne_of_none (e2 _ _ h1) nL).symm
  have nLG : L ≠ G := (ne_of_none h2 nL).symm
  have al := allP_len A B C
  have nd := nd_allP A B C
  clear q1 q2 h1 h2 e1 e2 e3 e02 nL nG np
  walk_at "go"
  refine ⟨⟨_, SqL.of hL⟩, ?_⟩
  refine for_it wL (fun i σ H' => Same H H' ∧ H' L = some (.lst ((allP A B C).map V.str)) ∧ AtD H' F (madeL A B C P ((allP A B C).take i)) ∧ H' G = some (.lst ((leftL A B C P ((allP A B C).take i)).map V.str)) ∧ ∃ (v6 v7 v8 : Option V), σ = [some (.ref a), some (.ref b), some (.ref c), some (.ref d), some (.ref F), some (.ref G), v6, v7, v8])
    ⟨e03, hL, hF3, hG3, _, _, _, rfl⟩ (fun _ _ _ _ h => SqL.of h.2.1) ?_ ?_
  · rintro i x σ H4 H5 hi ⟨e4, hL4, hF4, hG4, v6, v7, v8, rfl⟩ ⟨rfl, hx⟩
    rw [List.getElem?_map] at hx
    obtain ⟨z, hz, rfl⟩ := Option.map_eq_some_iff.mp hx
    have ha4 : AtD H5 a A := e4 _ _ ha
    have hb4 : AtD H5 b B := e4 _ _ hb
    have hc4 : AtD H5 c C := e4 _ _ hc
    have hd4 : RdD H5 d P := Same.rdd e4 hd
    have nx := made_next (A := A) (B := B) (C := C) (P := P) nd hz
    have nx2 := left_next (A := A) (B := B) (C := C) (P := P) hz
    have ll : (leftL A B C P ((allP A B C).take i)).length ≤ 3000 := by
      refine Nat.le_trans (List.length_filter_le _ _) ?_
      rw [List.length_take]; omega
    have lm : (madeL A B C P ((allP A B C).take i)).length ≤ 3000 := by
      unfold madeL
      rw [List.length_map]
      refine Nat.le_trans (List.length_filter_le _ _) ?_
      rw [List.length_take]; omega
    have oB := okB.optS z
    have oC := okC.optS z
    walk_at "go"
    refine ⟨.inl ⟨_, ha4.rd⟩, ?_⟩
    walk_at "go"
    refine ⟨_, ha4.rd.get z, ?_⟩
    walk_at "go"
    refine ⟨.inl ⟨_, hb4.rd⟩, ?_⟩
    walk_at "go"
    refine ⟨_, hb4.rd.get z, ?_⟩
    walk_at "go"
    refine ⟨.inl ⟨_, hc4.rd⟩, ?_⟩
    walk_at "go"
    refine ⟨_, hc4.rd.get z, ?_⟩
    walk_at "go"
    refine ⟨_, _, _, rfl, okA.optS z, oB, oC, ?_⟩
    walk_at "go"
    obtain ⟨w, hw⟩ : ∃ w, w = M.markV (getV A z) (getV B z) (getV C z) := ⟨_, rfl⟩
    refine ifx_join (fun v H' => H' = H5 ∧ v = (if w = "other" then getV C z else getV B z)) ?_ (fun h Q' k => ?_) (fun h Q' k => ?_)
    rotate_left
    · walk_at "go"
      refine ⟨.inl ⟨_, hc4.rd⟩, ?_⟩
      walk_at "go"
      refine ⟨_, hc4.rd.get z, ?_⟩
      refine k _ _ ⟨rfl, ?_⟩
      rw [if_pos (by rw [hw]; exact V.str.inj h)]
    · walk_at "go"
      refine ⟨.inl ⟨_, hb4.rd⟩, ?_⟩
      walk_at "go"
      refine ⟨_, hb4.rd.get z, ?_⟩
      refine k _ _ ⟨rfl, ?_⟩
      rw [if_neg (by rw [hw]; exact fun e => h (congrArg V.str e))]
    rintro v H6 ⟨e6, rfl⟩
    rw [e6]; clear e6 H6
    have stn : ∀ h : valV P z = none, standV A B C P z = if w = "clash" then .non else if w = "other" then getV C z else getV B z := fun h => by rw [stand_no h, hw]
    have sto : OptS (standV A B C P z) := by
      cases hv : valV P z with
      | some v => rw [stand_yes hv]; exact hP _ _ hv
      | none =>
        rw [stn hv]
        split
        · exact .inl rfl
        · split
          · exact oC
          · exact oB
    have lft : leftB A B C P z = (!(valV P z).isSome && decide (w = "clash")) := by rw [hw]; rfl
    rw [← show w = M.markV ((valV A z).getD .non) ((valV B z).getD .non) ((valV C z).getD .non) from hw]
    refine seq_join (fun σ H' => H' = H5 ∧ σ = [some (.ref a), some (.ref b), some (.ref c), some (.ref d), some (.ref F), some (.ref G), some (.str z), some (.str w), some (if w = "other" then getV C z else getV B z)]) (fun N hj => hj _ _ ⟨rfl, rfl⟩) ?_
    rintro σ _ ⟨rfl, rfl⟩
    refine seq_join (fun σ H' => Same H H' ∧ H' L = some (.lst ((allP A B C).map V.str)) ∧ AtD H' F (madeL A B C P ((allP A B C).take i)) ∧ H' G = some (.lst ((leftL A B C P ((allP A B C).take (i + 1))).map V.str)) ∧ σ = [some (.ref a), some (.ref b), some (.ref c), some (.ref d), some (.ref F), some (.ref G), some (.str z), some (.str w), some (standV A B C P z)]) (fun N hj => ?_) ?_
    · walk_at "go"
      refine ⟨_, _, rfl, hd4.get z, ?_⟩
      walk_at "go"
      cases hv : valV P z with
      | some v =>
        rw [hv] at lft
        rw [lft, if_neg (by simp), List.append_nil] at nx2
        walk_at "go"
        refine ⟨_, _, rfl, hd4.getS hv, ?_⟩
        refine hj _ _ ⟨e4, hL4, hF4, by rw [nx2]; exact hG4, ?_⟩
        rw [stand_yes hv]; rfl
      | none =>
        rw [hv] at lft
        walk_at "go"
        refine iteD (fun hc => ?_) fun hc => ?_
        · have hc : w = "clash" := V.str.inj hc
          rw [lft, decide_eq_true hc, if_pos (by rfl)] at nx2
          walk_at "go"
          refine ⟨G, _, _, rfl, rfl, hG4, sl_lt (by rw [List.length_map]; omega), ?_⟩
          refine hj _ _ ⟨Same.mut e4 nG0, (upd_ne nLG).trans hL4, (upd_ne nFG).trans hF4, by rw [upd_same, nx2, List.map_append]; rfl, ?_⟩
          rw [stn hv, if_pos hc]; rfl
        · have hc : ¬ w = "clash" := fun e => hc (congrArg V.str e)
          rw [lft, decide_eq_false hc, if_neg (by simp), List.append_nil] at nx2
          refine hj _ _ ⟨e4, hL4, hF4, by rw [nx2]; exact hG4, ?_⟩
          rw [stn hv, if_neg hc]
    rintro σ H6 ⟨e6, hL6, hF6, hG6, rfl⟩
    walk_at "go"
    refine iteN (fun hs => ?_) fun hs => ?_
    · have hs' : standsB A B C P z = true := by unfold standsB; rw [decide_eq_false hs]; rfl
      rw [hs', if_pos rfl] at nx
      walk_at "go"
      refine ⟨_, _, rfl, hF6.put (by omega) z _, ?_⟩
      exact ⟨Same.mut e6 nF, (upd_ne nLF).trans hL6, by rw [nx]; exact upd_same, (upd_ne nFG.symm).trans hG6, _, _, _, rfl⟩
    · have hs' : standsB A B C P z = false := by unfold standsB; rw [decide_eq_true hs]; rfl
      rw [hs', if_neg (by simp)] at nx
      exact ⟨e6, hL6, by rw [nx]; exact hF6, hG6, _, _, _, rfl⟩
  · rintro σ H4 ⟨e4, hL4, hF4, hG4, v6, v7, v8, rfl⟩
    rw [List.length_map, List.take_length] at hF4 hG4
    walk_at "go"
    exact q p F G _ nF nG0 nFG (e4.trans (Same.new np)) upd_same ((Same.new np) _ _ hF4) ((Same.new np) _ _ hG4)
def spClash : Sp := fun vs H Q _ => ∃ (a b c : Addr) (A B C : Tr) (n : Nat), vs = [.ref a, .ref b, .ref c] ∧ AtD H a A ∧ AtD H b B ∧ AtD H c C ∧ TreeOk n A ∧ TreeOk n B ∧ TreeOk n C ∧ n ≤ 1000 ∧
  ∀ t ts H', H t = none → Same H H' → H' t = some (.lst (ts.map V.ref)) → TsAt H' ts (clashesL A B C) → Q (.ref t) H'
theorem okclashes (T : Txt K mg C_Book C_Clashed C_InTheWay C_NoClash C_NoFile C_NoPath C_NoVersion C_RoadError C_SameVersion) : Cal P w K mg base CX0 3 "clashes" ps_clashes (spClash) := by
  have sc := scclashes
  refine T.d_clashes.ok sc (by walk_at "len") (fun f cdv A outer s H vs Q E hr h => ?_)
  have hu := hu_of hr
  obtain ⟨a, b, c, A, B, C, n, rfl, ha, hb, hc, okA, okB, okC, hn, q⟩ := h
  have lA := okA.len
  have lB := okB.len
  have lC := okC.len
  have ll := left_len A B C []
  have lk := made_len A B C []
  refine ⟨_, PSs.cv (by exact (pss_cons (ps_asg (pe_calC (okput_together T) (hr.mono (by decide)) (by rfl) pass0 (pa_cons (pv 0) (pa_cons (pv 1) (pa_cons (pv 2) (pa_cons pe_dnewK pa_nil))))) (pg_tup rfl (pgs_cons (pg_name (i := 3) sc.nd rfl (Or.inl rfl)) (pgs_cons (pg_name (i := 4) sc.nd rfl (Or.inl rfl)) pgs_nil))))
      (pss_cons (ps_setLc (i := 5) rfl sc.nd rfl rfl (sw_true rfl rfl rfl (by decide +kernel)) (pi_list (pv 4)) (blkOk_by (own := [("path", 6)]) (N := sl_clashes) (sc := defScope s_clashes) (by decide +kernel)) (fun _ _ _ _ _ => (pg_name (i := 6) sc.nd rfl (by first | exact Or.inl rfl | exact Or.inr rfl))) (fun _ _ _ _ _ => pts_nil) (fun _ _ _ _ _ => PE.cv (by exact (pe_tup (pa_cons (pv 6) pa_nil))) (by walk_at "cv")))
      (pss_cons (ps_lock (ps_for PassesOwn.never rfl (pi_keys (pv 3)) (pg_name (i := 6) sc.nd rfl (Or.inl rfl)) (pss_one (ps_for PassesOwn.never rfl (pi_list (pe_calC (okabove T) (hr.mono (by decide)) (by rfl) pass0 (pa_cons (pv 6) pa_nil))) (pg_name (i := 7) sc.nd rfl (Or.inl rfl)) (pss_one (ps_if (pt_cmp (pc_din hu (pv 7) (pv 3))) (pss_one (ps_expr (pe_bm PySem.F.plainAttrs_list PySem.F.slot_list_append PySem.F.type_list_append mt_append (pv 5) (pa_cons (pe_tup (pa_cons (pv 7) (pa_cons (pv 6) pa_nil))) pa_nil)))) pss_nil))))))
      (pss_one (ps_ret (pe_callB cr_sortedTS (by rfl) T.n_sorted (by decide +kernel) (pa_cons (pv 5) pa_nil)))))))) (by walk_at "cv"), ?_⟩
  walk_at "go"
  intro P nP
  obtain ⟨H1, q1, e1, h1⟩ := alloc (o := HO.dK []) nP
  rw [q1]
  refine ⟨a, b, c, P, A, B, C, [], n, rfl, e1 _ _ ha, e1 _ _ hb, e1 _ _ hc, AtD.rd h1, okA, okB, okC, hn, fun p v h => (by cases h), fun t m l H2 nm nl nml e2 ht hm hl => ?_⟩
  have e02 := e1.trans e2
  have nm0 : H m = none := e1.free nm
  clear q1 h1 e1 e2
  walk_at "go"
  refine ⟨_, _, rfl, _, _, rfl, rfl, ?_⟩
  walk_at "go"
  refine ⟨⟨_, SqL.of hl⟩, fun D hD => ?_⟩
  refine lcR (j := 6) wL (by rfl) (fun H' e => SqL.of (e _ _ hl)) hD (fun _ => true) (TupAt D fun x => ([sV x] : List Str)) TupAt.mono (by rw [List.length_map]; omega) (fun _ => rfl) (fun x H3 hx e3 Q2 k => ?_) (fun x H3 hx hp e3 hDs Q2 k => ?_) fun ys H3 hp e3 hD3 => ?_
  · exact k _ (Same.refl _)
  · obtain ⟨z, hz, rfl⟩ := List.mem_map.mp hx
    obtain ⟨acc, hacc⟩ := hDs
    walk_at "go"
    exact k _ _ (Same.new np) ⟨_, rfl, (ne_of_none hacc np).symm, upd_same⟩
  obtain ⟨ts, rfl, hts⟩ := TsAt.of hp
  rw [List.filter_eq_self.mpr (fun _ _ => rfl), List.map_map, show ((fun x => ([sV x] : List Str)) ∘ V.str) = fun p => [p] from rfl] at hts
  have e03 := e02.trans e3
  have hm3 : AtD H3 m (madeT A B C []) := e3 _ _ hm
  have nD0 : H D = none := e02.free hD
  have nmD : m ≠ D := ne_of_none hm hD
  clear hp e3 hm hD e02 ht hl
  walk_at "go"
  have hT : ∀ z ∈ keys (madeT A B C []), isPathB z = true := fun z hz => made_path okA okB okC hz
  have hne : ∀ k ∈ clashRows A B C, k ≠ [] := rows_ne
  have q : ∀ (t : Addr) (ts : List Addr) (H' : Hp), H t = none → Same H H' → H' t = some (HO.lst (List.map V.ref ts)) → TsAt H' ts (srtT (clashRows A B C)) → Q (V.ref t) H' := q
  unfold clashRows at q hne
  have lS : ((leftT A B C []).map fun p => [p]).length ≤ A.length + B.length + C.length := by rw [List.length_map]; exact ll
  generalize ((leftT A B C []).map fun p => [p]) = S at *
  generalize madeT A B C [] = T at *
  refine ⟨m, _, hm3, trivial, fun od => ?_⟩
  have hL0 : upd H3 m (.frz od (.dK (kvs T))) m = some (.frz od (.dK (kvs T))) := upd_same
  have hD0 : upd H3 m (.frz od (.dK (kvs T))) D = some (.lst (ts.map V.ref)) := (upd_ne nmD.symm).trans hD3
  have t0 : TsAt (upd H3 m (.frz od (.dK (kvs T)))) ts S := hts.upd (hts.notO hm3 fun xs e => by cases e)
  have e0 : Same H (upd H3 m (.frz od (.dK (kvs T)))) := Same.mut e03 nm0
  generalize upd H3 m (.frz od (.dK (kvs T))) = HL at hL0 hD0 t0 e0 ⊢
  clear hts hD3 hm3 e03
  walk_at "go"
  refine ⟨m, od, rfl, .inl ⟨kvs T, hL0, ?_⟩⟩
  refine for_it wK (fun i σ H' => Same H H' ∧ H' m = some (.frz od (.dK (kvs T))) ∧ ∃ (ts : List Addr) (v6 v7 : Option V), H' D = some (.lst (ts.map V.ref)) ∧ TsAt H' ts (S ++ pairsL T ((keys T).take i)) ∧ σ = [some (.ref a), some (.ref b), some (.ref c), some (.ref m), some (.ref l), some (.ref D), v6, v7])
    ⟨e0, hL0, ts, _, _, hD0, by simpa [pairsL] using t0, rfl⟩ (fun i σ H' _ h => h.2.1) ?_ ?_
  · rintro i x σ H4 H5 hi ⟨e4, hL4, us, v6, v7, hD4, t4, rfl⟩ ⟨rfl, hx⟩
    rw [kvs_keys, List.getElem?_map] at hx
    obtain ⟨z, hz, rfl⟩ := Option.map_eq_some_iff.mp hx
    have hzT := List.mem_of_getElem? hz
    have hzp := hT z hzT
    have nx := pairs_next (T := T) hz
    have lp : (pairsL T ((keys T).take i)).length ≤ 7 * (keys T).length := by
      refine Nat.le_trans (pairs_len T fun w hw => hT w (List.mem_of_mem_take hw)) ?_
      rw [List.length_take]; omega
    walk_at "go"
    refine ⟨Nat.le_trans (path_len hzp) (by decide), fun L H6 nL e6 hL6 => ?_⟩
    have nDL : D ≠ L := ne_of_none hD4 nL
    have nmL : m ≠ L := ne_of_none hL4 nL
    have n0L : H L = none := e4.free nL
    walk_at "go"
    refine ⟨⟨_, SqL.of hL6⟩, ?_⟩
    refine for_it wL (fun j σ H' => Same H H' ∧ H' L = some (.lst ((aboveL z).map V.str)) ∧ H' m = some (.frz od (.dK (kvs T))) ∧ ∃ (ts : List Addr) (v7 : Option V), H' D = some (.lst (ts.map V.ref)) ∧ TsAt H' ts ((S ++ pairsL T ((keys T).take i)) ++ (((aboveL z).take j).filter fun q => (valV T q).isSome).map fun q => [q, z]) ∧ σ = [some (.ref a), some (.ref b), some (.ref c), some (.ref m), some (.ref l), some (.ref D), some (.str z), v7])
      ⟨e4.trans e6, hL6, e6 _ _ hL4, us, _, e6 _ _ hD4, by simpa using t4.same e6, rfl⟩ (fun j σ H' _ h => SqL.of h.2.1) ?_ ?_
    · rintro j y σ H7 H8 hj ⟨e7, hL7, hm7, us, v7, hD7, t7, rfl⟩ ⟨rfl, hy⟩
      rw [List.getElem?_map] at hy
      obtain ⟨u, hu2, rfl⟩ := Option.map_eq_some_iff.mp hy
      have nx2 := pair_next (T := T) hu2
      have lf := pair_few (T := T) hzp j
      have lu := t7.length
      rw [List.length_append, List.length_append] at lu
      walk_at "go"
      refine ⟨_, _, rfl, (rd_frz hm7).get u, ?_⟩
      walk_at "go"
      cases hv : (valV T u).isSome with
      | true =>
        rw [hv, if_pos rfl] at nx2
        walk_at "go"
        have eT := Same.new (o := HO.tup [V.str u, V.str z]) np
        have ht := upd_same (H := H8) (a := p) (o := HO.tup [V.str u, V.str z])
        refine ⟨D, _, _, rfl, rfl, eT _ _ hD7, sl_lt (by rw [List.length_map]; omega), ?_⟩
        refine ⟨Same.mut (e7.trans eT) nD0, (upd_ne nDL.symm).trans (eT _ _ hL7), (upd_ne nmD).trans (eT _ _ hm7), us ++ [p], _, by rw [upd_same, List.map_append]; rfl, ?_, rfl⟩
        rw [nx2, ← List.append_assoc]
        exact (t7.same eT).push (k := [u, z]) (eT _ _ hD7) ht
      | false =>
        rw [hv, if_neg (by simp), List.append_nil] at nx2
        exact ⟨e7, hL7, hm7, us, _, hD7, by rw [nx2]; exact t7, rfl⟩
    · rintro σ H7 ⟨e7, hL7, hm7, us, v7, hD7, t7, rfl⟩
      rw [List.length_map, List.take_length, List.append_assoc, ← nx] at t7
      exact ⟨e7, hm7, us, _, _, hD7, t7, rfl⟩
  rintro σ H4 ⟨e4, hL4, us, v6, v7, hD4, t4, rfl⟩
  rw [kvs_len, show (keys T).take T.length = keys T from List.take_of_length_le (by rw [List.length_map]; exact Nat.le_refl _)] at t4
  refine ⟨hL4, ?_⟩
  have lp := pairs_len T hT
  have lu := t4.length
  rw [List.length_append] at lu
  have t5 : TsAt (upd H4 m (HO.dK (kvs T))) us (S ++ pairsL T (keys T)) := t4.upd (t4.notO hL4 fun xs e => by cases e)
  have hD5 : upd H4 m (HO.dK (kvs T)) D = _ := (upd_ne nmD.symm).trans hD4
  have e5 : Same H (upd H4 m (HO.dK (kvs T))) := Same.mut e4 nm0
  generalize upd H4 m (HO.dK (kvs T)) = H5 at t5 hD5 e5 ⊢
  walk_at "go"
  refine ⟨K, D, us, keyAt H5, rfl, hD5, fun t ht => ⟨(t5.all t ht).1, hne _ (t5.all t ht).2⟩, fun ws r pm ks nr => ?_⟩
  exact q r ws _ (e5.free nr) (e5.trans (Same.new nr)) upd_same ((t5.sorted pm ks).same (Same.new nr))
structure Joins (a b c d : Addr) (A B C P : Tr) (n : Nat) (H : Hp) : Prop where
  hA : AtD H a A
  hB : AtD H b B
  hC : AtD H c C
  hP : RdD H d P
  okA : TreeOk n A
  okB : TreeOk n B
  okC : TreeOk n C
  da : a ≠ d
  db : b ≠ d
  dc : c ≠ d
  optP : ∀ p v, valV P p = some v → OptS v
  lP : P.length ≤ 100000
theorem Joins.same {a b c d : Addr} {A B C P : Tr} {n : Nat} {H H' : Hp} (h : Joins a b c d A B C P n H) (e : Same H H') : Joins a b c d A B C P n H' :=
  ⟨e _ _ h.hA, e _ _ h.hB, e _ _ h.hC, Same.rdd e h.hP, h.okA, h.okB, h.okC, h.da, h.db, h.dc, h.optP, h.lP⟩
theorem Joins.sameF {a b c d : Addr} {A B C P : Tr} {n : Nat} {H H' : Hp} (h : Joins a b c d A B C P n H) (e : SameF d P H H') : Joins a b c d A B C P n H' :=
  ⟨e.1 _ _ h.da h.hA, e.1 _ _ h.db h.hB, e.1 _ _ h.dc h.hC, e.2, h.okA, h.okB, h.okC, h.da, h.db, h.dc, h.optP, h.lP⟩
theorem Joins.swap {a b c d : Addr} {A B C P : Tr} {n : Nat} {H : Hp} (h : Joins a b c d A B C P n H) : Joins a c b d A C B P n H :=
  ⟨h.hA, h.hC, h.hB, h.hP, h.okA, h.okC, h.okB, h.da, h.dc, h.db, h.optP, h.lP⟩
def spJoined (C1 C2 : Addr) : Sp := fun vs H Q E => ∃ (a b c d : Addr) (A B C P : Tr) (n : Nat), vs = [.ref a, .ref b, .ref c, .ref d] ∧ Joins a b c d A B C P n H ∧ n ≤ 1000 ∧
  match joinR A B C P with
  | .tree G => ∀ p H', H p = none → Same H H' → AtD H' p G → Q (.ref p) H'
  | .noClash => ∀ H', SameF d P H H' → E (.ref C1) none H'
  | .clashed => ∀ H', Same H H' → E (.ref C2) none H'
def blkJ (C2 : Addr) (E : XK) : TS := fun D σ H => ∃ (a b c d : Addr) (A B C P : Tr) (n : Nat) (H0 : Hp) (v4 v5 v6 : Option V), Joins a b c d A B C P n H ∧ n ≤ 1000 ∧ Same H0 H ∧
  σ = [some (.ref a), some (.ref b), some (.ref c), some (.ref d), v4, v5, v6, none, none] ∧
  (goodB A B C P = true → ∀ p H', H0 p = none → Same H0 H' → AtD H' p (madeT A B C P) → D.rt (.ref p) H') ∧ (goodB A B C P = false → ∀ H', Same H0 H' → E (.ref C2) none H')
theorem okjoined_J (T : Txt K mg C_Book C_Clashed C_InTheWay C_NoClash C_NoFile C_NoPath C_NoVersion C_RoadError C_SameVersion) {f : Addr} {cdv : Value} {A : Around} {outer : List Env} {s : Shared} {H₀ : Hp} {E : XK} (hr : Room 3 (A.deeper (envOfC "joined" (defScope s_joined) s.heap.objs.size f cdv))) : PSs (cxOf (L2N.CX P w) P w K mg base sl_joined "joined" (defScope s_joined) f cdv A outer s H₀ E) ((defBody s_joined).drop 3) (blkJ C_Clashed E) := by
  have sc := scjoined
  have hu := hu_of hr
  refine PSs.weak (PSs.cv (by exact (pss_cons (ps_asg (pe_calC (okput_together T) (hr.mono (by decide)) (by rfl) pass0 (pa_cons (pv 0) (pa_cons (pv 1) (pa_cons (pv 2) (pa_cons (pv 3) pa_nil))))) (pg_tup rfl (pgs_cons (pg_name (i := 7) sc.nd rfl (Or.inl rfl)) (pgs_cons (pg_name (i := 8) sc.nd rfl (Or.inl rfl)) pgs_nil))))
      (pss_cons (ps_if (PW.pt (pw_or (pt_cmpR op_gt (pe_callB call_len_seq (by rfl) T.n_len (by decide +kernel) (pa_cons (pv 8) pa_nil)) pe_int (nomark _)) (pw_or1 (pt_not (pt_val (pe_calC (okis_tree T) (hr.mono (by decide)) (by rfl) pass0 (pa_cons (pv 7) pa_nil))))))) (pss_one (L2N.ps_raise rfl (L2N.takes_of rfl rfl rfl rfl) (L2N.pmk_own PySem.F.excBase_ValueError T.x_Clashed.xC T.x_Clashed.gC T.x_Clashed.kC (raises_own T.x_Clashed.bC T.x_Clashed.tC) (by exact rfl)))) pss_nil)
      (pss_one (ps_ret (pv 7)))))) (by walk_at "cv")) (fun D σ H h => ?_)
  obtain ⟨a, b, c, d, A, B, C, P, n, H0, v4, v5, v6, jn, hn, e0, rfl, q1, q2⟩ := h
  have lA := jn.okA.len
  have lB := jn.okB.len
  have lC := jn.okC.len
  walk_at "go"
  refine ⟨a, b, c, d, A, B, C, P, n, rfl, jn.hA, jn.hB, jn.hC, jn.hP, jn.okA, jn.okB, jn.okC, hn, jn.optP, fun t m l H1 nm nl nml e1 ht hm hl => ?_⟩
  have e01 := e0.trans e1
  have lm := made_len A B C P
  rw [List.length_map] at lm
  walk_at "go"
  refine ⟨_, _, rfl, _, _, rfl, rfl, ?_⟩
  walk_at "go"
  rw [List.length_map]
  cases hlf : leftT A B C P with
  | cons x xs =>
    have hg : goodB A B C P = false := by unfold goodB; rw [hlf]; rfl
    walk_at "go"
    refine iteD (fun h => ?_) fun h => absurd (by simp) h
    exact q2 hg _ e01
  | nil =>
    walk_at "go"
    refine ⟨by omega, fun p hp => Nat.le_trans (path_len (made_path jn.okA jn.okB jn.okC hp)) (by decide), fun H2 e2 => ?_⟩
    have hg : goodB A B C P = isTreeB (madeT A B C P) := by unfold goodB; rw [hlf]; rfl
    walk_at "go"
    refine iteBN (fun hv => ?_) fun hv => ?_
    · exact q2 (hg.trans hv) _ (e01.trans e2)
    · walk_at "go"
      exact q1 (hg.trans hv) m _ (e0.free nm) (e01.trans e2) (e2 _ _ hm)
theorem okjoined (T : Txt K mg C_Book C_Clashed C_InTheWay C_NoClash C_NoFile C_NoPath C_NoVersion C_RoadError C_SameVersion) : Cal P w K mg base (L2N.CX P w) 4 "joined" ps_joined (spJoined C_NoClash C_Clashed) := by
  have sc := scjoined
  refine T.d_joined.okX sc (by walk_at "len") (fun f cdv A outer s H vs Q E hr h => ?_)
  have hu := hu_of hr
  obtain ⟨a, b, c, d, A, B, C, P, n, rfl, jn, hn, q⟩ := h
  have lA := jn.okA.len
  have lB := jn.okB.len
  have lC := jn.okC.len
  have lc := clash_len jn.okA jn.okB jn.okC
  refine ⟨_, PSs.cv (by exact (pss_cons (ps_set (i := 4) sc.nd rfl (Or.inl rfl) pe_dnewK)
      (pss_cons (ps_for (passes_of rfl) rfl (pi_list (pe_calC (okclashes T) (hr.mono (by decide)) (by rfl) pass0 (pa_cons (pv 0) (pa_cons (pv 1) (pa_cons (pv 2) pa_nil))))) (pg_name (i := 5) sc.nd rfl (Or.inl rfl)) (pss_one (ps_for (passes_of rfl) rfl (pi_tup (pv 5)) (pg_name (i := 6) sc.nd rfl (Or.inl rfl)) (pss_one (ps_dput hu (pv 4) (pv 6) pe_bl rfl)))))
      (pss_cons (ps_lockO (ps_for (passes_of rfl) rfl (pi_keys (pv 3)) (pg_name (i := 6) sc.nd rfl (Or.inl rfl)) (pss_one (ps_if (pt_cmp (pc_dnotin hu (pv 6) (pv 4))) (pss_one (L2N.ps_raise rfl (L2N.takes_of rfl rfl rfl rfl) (L2N.pmk_own PySem.F.excBase_ValueError T.x_NoClash.xC T.x_NoClash.gC T.x_NoClash.kC (raises_own T.x_NoClash.bC T.x_NoClash.tC) (by exact rfl)))) pss_nil))))
      (okjoined_J T hr))))) (by walk_at "cv"), ?_⟩
  walk_at "go"
  intro F nF
  obtain ⟨H1, q1, e1, h1⟩ := alloc (o := HO.dK []) nF
  rw [q1]
  have j1 := jn.same e1
  walk_at "go"
  refine ⟨a, b, c, A, B, C, n, rfl, j1.hA, j1.hB, j1.hC, j1.okA, j1.okB, j1.okC, hn, fun L ts H2 nL e2 hL hts => ?_⟩
  have hF2 : AtD H2 F [] := e2 _ _ h1
  have nLF : L ≠ F := (ne_of_none h1 nL).symm
  have e02 := e1.trans e2
  have lts := hts.length
  clear q1 h1 e1 e2 nL
  walk_at "go"
  refine ⟨⟨_, SqL.of hL⟩, ?_⟩
  refine for_it wL (fun i σ H' => Same H H' ∧ H' L = some (.lst (ts.map V.ref)) ∧ TsAt H' ts (clashesL A B C) ∧ ∃ (T : Tr) (v5 v6 : Option V), AtD H' F T ∧ T.length ≤ 2 * i ∧ (∀ p, p ∈ keys T ↔ p ∈ ((clashesL A B C).take i).flatten) ∧ σ = [some (.ref a), some (.ref b), some (.ref c), some (.ref d), some (.ref F), v5, v6, none, none])
    ⟨e02, hL, hts, [], _, _, hF2, by simp, by simp, rfl⟩ (fun i σ H' _ h => SqL.of h.2.1) ?_ ?_
  · rintro i x σ H3 H4 hi ⟨e3, hL3, ht3, T, v5, v6, hF3, lT, kT, rfl⟩ ⟨rfl, hx⟩
    rw [List.getElem?_map] at hx
    obtain ⟨t1, ht1, rfl⟩ := Option.map_eq_some_iff.mp hx
    obtain ⟨k, hkr, hk⟩ := Paired.get ht3 ht1
    have k2 := clash_path jn.okA jn.okB jn.okC (List.mem_of_getElem? hkr)
    rw [List.length_map] at hi
    walk_at "go"
    refine ⟨⟨_, SqT.of hk⟩, ?_⟩
    refine for_it wT (fun j σ H' => Same H H' ∧ H' L = some (.lst (ts.map V.ref)) ∧ TsAt H' ts (clashesL A B C) ∧ H' t1 = some (.tup (k.map V.str)) ∧ ∃ (T : Tr) (v6 : Option V), AtD H' F T ∧ T.length ≤ 2 * i + j ∧ (∀ p, p ∈ keys T ↔ p ∈ ((clashesL A B C).take i).flatten ++ k.take j) ∧ σ = [some (.ref a), some (.ref b), some (.ref c), some (.ref d), some (.ref F), some (.ref t1), v6, none, none])
      ⟨e3, hL3, ht3, hk, T, _, hF3, by omega, by simpa using kT, rfl⟩ (fun i σ H' _ h => SqT.of h.2.2.2.1) ?_ ?_
    · rintro j y σ H5 H6 hj ⟨e5, hL5, ht5, hk5, T, v6, hF5, lT, kT, rfl⟩ ⟨rfl, hy⟩
      rw [List.getElem?_map] at hy
      obtain ⟨z, hz, rfl⟩ := Option.map_eq_some_iff.mp hy
      rw [List.length_map] at hj
      walk_at "go"
      refine ⟨_, _, rfl, hF5.put (by omega) z _, ?_⟩
      have nt : F ≠ t1 := fun e => by
        have hF5 : H6 F = some (.dK (kvs T)) := hF5
        rw [e, hk5] at hF5; cases hF5
      refine ⟨Same.mut e5 nF, (upd_ne nLF).trans hL5, ht5.upd (ht5.notO hF5 fun xs e => by cases e), (upd_ne nt.symm).trans hk5, _, _, upd_same, Nat.le_trans (put_len _ _ _) (by omega), fun p => ?_, rfl⟩
      rw [mem_keys_put, kT, List.take_add_one, hz]
      simp [or_comm, or_left_comm, or_assoc]
    rintro σ H5 ⟨e5, hL5, ht5, hk5, T, v6, hF5, lT, kT, rfl⟩
    rw [List.length_map] at lT kT
    rw [List.take_length, ← flat_next hkr] at kT
    exact ⟨e5, hL5, ht5, T, _, _, hF5, by omega, kT, rfl⟩
  rintro σ H3 ⟨e3, hL3, ht3, T, v5, v6, hF3, lT, kT, rfl⟩
  rw [List.length_map, lts, List.take_length] at kT
  have j3 := jn.same e3
  have nFd : F ≠ d := fun e => by
    subst e
    rcases jn.hP with h | ⟨o, h⟩ <;> rw [nF] at h <;> cases h
  have hTp : ∀ p, (valV T p).isSome = placeB A B C p := fun p => by
    rw [val_some, placeB]
    exact decide_eq_decide.mpr (kT p)
  have bad : ∀ {p : Str}, p ∈ keys P → placeB A B C p = false → joinR A B C P = .noClash := fun {p} hp hb => by
    unfold joinR pickB
    rw [if_pos (List.all_eq_false.mpr ⟨p, hp, by rw [hb]; simp⟩)]
  have good : (keys P).all (placeB A B C) = true → ∀ H3, Joins a b c d A B C P n H3 → Same H H3 → ∀ v6, blkJ C_Clashed E { nx := fun x H' => Q V.non H', rt := Q } [some (.ref a), some (.ref b), some (.ref c), some (.ref d), some (.ref F), v5, v6, none, none] H3 := fun hp H3 j3 e3 v6 => by
    have hp : pickB A B C P = true := hp
    refine ⟨a, b, c, d, A, B, C, P, n, H, _, _, _, j3, hn, e3, rfl, fun hg => ?_, fun hg => ?_⟩
    · rw [joinR, hp, if_neg (by simp), hg, if_pos rfl] at q
      exact q
    · rw [joinR, hp, if_neg (by simp), hg, if_neg (by simp)] at q
      exact q
  clear jn j1 e02 hL hts hF2 nLF hL3 ht3 kT lts
  rcases j3.hP with hP | ⟨od, hP⟩
  · refine Or.inl ⟨d, _, hP, trivial, fun od => ?_⟩
    have fr : upd H3 d (.frz od (.dK (kvs P))) d = some (.frz od (.dK (kvs P))) := upd_same
    have sf : SameF d P H (upd H3 d (.frz od (.dK (kvs P)))) := ⟨fun b w n h => (upd_ne n).trans (e3 b w h), rd_frz upd_same⟩
    have hFL : AtD (upd H3 d (.frz od (.dK (kvs P)))) F T := (upd_ne nFd).trans hF3
    have back := upd_back (o := .frz od (.dK (kvs P))) hP
    generalize upd H3 d (.frz od (.dK (kvs P))) = HL at fr sf hFL back ⊢
    walk_at "go"
    refine ⟨d, od, rfl, .inl ⟨kvs P, fr, ?_⟩⟩
    refine for_it wK (fun i σ H' => H' = HL ∧ ((keys P).take i).all (placeB A B C) = true ∧ ∃ v6 : Option V, σ = [some (.ref a), some (.ref b), some (.ref c), some (.ref d), some (.ref F), v5, v6, none, none])
      ⟨rfl, rfl, _, rfl⟩ (fun i σ H' _ h => h.1 ▸ fr) ?_ ?_
    · rintro i x σ H4 H5 hi ⟨rfl, hal, v6, rfl⟩ ⟨rfl, hx⟩
      rw [kvs_keys, List.getElem?_map] at hx
      obtain ⟨z, hz, rfl⟩ := Option.map_eq_some_iff.mp hx
      walk_at "go"
      refine ⟨_, _, rfl, hFL.rd.get z, ?_⟩
      rw [hTp]
      cases hb : placeB A B C z with
      | true =>
        walk_at "go"
        exact ⟨by rw [List.take_add_one, hz, List.all_append, hal]; simp [hb], _, rfl⟩
      | false =>
        rw [bad (List.mem_of_getElem? hz) hb] at q
        walk_at "go"
        exact q _ sf
    rintro σ H4 ⟨rfl, hal, v6, rfl⟩
    rw [kvs_len, show (keys P).take P.length = keys P from List.take_of_length_le (by rw [List.length_map]; exact Nat.le_refl _)] at hal
    refine ⟨fr, ?_⟩
    rw [back]
    exact good hal _ j3 e3 _
  · refine Or.inr ?_
    have sf : SameF d P H H3 := ⟨fun b w n h => e3 b w h, j3.hP⟩
    walk_at "go"
    refine ⟨d, od, rfl, .inl ⟨kvs P, hP, ?_⟩⟩
    refine for_it wK (fun i σ H' => H' = H3 ∧ ((keys P).take i).all (placeB A B C) = true ∧ ∃ v6 : Option V, σ = [some (.ref a), some (.ref b), some (.ref c), some (.ref d), some (.ref F), v5, v6, none, none])
      ⟨rfl, rfl, _, rfl⟩ (fun i σ H' _ h => h.1 ▸ hP) ?_ ?_
    · rintro i x σ H4 H5 hi ⟨rfl, hal, v6, rfl⟩ ⟨rfl, hx⟩
      rw [kvs_keys, List.getElem?_map] at hx
      obtain ⟨z, hz, rfl⟩ := Option.map_eq_some_iff.mp hx
      walk_at "go"
      refine ⟨_, _, rfl, hF3.rd.get z, ?_⟩
      rw [hTp]
      cases hb : placeB A B C z with
      | true =>
        walk_at "go"
        exact ⟨by rw [List.take_add_one, hz, List.all_append, hal]; simp [hb], _, rfl⟩
      | false =>
        rw [bad (List.mem_of_getElem? hz) hb] at q
        walk_at "go"
        exact q _ sf
    rintro σ H4 ⟨rfl, hal, v6, rfl⟩
    rw [kvs_len, show (keys P).take P.length = keys P from List.take_of_length_le (by rw [List.length_map]; exact Nat.le_refl _)] at hal
    exact good hal _ j3 e3 _
def spInit (C : Addr) : Sp := fun vs H Q _ => ∃ (b dx : Addr), vs = [.ref b] ∧ H b = some (.ins C dx []) ∧
  ∀ t o ts os H', H t = none → H o = none → t ≠ o → (∀ a w, a ≠ b → H a = some w → H' a = some w) → BkAt C b dx t o ts os [[]] [[]] H' → Q .non H'
theorem okBook___init__ (T : Txt K mg C_Book C_Clashed C_InTheWay C_NoClash C_NoFile C_NoPath C_NoVersion C_RoadError C_SameVersion) : MCal P w K mg base CX0 1 C_Book "__init__" ps_Book___init__ (spInit C_Book) := by
  have sc := scBook___init__
  refine T.d_Book___init__.ok sc (by walk_at "len") (fun f cdv A outer s H vs Q E hr h => ?_)
  have hu := hu_of hr
  obtain ⟨b, dx, rfl, hb, q⟩ := h
  refine ⟨_, PSs.cv (by exact (pss_cons (ps_fld (pv 0) (pe_lst (pa_cons pe_dnewK pa_nil)) rfl)
      (pss_one (ps_fld (pv 0) (pe_lst (pa_cons (pe_tup pa_nil) pa_nil)) rfl)))) (by walk_at "cv"), ?_⟩
  show ∀ d, H d = none → _
  intro d nd
  obtain ⟨H1, q1, e1, h1⟩ := alloc (o := HO.dK []) nd
  rw [q1]
  have hb1 := e1 _ _ hb
  refine ⟨(show (1 : Nat) ≤ sizeLine by decide), fun t nt => ?_⟩
  obtain ⟨H2, q2, e2, h2⟩ := alloc (o := HO.lst [V.ref d]) nt
  rw [q2]
  have hb2 := e2 _ _ hb1
  refine ⟨_, rfl, b, C_Book, dx, _, rfl, hb2, T.cl_Book, T.a_trees, by decide, ?_⟩
  have nb2 : ∀ {a : Addr} {w : HO}, a ≠ b → H2 a = some w → upd H2 b (.ins C_Book dx (putF (Str.ofString "trees") (.ref t) [])) a = some w := fun n h => (upd_ne n).trans h
  have hb3 : upd H2 b (.ins C_Book dx (putF (Str.ofString "trees") (.ref t) [])) b = _ := upd_same
  have hfree : ∀ {a : Addr}, upd H2 b (.ins C_Book dx (putF (Str.ofString "trees") (.ref t) [])) a = none → H2 a = none := fun {a} h => by
    by_cases e : a = b
    · subst e; rw [upd_same] at h; cases h
    · rwa [upd_ne e] at h
  generalize upd H2 b (.ins C_Book dx (putF (Str.ofString "trees") (.ref t) [])) = H3 at nb2 hb3 hfree ⊢
  show _ ∧ ∀ p, H3 p = none → _
  refine ⟨by decide, fun p np => ?_⟩
  obtain ⟨H4, q4, e4, h4⟩ := alloc (o := HO.tup []) np
  rw [q4]
  refine ⟨(show (1 : Nat) ≤ sizeLine by decide), fun o no => ?_⟩
  obtain ⟨H5, q5, e5, h5⟩ := alloc (o := HO.lst [V.ref p]) no
  rw [q5]
  have hb5 := (e4.trans e5) _ _ hb3
  refine ⟨_, rfl, b, C_Book, dx, _, rfl, hb5, T.cl_Book, T.a_older, (show (1 : Nat) < 1000 by decide), ?_⟩
  have ht0 : H t = none := e1.free nt
  have ndb : d ≠ b := (ne_of_none hb nd).symm
  have ntb : t ≠ b := (ne_of_none hb1 nt).symm
  have hp0 := hfree np
  have ho0 := hfree (e4.free no)
  have npb : p ≠ b := (ne_of_none hb2 hp0).symm
  have nob : o ≠ b := (ne_of_none hb2 ho0).symm
  have nto : t ≠ o := ne_of_none h2 ho0
  have tot : ∀ {a : Addr} {w : HO}, a ≠ b → H2 a = some w → upd H5 b (.ins C_Book dx (putF (Str.ofString "older") (.ref o) (putF (Str.ofString "trees") (.ref t) []))) a = some w := fun n h => (upd_ne n).trans ((e4.trans e5) _ _ (nb2 n h))
  refine q t o [d] [p] _ ht0 ((e1.trans e2).free ho0) nto (fun a w n h => tot n (e2 _ _ (e1 _ _ h))) ⟨?_, tot ntb h2, (upd_ne nob).trans h5, .cons (tot ndb (e2 _ _ h1)) .nil, .cons ((upd_ne npb).trans (e5 _ _ h4)) .nil, rfl, nto⟩
  rw [upd_same]
  have e : putF (Str.ofString "older") (V.ref o) (putF (Str.ofString "trees") (V.ref t) []) = bkF t o := by
    rfl
  rw [e]
def spMany (C : Addr) : Sp := fun vs H Q _ => ∃ (b dx t o : Addr) (ts os : List Addr) (Gs : List Tr) (Ps : List (List Nat)), vs = [.ref b] ∧ BkAt C b dx t o ts os Gs Ps H ∧ Q (nV Gs.length) H
theorem okBook_many (T : Txt K mg C_Book C_Clashed C_InTheWay C_NoClash C_NoFile C_NoPath C_NoVersion C_RoadError C_SameVersion) : MCal P w K mg base CX0 1 C_Book "many" ps_Book_many (spMany C_Book) := by
  have sc := scBook_many
  refine T.d_Book_many.ok sc (by walk_at "len") (fun f cdv A outer s H vs Q E hr h => ?_)
  have hu := hu_of hr
  obtain ⟨b, dx, t, o, ts, os, Gs, Ps, rfl, bk, q⟩ := h
  refine ⟨_, PSs.cv (by exact (pss_one (ps_ret (pe_callB call_len_seq (by rfl) T.n_len (by decide +kernel) (pa_cons (pe_fld (pv 0) rfl) pa_nil))))) (by walk_at "cv"), ?_⟩
  have ht := bk.tr
  have hl := bk.tlen
  walk_at "go"
  refine ⟨b, C_Book, dx, _, _, rfl, bk.ins, T.cl_Book, T.a_trees, lk_trees t o, ?_⟩
  walk_at "go"
  rw [List.length_map, hl]
  exact q
def spNeed (C C1 : Addr) : Sp := fun vs H Q E => ∃ (b dx t o : Addr) (ts os : List Addr) (Gs : List Tr) (Ps : List (List Nat)) (v : V), vs = [.ref b, v] ∧ BkAt C b dx t o ts os Gs Ps H ∧ ((∃ n, v = .int n) ∨ ∃ x, v = .bl x) ∧
  (okV Gs.length v = true → Q .non H) ∧ (okV Gs.length v = false → E (.ref C1) none H)
theorem okBook_need (T : Txt K mg C_Book C_Clashed C_InTheWay C_NoClash C_NoFile C_NoPath C_NoVersion C_RoadError C_SameVersion) : MCal P w K mg base (L2N.CX P w) 1 C_Book "need" ps_Book_need (spNeed C_Book C_NoVersion) := by
  have sc := scBook_need
  refine T.d_Book_need.okX sc (by walk_at "len") (fun f cdv A outer s H vs Q E hr h => ?_)
  have hu := hu_of hr
  obtain ⟨b, dx, t, o, ts, os, Gs, Ps, v, rfl, bk, hv, q1, q2⟩ := h
  refine ⟨_, PSs.cv (by exact (pss_one (ps_if (PW.pt (pw_or (pt_not (pt_val (pe_callB call_isi (by rfl) T.n_isinstance (by decide +kernel) (pa_cons (pv 1) (pa_cons (pe_bltn (v := .ty "int") (by rfl) T.n_int (by decide +kernel) rfl) pa_nil))))) (pw_or (pt_val (pe_callB call_isi (by rfl) T.n_isinstance (by decide +kernel) (pa_cons (pv 1) (pa_cons (pe_bltn (v := .ty "bool") (by rfl) T.n_bool (by decide +kernel) rfl) pa_nil)))) (pw_or1 (pt_not (pt_chain op_le op_lt pe_int (pv 1) (pe_callB call_len_seq (by rfl) T.n_len (by decide +kernel) (pa_cons (pe_fld (pv 0) rfl) pa_nil)))))))) (pss_one (L2N.ps_raise rfl (L2N.takes_of rfl rfl rfl rfl) (L2N.pmk_own PySem.F.excBase_ValueError T.x_NoVersion.xC T.x_NoVersion.gC T.x_NoVersion.kC (raises_own T.x_NoVersion.bC T.x_NoVersion.tC) (by exact rfl)))) pss_nil))) (by walk_at "cv"), ?_⟩
  have ht := bk.tr
  have hl := bk.tlen
  rcases hv with ⟨n, rfl⟩ | ⟨x, rfl⟩
  · walk_at "go"
    refine iteD (fun h0 => ?_) fun h0 => ?_
    · walk_at "go"
      refine ⟨b, C_Book, dx, _, _, rfl, bk.ins, T.cl_Book, T.a_trees, lk_trees t o, ?_⟩
      walk_at "go"
      rw [List.length_map, hl]
      refine iteBN (fun hv => ?_) fun hv => ?_
      · exact q2 (decide_eq_false fun h => absurd h.2 (of_decide_eq_false hv))
      · exact q1 (decide_eq_true ⟨h0, of_decide_eq_true hv⟩)
    · walk_at "go"
      exact q2 (decide_eq_false fun h => h0 h.1)
  · walk_at "go"
    exact q2 rfl
def spParents (C C1 : Addr) : Sp := fun vs H Q E => ∃ (b dx t o : Addr) (ts os : List Addr) (Gs : List Tr) (Ps : List (List Nat)) (v : V), vs = [.ref b, v] ∧ BkAt C b dx t o ts os Gs Ps H ∧ ((∃ n, v = .int n) ∨ ∃ x, v = .bl x) ∧
  (∀ n : Nat, v = nV n → n < Gs.length → ∀ a p, Ps[n]? = some p → H a = some (.tup (p.map nV)) → Q (.ref a) H) ∧ (okV Gs.length v = false → E (.ref C1) none H)
theorem okV_nat {m : Nat} {v : V} (h : okV m v = true) : ∃ n : Nat, v = nV n ∧ n < m := by
  cases v with
  | int i =>
    have h := of_decide_eq_true h
    exact ⟨i.toNat, by rw [nV, Int.toNat_of_nonneg h.1], by omega⟩
  | _ => cases h
theorem at_refs {ts : List Addr} {n : Nat} {a : Addr} (h : ts[n]? = some a) : atI (ts.map V.ref) (n : Int) = some (.ref a) := atI_nat (by rw [List.getElem?_map, h]; rfl)
theorem okBook_parents (T : Txt K mg C_Book C_Clashed C_InTheWay C_NoClash C_NoFile C_NoPath C_NoVersion C_RoadError C_SameVersion) : MCal P w K mg base (L2N.CX P w) 2 C_Book "parents" ps_Book_parents (spParents C_Book C_NoVersion) := by
  have sc := scBook_parents
  refine T.d_Book_parents.okX sc (by walk_at "len") (fun f cdv A outer s H vs Q E hr h => ?_)
  have hu := hu_of hr
  obtain ⟨b, dx, t, o, ts, os, Gs, Ps, v, rfl, bk, hv, q1, q2⟩ := h
  refine ⟨_, PSs.cv (by exact (pss_cons (ps_expr (pe_mcal T.cl_Book (okBook_need T) (hr.mono (by decide)) (L2N.passes_call (L2N.takes_of rfl rfl rfl rfl) (fun _ _ _ _ h => h)) (pv 0) (pa_cons (pv 1) pa_nil)))
      (pss_one (ps_ret (pe_ix ix_list (pe_fld (pv 0) rfl) (pv 1) (fun _ _ => rfl)))))) (by walk_at "cv"), ?_⟩
  have ho := bk.ol
  have hl := bk.olen
  refine ⟨_, rfl, b, dx, _, rfl, bk.ins, lk_meth t o _ (by decide +kernel) (by decide +kernel), ?_⟩
  walk_at "go"
  refine ⟨b, dx, t, o, ts, os, Gs, Ps, v, rfl, bk, hv, fun hok => ?_, q2⟩
  obtain ⟨n, rfl, hn⟩ := okV_nat hok
  walk_at "go"
  refine ⟨b, C_Book, dx, _, _, rfl, bk.ins, T.cl_Book, T.a_older, lk_older t o, ?_⟩
  walk_at "go"
  obtain ⟨a, ha⟩ : ∃ a, os[n]? = some a := ⟨os[n], List.getElem?_eq_getElem (by omega)⟩
  obtain ⟨p, hp, hap⟩ := Paired.get bk.ps ha
  refine ⟨_, _, _, _, rfl, rfl, SqL.of ho, at_refs ha, ?_⟩
  exact q1 n rfl hn a p hp hap
def spMade (C : Addr) : Sp := fun vs H Q _ => ∃ (b dx t o x y : Addr) (ts os : List Addr) (Gs : List Tr) (Ps : List (List Nat)) (G : Tr) (p : List Nat), vs = [.ref b, .ref x, .ref y] ∧ BkAt C b dx t o ts os Gs Ps H ∧ AtD H x G ∧ H y = some (.tup (p.map nV)) ∧ Gs.length ≤ 100000 ∧
  ∀ H', Same2 t o H H' → BkAt C b dx t o (ts ++ [x]) (os ++ [y]) (Gs ++ [G]) (Ps ++ [p]) H' → Q (nV Gs.length) H'
theorem okBook_made (T : Txt K mg C_Book C_Clashed C_InTheWay C_NoClash C_NoFile C_NoPath C_NoVersion C_RoadError C_SameVersion) : MCal P w K mg base CX0 1 C_Book "made" ps_Book_made (spMade C_Book) := by
  have sc := scBook_made
  refine T.d_Book_made.ok sc (by walk_at "len") (fun f cdv A outer s H vs Q E hr h => ?_)
  have hu := hu_of hr
  obtain ⟨b, dx, t, o, x, y, ts, os, Gs, Ps, G, p, rfl, bk, hx, hy, lG, q⟩ := h
  refine ⟨_, PSs.cv (by exact (pss_cons (ps_expr (pe_bm PySem.F.plainAttrs_list PySem.F.slot_list_append PySem.F.type_list_append mt_append (pe_fld (pv 0) rfl) (pa_cons (pv 1) pa_nil)))
      (pss_cons (ps_expr (pe_bm PySem.F.plainAttrs_list PySem.F.slot_list_append PySem.F.type_list_append mt_append (pe_fld (pv 0) rfl) (pa_cons (pv 2) pa_nil)))
      (pss_one (ps_ret (pe_op op_sub (pe_callB call_len_seq (by rfl) T.n_len (by decide +kernel) (pa_cons (pe_fld (pv 0) rfl) pa_nil)) pe_int)))))) (by walk_at "cv"), ?_⟩
  have lt := bk.tlen
  have lo := bk.olen
  have ht := bk.tr
  have ho := bk.ol
  obtain ⟨bk2, s2⟩ := bk.push hx hy
  walk_at "go"
  refine ⟨b, C_Book, dx, _, _, rfl, bk.ins, T.cl_Book, T.a_trees, lk_trees t o, ?_⟩
  walk_at "go"
  refine ⟨t, _, _, rfl, rfl, ht, sl_lt (by rw [List.length_map]; omega), ?_⟩
  have nb : b ≠ t := fun e => by have := bk.ins; rw [e, ht] at this; cases this
  have no : o ≠ t := bk.tno.symm
  have ho2 : upd H t (.lst (ts.map V.ref ++ [V.ref x])) o = some (.lst (os.map V.ref)) := (upd_ne no).trans ho
  walk_at "go"
  refine ⟨b, C_Book, dx, _, _, rfl, (upd_ne nb).trans bk.ins, T.cl_Book, T.a_older, lk_older t o, ?_⟩
  walk_at "go"
  refine ⟨o, _, _, rfl, rfl, ho2, sl_lt (by rw [List.length_map]; omega), ?_⟩
  have e1 : List.map V.ref ts ++ [V.ref x] = (ts ++ [x]).map V.ref := by rw [List.map_append]; rfl
  have e2 : List.map V.ref os ++ [V.ref y] = (os ++ [y]).map V.ref := by rw [List.map_append]; rfl
  rw [e1, e2]
  have ht2 := bk2.tr
  walk_at "go"
  refine ⟨b, C_Book, dx, _, _, rfl, bk2.ins, T.cl_Book, T.a_trees, lk_trees t o, ?_⟩
  walk_at "go"
  rw [List.length_map, List.length_append, lt]
  have e3 : (((Gs.length + [x].length : Nat) : Int) - 1) = (Gs.length : Int) := by simp
  show Q (.int _) _
  rw [e3]
  exact q _ s2 bk2
theorem wC {lo c : Int} {n : Nat} : Walk (Itc lo c n) n (fun _ => True) (YAt ((List.range n).map fun i : Nat => V.int (lo + (i : Int) * c))) :=
  walk_rangeC.mono (fun _ h => h) fun i H x H' hi _ y => ⟨y.1, by rw [y.2, List.getElem?_map, List.getElem?_range hi]; rfl⟩
def spElders (C C1 : Addr) : Sp := fun vs H Q E => ∃ (b dx t o : Addr) (ts os : List Addr) (Gs : List Tr) (Ps : List (List Nat)) (v : V), vs = [.ref b, v] ∧ BkAt C b dx t o ts os Gs Ps H ∧ ((∃ n, v = .int n) ∨ ∃ x, v = .bl x) ∧ Old Ps ∧ Gs.length ≤ 100000 ∧
  (∀ n : Nat, v = nV n → n < Gs.length → ∀ p H', H p = none → Same H H' → H' p = some (.lst ((nums (eldL Ps n)).map V.int)) → Q (.ref p) H') ∧ (okV Gs.length v = false → E (.ref C1) none H)
theorem okBook_elders (T : Txt K mg C_Book C_Clashed C_InTheWay C_NoClash C_NoFile C_NoPath C_NoVersion C_RoadError C_SameVersion) : MCal P w K mg base (L2N.CX P w) 2 C_Book "elders" ps_Book_elders (spElders C_Book C_NoVersion) := by
  have sc := scBook_elders
  refine T.d_Book_elders.okX sc (by walk_at "len") (fun f cdv A outer s H vs Q E hr h => ?_)
  have hu := hu_of hr
  obtain ⟨b, dx, t, o, ts, os, Gs, Ps, v, rfl, bk, hv, old, lG, q1, q2⟩ := h
  refine ⟨_, PSs.cv (by exact (pss_cons (ps_expr (pe_mcal T.cl_Book (okBook_need T) (hr.mono (by decide)) (L2N.passes_call (L2N.takes_of rfl rfl rfl rfl) (fun _ _ _ _ h => h)) (pv 0) (pa_cons (pv 1) pa_nil)))
      (pss_cons (ps_set (i := 2) sc.nd rfl (Or.inl rfl) (pe_disp (pps_cons (pv 1) pe_bl pps_nil) (by rfl) (by rfl) (fun z => by cases z) (by decide)))
      (pss_cons (ps_for (passes_of rfl) rfl (pi_range3 (by rfl) T.n_range (pa_cons (pv 1) (pa_cons (pe_un un_neg pe_int) (pa_cons (pe_un un_neg pe_int) pa_nil)))) (pg_name (i := 3) sc.nd rfl (Or.inl rfl)) (pss_one (ps_if (pt_cmp (pc_din hu (pv 3) (pv 2))) (pss_one (ps_for (passes_of rfl) rfl (pi_tup (pe_ix ix_list (pe_fld (pv 0) rfl) (pv 3) (fun _ _ => rfl))) (pg_name (i := 4) sc.nd rfl (Or.inl rfl)) (pss_one (ps_dput hu (pv 2) (pv 4) pe_bl rfl)))) pss_nil)))
      (pss_one (ps_ret (pe_callB (cr_sortedDN rfl) (by rfl) T.n_sorted (by decide +kernel) (pa_cons (pv 2) pa_nil)))))))) (by walk_at "cv"), ?_⟩
  have hl := bk.olen
  have hp := bk.len
  refine ⟨_, rfl, b, dx, _, rfl, bk.ins, lk_meth t o _ (by decide +kernel) (by decide +kernel), ?_⟩
  walk_at "go"
  refine ⟨b, dx, t, o, ts, os, Gs, Ps, v, rfl, bk, hv, fun hok => ?_, q2⟩
  obtain ⟨n, rfl, hn⟩ := okV_nat hok
  have q := q1 n rfl hn
  clear q1 q2 hv hok
  walk_at "go"
  show ∀ F, H F = none → _
  intro F nF
  walk_at "go"
  refine ⟨upd_same, [(.inl (n : Int), .bl true)], rfl, (show (1 : Nat) ≤ 15 by decide), ?_⟩
  rw [upd_upd]
  obtain ⟨H1, e0, e1, h1⟩ := alloc (o := HO.dK (mergeK [] [(.inl (n : Int), .bl true)])) nF
  rw [e0]
  have ik1 : IK (mergeK [] [(.inl (n : Int), V.bl true)]) [(n : Int)] := ⟨rfl, by simp⟩
  walk_at "go"
  refine ⟨_, _, _, _, rfl, RgC.neg (by omega) (by omega) (by decide) (by decide), ?_⟩
  clear e0
  refine for_it wC (fun i σ H' => Same H H' ∧ ∃ (kvs : List (Key × V)) (ks : List Int) (v3 v4 : Option V), H' F = some (.dK kvs) ∧ IK kvs ks ∧ (∀ z, z ∈ ks ↔ ∃ k, RG Ps (n + 1 - i) n k ∧ z = (k : Int)) ∧ σ = [some (.ref b), some (nV n), some (.ref F), v3, v4])
    ⟨e1, _, _, _, _, h1, ik1, fun z => by
      rw [List.mem_singleton]
      exact ⟨fun e => ⟨n, .self, e⟩, fun ⟨k, h, e⟩ => by rw [(RG.first (Nat.lt_succ_self n) old).mp h] at e; exact e⟩, rfl⟩ (fun _ _ _ _ _ => trivial) ?_ ?_
  · rintro i x σ H3 H4 hi ⟨e3, kvs, ks, v3, v4, h3, ik, hk, rfl⟩ ⟨rfl, hx⟩
    have hi : i < n + 1 := by
      have : ((n : Int) - -1).toNat = n + 1 := by omega
      omega
    rw [List.getElem?_map, List.getElem?_range (show i < ((n : Int) - -1).toNat by omega)] at hx
    obtain ⟨L, hL⟩ : ∃ L : Nat, L = n - i := ⟨_, rfl⟩
    have eL : (n : Int) + (i : Int) * -1 = (L : Int) := by omega
    have hx : x = V.int (L : Int) := by rw [← eL]; exact (Option.some.inj hx).symm
    subst hx
    have et : n + 1 - i = L + 1 := by omega
    have et2 : n + 1 - (i + 1) = L := by omega
    rw [et] at hk
    rw [et2]
    have nx := fun k => RG.next old (t := L) (n := n) (k := k)
    have small : ∀ z ∈ ks, ∃ k : Nat, k < n + 1 ∧ z = (k : Int) := fun z hz => by
      obtain ⟨k, h, e⟩ := (hk z).mp hz
      exact ⟨k, Nat.lt_succ_of_le (h.le old), e⟩
    walk_at "go"
    refine ⟨_, _, rfl, .inl ⟨kvs, .inl (L : Int), .inl h3, rfl, rfl⟩, ?_⟩
    rw [ik.has]
    walk_at "go"
    refine iteD (fun hin => ?_) fun hin => ?_
    · have hRL : RG Ps (L + 1) n L := by
        obtain ⟨k, h, e⟩ := (hk _).mp hin
        have : k = L := by omega
        subst this; exact h
      have bk4 := bk.same e3
      have ho4 := bk4.ol
      walk_at "go"
      refine ⟨b, C_Book, dx, _, _, rfl, bk4.ins, T.cl_Book, T.a_older, lk_older t o, ?_⟩
      walk_at "go"
      obtain ⟨a, ha⟩ : ∃ a, os[L]? = some a := ⟨os[L], List.getElem?_eq_getElem (by omega)⟩
      obtain ⟨ps, hps, hap⟩ := Paired.get bk4.ps ha
      have epar : par Ps L = ps := by unfold par; rw [hps]; rfl
      refine ⟨_, _, _, _, rfl, rfl, SqL.of ho4, at_refs ha, ?_⟩
      walk_at "go"
      refine ⟨⟨_, SqT.of hap⟩, ?_⟩
      refine for_it wT (fun j σ H' => Same H H' ∧ ∃ (kvs : List (Key × V)) (ks : List Int) (v4 : Option V), H' F = some (.dK kvs) ∧ IK kvs ks ∧ (∀ z, z ∈ ks ↔ ∃ k, (RG Ps (L + 1) n k ∨ k ∈ ps.take j) ∧ z = (k : Int)) ∧ H' a = some (.tup (ps.map nV)) ∧ σ = [some (.ref b), some (nV n), some (.ref F), some (.int (L : Int)), v4])
        ⟨e3, kvs, ks, _, h3, ik, fun z => by rw [hk]; simp, hap, rfl⟩ (fun _ _ _ _ h => by obtain ⟨_, _, _, _, _, _, _, h, _⟩ := h; exact SqT.of h) ?_ ?_
      · rintro j x σ H5 H6 hj ⟨e5, kvs, ks, v4, h5, ik, hk5, ha5, rfl⟩ ⟨rfl, hx⟩
        rw [List.getElem?_map] at hx
        obtain ⟨m, hm, rfl⟩ := Option.map_eq_some_iff.mp hx
        have hmp : m ∈ par Ps L := by rw [epar]; exact List.mem_of_getElem? hm
        have sm : ks.length ≤ n + 1 := ik.small fun z hz => by
          obtain ⟨k, h, e⟩ := (hk5 z).mp hz
          rcases h with h | h
          · exact ⟨k, Nat.lt_succ_of_le (h.le old), e⟩
          · have := old L k (by rw [epar]; exact List.mem_of_mem_take h)
            exact ⟨k, by omega, e⟩
        have lk := ik.len
        obtain ⟨ks', ik', hks'⟩ := ik.put (m : Int) (.bl true)
        walk_at "go"
        refine ⟨_, _, rfl, .inl ⟨kvs, .inl (m : Int), h5, rfl, sl_lt (by omega), rfl⟩, ?_⟩
        have nFa : a ≠ F := fun e => by rw [e, h5] at ha5; cases ha5
        refine ⟨Same.mut e5 nF, _, ks', _, upd_same, ik', fun z => ?_, (upd_ne nFa).trans ha5, rfl⟩
        rw [hks', hk5, List.take_add_one, hm]
        constructor
        · rintro (e | ⟨k, h, e⟩)
          · exact ⟨m, .inr (by simp), e⟩
          · exact ⟨k, h.imp id fun h => by simp [h], e⟩
        · rintro ⟨k, h, e⟩
          rcases h with h | h
          · exact .inr ⟨k, .inl h, e⟩
          · rcases List.mem_append.mp h with h | h
            · exact .inr ⟨k, .inr h, e⟩
            · have : k = m := by simpa using h
              subst this; exact .inl e
      rintro σ H5 ⟨e5, kvs, ks, v4, h5, ik, hk5, ha5, rfl⟩
      rw [List.length_map, List.take_length] at hk5
      refine ⟨e5, kvs, ks, _, _, h5, ik, fun z => ?_, rfl⟩
      rw [hk5]
      constructor
      · rintro ⟨k, h, e⟩
        exact ⟨k, (nx k).mpr (h.imp id fun h => ⟨hRL, epar ▸ h⟩), e⟩
      · rintro ⟨k, h, e⟩
        exact ⟨k, ((nx k).mp h).imp id fun h => epar ▸ h.2, e⟩
    · refine ⟨e3, kvs, ks, _, _, h3, ik, fun z => ?_, rfl⟩
      rw [hk]
      constructor
      · rintro ⟨k, h, e⟩
        exact ⟨k, (nx k).mpr (.inl h), e⟩
      · rintro ⟨k, h, e⟩
        rcases (nx k).mp h with h | ⟨h, _⟩
        · exact ⟨k, h, e⟩
        · exact absurd ((hk _).mpr ⟨L, h, rfl⟩) hin
  rintro σ H3 ⟨e3, kvs, ks, v3, v4, h3, ik, hk, rfl⟩
  have e0 : n + 1 - ((n : Int) - -1).toNat = 0 := by omega
  rw [e0] at hk
  have sm : ks.length ≤ n + 1 := ik.small fun z hz => by
    obtain ⟨k, h, e⟩ := (hk z).mp hz
    exact ⟨k, Nat.lt_succ_of_le (h.le old), e⟩
  walk_at "go"
  refine ⟨F, kvs, ks, rfl, .inl h3, ik.keys, by omega, fun ys p pm hs np => ?_⟩
  rw [eld_sorted old (show n < Ps.length by omega) ik.nd hk pm hs]
  exact q p _ (e3.free np) (e3.trans (Same.new np)) upd_same
def spNearest (C C1 : Addr) : Sp := fun vs H Q E => ∃ (b dx t o : Addr) (ts os : List Addr) (Gs : List Tr) (Ps : List (List Nat)) (v u : V), vs = [.ref b, v, u] ∧ BkAt C b dx t o ts os Gs Ps H ∧ ((∃ n, v = .int n) ∨ ∃ x, v = .bl x) ∧ ((∃ n, u = .int n) ∨ ∃ x, u = .bl x) ∧ Old Ps ∧ Root Ps ∧ Gs.length ≤ 100000 ∧
  (∀ n m e : Nat, v = nV n → u = nV m → n < Gs.length → m < Gs.length → NearK Ps n m e → ∀ H', Same H H' → Q (nV e) H') ∧ (okV Gs.length v = false ∨ okV Gs.length u = false → E (.ref C1) none H)
theorem okBook_nearest (T : Txt K mg C_Book C_Clashed C_InTheWay C_NoClash C_NoFile C_NoPath C_NoVersion C_RoadError C_SameVersion) : MCal P w K mg base (L2N.CX P w) 3 C_Book "nearest" ps_Book_nearest (spNearest C_Book C_NoVersion) := by
  have sc := scBook_nearest
  refine T.d_Book_nearest.okX sc (by walk_at "len") (fun f cdv A outer s H vs Q E hr h => ?_)
  have hu := hu_of hr
  obtain ⟨b, dx, t, o, ts, os, Gs, Ps, v, u, rfl, bk, hv, hu2, old, root, lG, q1, q2⟩ := h
  refine ⟨_, PSs.cv (by exact (pss_cons (ps_expr (pe_mcal T.cl_Book (okBook_need T) (hr.mono (by decide)) (L2N.passes_call (L2N.takes_of rfl rfl rfl rfl) (fun _ _ _ _ h => h)) (pv 0) (pa_cons (pv 1) pa_nil)))
      (pss_cons (ps_expr (pe_mcal T.cl_Book (okBook_need T) (hr.mono (by decide)) (L2N.passes_call (L2N.takes_of rfl rfl rfl rfl) (fun _ _ _ _ h => h)) (pv 0) (pa_cons (pv 2) pa_nil)))
      (pss_cons (ps_set (i := 3) sc.nd rfl (Or.inr rfl) (pe_mcal T.cl_Book (okBook_elders T) (hr.mono (by decide)) (L2N.passes_call (L2N.takes_of rfl rfl rfl rfl) (fun _ _ _ _ h => h)) (pv 0) (pa_cons (pv 2) pa_nil)))
      (pss_one (ps_ret (pe_callB (cr_max rfl) (by rfl) T.n_max (by decide +kernel) (pa_cons (pe_lc (own := [("elder", 4)]) (g := gName 4) rfl sc.nd (pi_list (pe_mcal T.cl_Book (okBook_elders T) (hr.mono (by decide)) (L2N.passes_call (L2N.takes_of rfl rfl rfl rfl) (fun _ _ _ _ h => h)) (pv 0) (pa_cons (pv 1) pa_nil))) (blkOk_by (N := sl_Book_nearest) (sc := defScope s_Book_nearest) (by decide +kernel)) (fun _ _ _ _ _ => (pg_name (i := 4) sc.nd rfl (by first | exact Or.inl rfl | exact Or.inr rfl))) (fun _ _ _ _ _ => PTs.cv (by exact pts_one (pt_cmpR op_in_seq (pv 4) (pv 3) (by rfl))) (by walk_at "cv")) (fun _ _ _ _ _ => PE.cv (by exact (pv 4)) (by walk_at "cv"))) pa_nil)))))))) (by walk_at "cv"), ?_⟩
  have hl := bk.olen
  have hp := bk.len
  have lk1 := lk_meth t o (Str.ofString "need") (by decide +kernel) (by decide +kernel)
  have lk2 := lk_meth t o (Str.ofString "elders") (by decide +kernel) (by decide +kernel)
  refine ⟨_, rfl, b, dx, _, rfl, bk.ins, lk1, ?_⟩
  walk_at "go"
  refine ⟨b, dx, t, o, ts, os, Gs, Ps, v, rfl, bk, hv, fun hok => ?_, fun h => q2 (.inl h)⟩
  obtain ⟨n, rfl, hn⟩ := okV_nat hok
  refine ⟨_, rfl, b, dx, _, rfl, bk.ins, lk1, ?_⟩
  walk_at "go"
  refine ⟨b, dx, t, o, ts, os, Gs, Ps, u, rfl, bk, hu2, fun hok2 => ?_, fun h => q2 (.inr h)⟩
  obtain ⟨m, rfl, hm⟩ := okV_nat hok2
  have q := fun e => q1 n m e rfl rfl hn hm
  clear q1 q2
  refine ⟨_, rfl, b, dx, _, rfl, bk.ins, lk2, ?_⟩
  walk_at "go"
  refine ⟨b, dx, t, o, ts, os, Gs, Ps, nV m, rfl, bk, hu2, old, lG, fun m' em hm' T H1 nT e1 hT => ?_, fun h => by rw [hok2] at h; cases h⟩
  have : m' = m := by have := V.int.inj em; omega
  subst this
  have bk1 := bk.same e1
  walk_at "go"
  refine ⟨b, dx, _, rfl, bk1.ins, lk2, ?_⟩
  walk_at "go"
  refine ⟨b, dx, t, o, ts, os, Gs, Ps, nV n, rfl, bk1, hv, old, lG, fun n' en hn' L H2 nL e2 hL => ?_, fun h => by rw [hok] at h; cases h⟩
  have : n' = n := by have := V.int.inj en; omega
  subst this
  have hT2 := e2 _ _ hT
  walk_at "go"
  have le := eldL_len Ps n'
  refine ⟨⟨_, SqL.of hL⟩, fun D hD => ?_⟩
  refine lcF (j := 4) wL (by rfl) (fun H' e => SqL.of (e _ _ hL)) hD (pN fun k => decide (k ∈ eldL Ps m')) id (by rw [List.length_map, List.length_map]; omega) (fun _ => rfl) (fun x H3 hx e3 Q2 k => ?_) (fun x H3 hx hp e3 Q2 k => by walk_at "go"; exact k _ (Same.refl _)) fun H3 e3 hD3 => ?_
  · obtain ⟨z, hz, rfl⟩ := List.mem_map.mp hx
    obtain ⟨i, hi, rfl⟩ := mem_nums.mp hz
    have hT3 := e3 _ _ hT2
    walk_at "go"
    refine ⟨List.all_eq_true.mpr fun v hv => (by obtain ⟨z, _, rfl⟩ := List.mem_map.mp hv; rfl), ?_⟩
    walk_at "go"
    have e : inV (V.int (i : Int)) ((nums (eldL Ps m')).map V.int) = pN (fun k => decide (k ∈ eldL Ps m')) (V.int (i : Int)) := by
      rw [inV_int]
      show _ = decide (((i : Int)).toNat ∈ eldL Ps m')
      refine decide_eq_decide.mpr (mem_nums.trans ⟨fun ⟨k, hk, e⟩ => ?_, fun h => ⟨i, h, rfl⟩⟩)
      have : k = i := by omega
      subst this; exact hk
    show Q2 (inV (V.int (i : Int)) ((nums (eldL Ps m')).map V.int)) H3
    rw [e]
    exact k _ (Same.refl _)
  rw [pN_filter, List.map_id] at hD3
  have hz : 0 ∈ bothL Ps n' m' := (mem_bothL old (by omega) (by omega)).mpr ⟨RG.zero old root _ (by omega), RG.zero old root _ (by omega)⟩
  walk_at "go"
  refine ⟨by rw [List.length_map]; exact List.length_pos_of_mem hz, fun z hz ht => ?_⟩
  obtain ⟨e, rfl, ne⟩ := near_max (z := z) old (by omega) (by omega) hz ht
  exact q e ne _ (e1.trans (e2.trans e3))
def spGrow (C C1 CP CF CW : Addr) (K : PySem.W.Frag) : Sp := fun vs H Q E => ∃ (b dx t o p : Addr) (ts os rs : List Addr) (Gs : List Tr) (Ps : List (List Nat)) (v : V) (ds : List Deed) (B : Nat), vs = [.ref b, v, .ref p] ∧ BkAt C b dx t o ts os Gs Ps H ∧ ((∃ n, v = .int n) ∨ ∃ x, v = .bl x) ∧ RowAt K H p rs ds ∧ (∀ G ∈ Gs, TreeOk B G) ∧ B + ds.length ≤ 100000 ∧ Gs.length ≤ 100000 ∧ (∀ e ∈ ds, e.path.length ≤ 16777000) ∧
  (∀ (n : Nat) (G : Tr), v = nV n → Gs[n]? = some G → match foldR G ds with
    | .tree G' => ∀ x y H', Same2 t o H H' → BkAt C b dx t o (ts ++ [x]) (os ++ [y]) (Gs ++ [G']) (Ps ++ [[n]]) H' → Q (nV Gs.length) H'
    | .noPath => ∀ H', Same H H' → E (.ref CP) none H'
    | .noFile => ∀ H', Same H H' → E (.ref CF) none H'
    | .inTheWay => ∀ H', Same H H' → E (.ref CW) none H') ∧ (okV Gs.length v = false → E (.ref C1) none H)
theorem okBook_grow (T : Txt K mg C_Book C_Clashed C_InTheWay C_NoClash C_NoFile C_NoPath C_NoVersion C_RoadError C_SameVersion) : MCal P w K mg base (L2N.CX P w) 5 C_Book "grow" ps_Book_grow (spGrow C_Book C_NoVersion C_NoPath C_NoFile C_InTheWay K) := by
  have sc := scBook_grow
  refine T.d_Book_grow.okX sc (by walk_at "len") (fun f cdv A outer s H vs Q E hr h => ?_)
  have hu := hu_of hr
  obtain ⟨b, dx, t, o, p, ts, os, rs, Gs, Ps, v, ds, B, rfl, bk, hv, row, ok, lB, lG, lds, q1, q2⟩ := h
  refine ⟨_, PSs.cv (by exact (pss_cons (ps_expr (pe_mcal T.cl_Book (okBook_need T) (hr.mono (by decide)) (L2N.passes_call (L2N.takes_of rfl rfl rfl rfl) (fun _ _ _ _ h => h)) (pv 0) (pa_cons (pv 1) pa_nil)))
      (pss_one (ps_ret (pe_mcal T.cl_Book (okBook_made T) (hr.mono (by decide)) pass0 (pv 0) (pa_cons (pe_calC (okchanged T) (hr.mono (by decide)) (by rfl) (L2N.passes_call (L2N.takes_of rfl rfl rfl rfl) (fun _ _ _ _ h => h)) (pa_cons (pe_ix ix_list (pe_fld (pv 0) rfl) (pv 1) (fun _ _ => rfl)) (pa_cons (pv 2) pa_nil))) (pa_cons (pe_tup (pa_cons (pv 1) pa_nil)) pa_nil))))))) (by walk_at "cv"), ?_⟩
  have hl := bk.tlen
  have ht := bk.tr
  refine ⟨_, rfl, b, dx, _, rfl, bk.ins, lk_meth t o _ (by decide +kernel) (by decide +kernel), ?_⟩
  walk_at "go"
  refine ⟨b, dx, t, o, ts, os, Gs, Ps, v, rfl, bk, hv, fun hok => ?_, q2⟩
  obtain ⟨n, rfl, hn⟩ := okV_nat hok
  obtain ⟨G, hG⟩ : ∃ G, Gs[n]? = some G := ⟨Gs[n], List.getElem?_eq_getElem hn⟩
  have q := q1 n G rfl hG
  have okG := ok G (List.mem_of_getElem? hG)
  clear q1 q2 hv hok
  obtain ⟨a, ha⟩ : ∃ a, ts[n]? = some a := ⟨ts[n]'(by omega), List.getElem?_eq_getElem (by omega)⟩
  obtain ⟨G', hG', hat⟩ := Paired.get bk.gs ha
  have : G' = G := by rw [hG] at hG'; exact (Option.some.inj hG').symm
  subst this
  refine ⟨_, rfl, b, dx, _, rfl, bk.ins, lk_meth t o _ (by decide +kernel) (by decide +kernel), ?_⟩
  walk_at "go"
  refine ⟨b, C_Book, dx, _, _, rfl, bk.ins, T.cl_Book, T.a_trees, lk_trees t o, ?_⟩
  walk_at "go"
  refine ⟨_, _, _, _, rfl, rfl, SqL.of ht, at_refs ha, ?_⟩
  walk_at "go"
  refine ⟨a, p, G', B, rs, ds, rfl, hat, row, okG, lB, lds, ?_⟩
  cases hf : foldR G' ds with
  | tree G2 =>
    rw [hf] at q
    intro x H1 nx e1 hx
    have bk1 := bk.same e1
    walk_at "go"
    obtain ⟨H2, q2, e2, h2⟩ := alloc (o := HO.tup [nV n]) np
    rw [q2]
    refine ⟨b, dx, t, o, x, _, ts, os, Gs, Ps, G2, [n], rfl, bk1.same e2, e2 _ _ hx, h2, lG, fun H3 s3 bk3 => ?_⟩
    exact q x _ H3 ((Same2.of (e1.trans e2)).trans s3) bk3
  | noPath => rw [hf] at q; exact q
  | noFile => rw [hf] at q; exact q
  | inTheWay => rw [hf] at q; exact q
def spMerge (C C1 CS CN CC : Addr) : Sp := fun vs H Q E => ∃ (b dx t o d : Addr) (ts os : List Addr) (Gs : List Tr) (Ps : List (List Nat)) (v u : V) (P : Tr), vs = [.ref b, v, u, .ref d] ∧ BkAt C b dx t o ts os Gs Ps H ∧ ((∃ n, v = .int n) ∨ ∃ x, v = .bl x) ∧ ((∃ n, u = .int n) ∨ ∃ x, u = .bl x) ∧ Old Ps ∧ Root Ps ∧ Gs.length ≤ 100000 ∧
  (∀ G ∈ Gs, TreeOk 1000 G) ∧ RdD H d P ∧ (∀ x ∈ ts, x ≠ d) ∧ (∀ p v, valV P p = some v → OptS v) ∧ P.length ≤ 100000 ∧
  (∀ (n m e : Nat) (A B D : Tr), v = nV n → u = nV m → NearK Ps n m e → Gs[e]? = some A → Gs[n]? = some B → Gs[m]? = some D → n ≠ m → match joinR A B D P with
    | .tree G' => ∀ x y H', H x = none → Same2 t o H H' → BkAt C b dx t o (ts ++ [x]) (os ++ [y]) (Gs ++ [G']) (Ps ++ [[min n m, max n m]]) H' → Q (nV Gs.length) H'
    | .noClash => ∀ H', SameF d P H H' → E (.ref CN) none H'
    | .clashed => ∀ H', Same H H' → E (.ref CC) none H') ∧
  (∀ n : Nat, v = nV n → u = nV n → n < Gs.length → ∀ H', Same H H' → E (.ref CS) none H') ∧
  (okV Gs.length v = false ∨ okV Gs.length u = false → E (.ref C1) none H)
theorem okBook_merge (T : Txt K mg C_Book C_Clashed C_InTheWay C_NoClash C_NoFile C_NoPath C_NoVersion C_RoadError C_SameVersion) : MCal P w K mg base (L2N.CX P w) 5 C_Book "merge" ps_Book_merge (spMerge C_Book C_NoVersion C_SameVersion C_NoClash C_Clashed) := by
  have sc := scBook_merge
  refine T.d_Book_merge.okX sc (by walk_at "len") (fun f cdv A outer s H vs Q E hr h => ?_)
  have hu := hu_of hr
  obtain ⟨b, dx, t, o, d, ts, os, Gs, Ps, v, u, P, rfl, bk, hv, hu2, old, root, lG, ok, hP, hd, oP, lP, q1, q2, q3⟩ := h
  refine ⟨_, PSs.cv (by exact (pss_cons (ps_set (i := 4) sc.nd rfl (Or.inl rfl) (pe_mcal T.cl_Book (okBook_nearest T) (hr.mono (by decide)) (L2N.passes_call (L2N.takes_of rfl rfl rfl rfl) (fun _ _ _ _ h => h)) (pv 0) (pa_cons (pv 1) (pa_cons (pv 2) pa_nil))))
      (pss_cons (ps_if (pt_cmpR op_eq (pv 1) (pv 2) (nomark _)) (pss_one (L2N.ps_raise rfl (L2N.takes_of rfl rfl rfl rfl) (L2N.pmk_own PySem.F.excBase_ValueError T.x_SameVersion.xC T.x_SameVersion.gC T.x_SameVersion.kC (raises_own T.x_SameVersion.bC T.x_SameVersion.tC) (by exact rfl)))) pss_nil)
      (pss_cons (ps_set (i := 5) sc.nd rfl (Or.inl rfl) (pe_calC (okjoined T) (hr.mono (by decide)) (by rfl) (L2N.passes_call (L2N.takes_of rfl rfl rfl rfl) (fun _ _ _ _ h => h)) (pa_cons (pe_ix ix_list (pe_fld (pv 0) rfl) (pv 4) (fun _ _ => rfl)) (pa_cons (pe_ix ix_list (pe_fld (pv 0) rfl) (pv 1) (fun _ _ => rfl)) (pa_cons (pe_ix ix_list (pe_fld (pv 0) rfl) (pv 2) (fun _ _ => rfl)) (pa_cons (pv 3) pa_nil))))))
      (pss_one (ps_ret (pe_mcal T.cl_Book (okBook_made T) (hr.mono (by decide)) pass0 (pv 0) (pa_cons (pv 5) (pa_cons (pe_tup (pa_cons (pe_callB (call_min2 rfl) (by rfl) T.n_min (by decide +kernel) (pa_cons (pv 1) (pa_cons (pv 2) pa_nil))) (pa_cons (pe_callB (call_max2 rfl) (by rfl) T.n_max (by decide +kernel) (pa_cons (pv 1) (pa_cons (pv 2) pa_nil))) pa_nil))) pa_nil))))))))) (by walk_at "cv"), ?_⟩
  have hl := bk.tlen
  have hps := bk.len
  refine ⟨_, rfl, b, dx, _, rfl, bk.ins, lk_meth t o _ (by decide +kernel) (by decide +kernel), ?_⟩
  walk_at "go"
  refine ⟨b, dx, t, o, ts, os, Gs, Ps, v, u, rfl, bk, hv, hu2, old, root, lG, fun n m e ev eu hn hm nk H1 e1 => ?_, q3⟩
  subst ev eu
  have bk1 := bk.same e1
  have ht1 := bk1.tr
  walk_at "go"
  refine iteD (fun heq => ?_) fun hne => ?_
  · have hnm : n = m := by have := V.int.inj heq; omega
    subst hnm
    exact q2 n rfl rfl hn _ e1
  have hne : n ≠ m := fun h => hne (by rw [h])
  have he : e < Gs.length := Nat.lt_of_le_of_lt (nk.l.le old) hn
  obtain ⟨A, hA⟩ : ∃ G, Gs[e]? = some G := ⟨Gs[e], List.getElem?_eq_getElem he⟩
  obtain ⟨B, hB⟩ : ∃ G, Gs[n]? = some G := ⟨Gs[n], List.getElem?_eq_getElem hn⟩
  obtain ⟨D', hD⟩ : ∃ G, Gs[m]? = some G := ⟨Gs[m], List.getElem?_eq_getElem hm⟩
  have q := q1 n m e A B D' rfl rfl nk hA hB hD hne
  have tree : ∀ {k : Nat} {G : Tr}, Gs[k]? = some G → ∃ a, ts[k]? = some a ∧ AtD H1 a G ∧ a ≠ d := fun {k G} hG => by
    have hk : k < ts.length := by
      rw [hl]
      exact (List.getElem?_eq_some_iff.mp hG).1
    obtain ⟨G', hG', hat⟩ := Paired.get bk1.gs (List.getElem?_eq_getElem hk)
    have : G' = G := by rw [hG] at hG'; exact (Option.some.inj hG').symm
    subst this
    exact ⟨_, List.getElem?_eq_getElem hk, hat, hd _ (List.getElem_mem hk)⟩
  obtain ⟨a, ha, hat, had⟩ := tree hA
  obtain ⟨b2, hb2, hbt, hbd⟩ := tree hB
  obtain ⟨c, hc, hct, hcd⟩ := tree hD
  walk_at "go"
  refine ⟨b, C_Book, dx, _, _, rfl, bk1.ins, T.cl_Book, T.a_trees, lk_trees t o, ?_⟩
  walk_at "go"
  refine ⟨_, _, _, _, rfl, rfl, SqL.of ht1, at_refs ha, ?_⟩
  walk_at "go"
  refine ⟨b, C_Book, dx, _, _, rfl, bk1.ins, T.cl_Book, T.a_trees, lk_trees t o, ?_⟩
  walk_at "go"
  refine ⟨_, _, _, _, rfl, rfl, SqL.of ht1, at_refs hb2, ?_⟩
  walk_at "go"
  refine ⟨b, C_Book, dx, _, _, rfl, bk1.ins, T.cl_Book, T.a_trees, lk_trees t o, ?_⟩
  walk_at "go"
  refine ⟨_, _, _, _, rfl, rfl, SqL.of ht1, at_refs hc, ?_⟩
  walk_at "go"
  have jn : Joins a b2 c d A B D' P 1000 H1 := ⟨hat, hbt, hct, Same.rdd e1 hP, ok _ (List.mem_of_getElem? hA), ok _ (List.mem_of_getElem? hB), ok _ (List.mem_of_getElem? hD), had, hbd, hcd, oP, lP⟩
  refine ⟨a, b2, c, d, A, B, D', P, 1000, rfl, jn, by decide, ?_⟩
  cases hj : joinR A B D' P with
  | noClash => rw [hj] at q; exact fun H' f => q H' (SameF.pre e1 f)
  | clashed => rw [hj] at q; exact fun H' f => q H' (e1.trans f)
  | tree G2 =>
    rw [hj] at q
    intro x H2 nx e2 hx
    have bk2 := bk1.same e2
    walk_at "go"
    refine ⟨b, dx, _, rfl, bk2.ins, lk_meth t o _ (by decide +kernel) (by decide +kernel), ?_⟩
    walk_at "go"
    have emin : (if (m : Int) < (n : Int) then (m : Int) else (n : Int)) = ((min n m : Nat) : Int) := by split <;> omega
    have emax : (if (m : Int) > (n : Int) then (m : Int) else (n : Int)) = ((max n m : Nat) : Int) := by split <;> omega
    rw [emin, emax]
    obtain ⟨H3, q3', e3, h3⟩ := alloc (o := HO.tup ([min n m, max n m].map nV)) np
    rw [show upd H2 p (HO.tup [V.int ((min n m : Nat) : Int), V.int ((max n m : Nat) : Int)]) = H3 from q3']
    refine ⟨b, dx, t, o, x, _, ts, os, Gs, Ps, G2, [min n m, max n m], rfl, bk2.same e3, e3 _ _ hx, h3, lG, fun H4 s4 bk4 => ?_⟩
    exact q x _ H4 (e1.free nx) ((Same2.of (e1.trans (e2.trans e3))).trans s4) bk4
def spTree (C C1 : Addr) : Sp := fun vs H Q E => ∃ (b dx t o : Addr) (ts os : List Addr) (Gs : List Tr) (Ps : List (List Nat)) (v : V), vs = [.ref b, v] ∧ BkAt C b dx t o ts os Gs Ps H ∧ ((∃ n, v = .int n) ∨ ∃ x, v = .bl x) ∧ (∀ G ∈ Gs, G.length ≤ 100000) ∧
  (∀ n : Nat, v = nV n → n < Gs.length → ∀ G d H', Gs[n]? = some G → H d = none → Same H H' → AtD H' d G → Q (.ref d) H') ∧ (okV Gs.length v = false → E (.ref C1) none H)
theorem okBook_tree (T : Txt K mg C_Book C_Clashed C_InTheWay C_NoClash C_NoFile C_NoPath C_NoVersion C_RoadError C_SameVersion) : MCal P w K mg base (L2N.CX P w) 2 C_Book "tree" ps_Book_tree (spTree C_Book C_NoVersion) := by
  have sc := scBook_tree
  refine T.d_Book_tree.okX sc (by walk_at "len") (fun f cdv A outer s H vs Q E hr h => ?_)
  have hu := hu_of hr
  obtain ⟨b, dx, t, o, ts, os, Gs, Ps, v, rfl, bk, hv, lGs, q1, q2⟩ := h
  refine ⟨_, PSs.cv (by exact (pss_cons (ps_expr (pe_mcal T.cl_Book (okBook_need T) (hr.mono (by decide)) (L2N.passes_call (L2N.takes_of rfl rfl rfl rfl) (fun _ _ _ _ h => h)) (pv 0) (pa_cons (pv 1) pa_nil)))
      (pss_one (ps_ret (pe_callTy call_dictD (by rfl) T.n_dict (by decide +kernel) (pa_cons (pe_ix ix_list (pe_fld (pv 0) rfl) (pv 1) (fun _ _ => rfl)) pa_nil)))))) (by walk_at "cv"), ?_⟩
  have ht := bk.tr
  have hl := bk.tlen
  refine ⟨_, rfl, b, dx, _, rfl, bk.ins, lk_meth t o _ (by decide +kernel) (by decide +kernel), ?_⟩
  walk_at "go"
  refine ⟨b, dx, t, o, ts, os, Gs, Ps, v, rfl, bk, hv, fun hok => ?_, q2⟩
  obtain ⟨n, rfl, hn⟩ := okV_nat hok
  walk_at "go"
  refine ⟨b, C_Book, dx, _, _, rfl, bk.ins, T.cl_Book, T.a_trees, lk_trees t o, ?_⟩
  walk_at "go"
  obtain ⟨a, ha⟩ : ∃ a, ts[n]? = some a := ⟨ts[n], List.getElem?_eq_getElem (by omega)⟩
  obtain ⟨G, hG, hat⟩ := Paired.get bk.gs ha
  have hat : AtD H a G := hat
  refine ⟨_, _, _, _, rfl, rfl, SqL.of ht, at_refs ha, ?_⟩
  walk_at "go"
  intro d nd
  obtain ⟨H1, q3, e1, h1⟩ := alloc (o := HO.dK (kvs G)) nd
  rw [q3]
  exact q1 n rfl hn G d H1 hG nd e1 h1
def spStory (C C1 : Addr) : Sp := fun vs H Q E => ∃ (b dx t o : Addr) (ts os : List Addr) (Gs : List Tr) (Ps : List (List Nat)) (v : V) (z : Str), vs = [.ref b, v, .str z] ∧ BkAt C b dx t o ts os Gs Ps H ∧ ((∃ n, v = .int n) ∨ ∃ x, v = .bl x) ∧ Old Ps ∧ (∀ k, (par Ps k).length ≤ 2) ∧ (∀ G ∈ Gs, ∀ q, OptS (getV G q)) ∧ Gs.length ≤ 100000 ∧
  (∀ n : Nat, v = nV n → n < Gs.length → ∀ p H', H p = none → Same H H' → H' p = some (.lst ((nums (storyL Gs Ps n z)).map V.int)) → Q (.ref p) H') ∧ (okV Gs.length v = false → ∀ H', Same H H' → E (.ref C1) none H')
theorem nV_inj {n m : Nat} (h : nV n = nV m) : m = n := by have := V.int.inj h; omega
theorem nV_int (n : Nat) : ∃ i, nV n = V.int i := ⟨_, rfl⟩
theorem okV_yes {m n : Nat} (h : n < m) : okV m (nV n) = true := decide_eq_true ⟨by omega, by omega⟩
theorem no_okV {N n : Nat} {P : Prop} (h : okV N (nV n) = false) (hn : n < N) : P := by rw [okV_yes hn] at h; cases h
theorem mod_nat {N : Nat} (h : 0 < N) (i : Int) : ∃ n : Nat, n < N ∧ i % (N : Int) = (n : Int) := by
  have h1 := Int.emod_nonneg i (show (N : Int) ≠ 0 by omega)
  have h2 := Int.emod_lt_of_pos i (show 0 < (N : Int) by omega)
  exact ⟨(i % (N : Int)).toNat, by omega, by omega⟩
theorem ixN_nat {N k : Nat} (h : k < N) : ixN N (k : Int) = some k := by
  unfold ixN
  rw [if_pos (by omega), if_pos (by omega)]
  rfl
theorem RG.tight {Ps : List (List Nat)} (o : Old Ps) {n k : Nat} (h : RG Ps 0 n k) : RG Ps (k + 1) n k := by
  induction h with
  | self => exact .self
  | step h1 h2 h3 ih =>
    have := o _ _ h3
    exact .step (ih.mono (by omega)) (by omega) h3
theorem RG.at_ {Ps : List (List Nat)} (o : Old Ps) {n k : Nat} : RG Ps (k + 1) n k ↔ RG Ps 0 n k := ⟨fun h => h.mono (Nat.zero_le _), fun h => RG.tight o h⟩
/-- own older: the list, its tuples, the parents -/
structure OwnO (L : Addr) (rs : List Addr) (Ps : List (List Nat)) (H : Hp) : Prop where
  hL : H L = some (.lst (rs.map V.ref))
  ps : Paired (fun r ps => H r = some (.tup (ps.map nV))) rs Ps
theorem OwnO.same {L : Addr} {rs : List Addr} {Ps : List (List Nat)} {H H' : Hp} (h : OwnO L rs Ps H) (e : Same H H') : OwnO L rs Ps H' := ⟨e _ _ h.hL, Paired.imp (fun _ _ h => e _ _ h) h.ps⟩
/-- the flags of each version -/
def KW (N : Nat) (as : List Addr) (f g : Nat → Prop) (H : Hp) : Prop := as.length = N ∧ ∀ k, k < N → ∃ a x y, as[k]? = some a ∧ H a = some (.lst [.bl x, .bl y]) ∧ (x = true ↔ f k) ∧ (y = true ↔ g k)
def spNear : Sp := fun vs H Q _ => ∃ (L : Addr) (rs : List Addr) (Ps : List (List Nat)) (n m : Nat), vs = [.ref L, nV n, nV m] ∧ OwnO L rs Ps H ∧ Old Ps ∧ Root Ps ∧ n < Ps.length ∧ m < Ps.length ∧ Ps.length ≤ 1000 ∧
  ∀ e H', Same H H' → NearK Ps n m e → Q (nV e) H'
theorem okL_nearest_by (T : Txt K mg C_Book C_Clashed C_InTheWay C_NoClash C_NoFile C_NoPath C_NoVersion C_RoadError C_SameVersion) : Cal P w K mg base CX0 1 "_law_nearest_by" ps_L_nearest_by (spNear) := by
  have sc := scL_nearest_by
  refine T.d_L_nearest_by.ok sc (by walk_at "len") (fun f cdv A outer s H vs Q E hr h => ?_)
  have hu := hu_of hr
  obtain ⟨L, rs, Ps, n, m, rfl, ol, old, root, hn, hm, lP, q⟩ := h
  have hL := ol.hL
  have lo := ol.ps.length
  refine ⟨_, PSs.cv (by exact (pss_cons (ps_setLc (i := 3) rfl sc.nd rfl rfl (sw_true rfl rfl rfl (by decide +kernel)) (pi_range1 (by rfl) T.n_range (pa_cons (pe_callB call_len_seq (by rfl) T.n_len (by decide +kernel) (pa_cons (pv 0) pa_nil)) pa_nil)) (blkOk_by (own := [("_law_k", 4)]) (N := sl_L_nearest_by) (sc := defScope s_L_nearest_by) (by decide +kernel)) (fun _ _ _ _ _ => (pg_name (i := 4) sc.nd rfl (by first | exact Or.inl rfl | exact Or.inr rfl))) (fun _ _ _ _ _ => pts_nil) (fun _ _ _ _ _ => PE.cv (by exact (pe_lst (pa_cons (pe_cmpR op_eq (pv 4) (pv 1) (nomark _)) (pa_cons (pe_cmpR op_eq (pv 4) (pv 2) (nomark _)) pa_nil)))) (by walk_at "cv")))
      (pss_cons (ps_for PassesOwn.never rfl (pi_range1 (by rfl) T.n_range (pa_cons (pe_callB call_len_seq (by rfl) T.n_len (by decide +kernel) (pa_cons (pv 0) pa_nil)) pa_nil)) (pg_name (i := 5) sc.nd rfl (Or.inl rfl)) (pss_cons (ps_set (i := 6) sc.nd rfl (Or.inl rfl) (pe_op op_sub (pe_op op_sub (pe_callB call_len_seq (by rfl) T.n_len (by decide +kernel) (pa_cons (pv 0) pa_nil)) pe_int) (pv 5)))
      (pss_cons (ps_if (pt_cmpR (op_eqD hr.units) (pe_ix ix_list (pv 3) (pv 6) (fun _ _ => rfl)) (pe_lst (pa_cons pe_bl (pa_cons pe_bl pa_nil))) (nomark _)) (pss_one (ps_ret (pv 6))) pss_nil)
      (pss_one (ps_for PassesOwn.never rfl (pi_tup (pe_ix ix_list (pv 0) (pv 6) (fun _ _ => rfl))) (pg_name (i := 7) sc.nd rfl (Or.inl rfl)) (pss_one (ps_asg (pe_lst (pa_cons (pe_or (pe_ix ix_list (pe_ix ix_list (pv 3) (pv 7) (fun _ _ => rfl)) pe_int (fun _ _ => rfl)) (pe_one (pe_ix ix_list (pe_ix ix_list (pv 3) (pv 6) (fun _ _ => rfl)) pe_int (fun _ _ => rfl)))) (pa_cons (pe_or (pe_ix ix_list (pe_ix ix_list (pv 3) (pv 7) (fun _ _ => rfl)) pe_int (fun _ _ => rfl)) (pe_one (pe_ix ix_list (pe_ix ix_list (pv 3) (pv 6) (fun _ _ => rfl)) pe_int (fun _ _ => rfl)))) pa_nil))) (pg_sub (pv 3) (pv 7) set_list))))))))
      (pss_one (ps_ret pe_int))))) (by walk_at "cv"), ?_⟩
  walk_at "go"
  rw [List.length_map]
  refine ⟨by omega, by omega, fun D nD => ?_⟩
  refine lcN (j := 4) wR (by rw [List.length_map, List.length_range]) (fun _ _ => trivial) nD (fun x => match x with | .int k => .lst [.bl (decide (V.int k = nV n)), .bl (decide (V.int k = nV m))] | _ => .lst []) (by omega) (fun _ => rfl) (fun x H2 hx e2 Q2 k => ?_) fun as H1 has _ _ e1 hD => ?_
  · obtain ⟨i, hi, ei⟩ := List.mem_map.mp hx
    subst ei
    walk_at "go"
    exact k p _ np (Same.new np) upd_same
  have hL1 := e1 _ _ hL
  walk_at "go"
  rw [List.length_map, lo]
  refine ⟨by omega, by omega, ?_⟩
  have kw0 : KW Ps.length as (RG Ps Ps.length n) (RG Ps Ps.length m) H1 := by
    have la : as.length = Ps.length := by rw [has.length, List.length_map, List.length_range]; omega
    refine ⟨la, fun k hk => ?_⟩
    obtain ⟨a, ha⟩ : ∃ a, as[k]? = some a := ⟨as[k]'(by omega), List.getElem?_eq_getElem (by omega)⟩
    obtain ⟨x, hx, hax⟩ := Paired.get has ha
    rw [List.getElem?_map, List.getElem?_range (by omega)] at hx
    cases hx
    refine ⟨a, _, _, ha, hax, ?_, ?_⟩
    · rw [decide_eq_true_eq, RG.first hn old]
      exact ⟨fun h => by have := V.int.inj h; omega, fun h => by rw [h]; show V.int _ = V.int _; rw [Int.zero_add]⟩
    · rw [decide_eq_true_eq, RG.first hm old]
      exact ⟨fun h => by have := V.int.inj h; omega, fun h => by rw [h]; show V.int _ = V.int _; rw [Int.zero_add]⟩
  refine for_it wR (fun i σ H' => Same H H' ∧ ∃ (as : List Addr) (v6 v7 v5 : Option V), H' D = some (.lst (as.map V.ref)) ∧ KW Ps.length as (RG Ps (Ps.length - i) n) (RG Ps (Ps.length - i) m) H' ∧ (∀ k, Ps.length - i ≤ k → k < Ps.length → RG Ps 0 n k → RG Ps 0 m k → False) ∧ σ = [some (.ref L), some (nV n), some (nV m), some (.ref D), none, v5, v6, v7])
    ⟨e1, as, _, _, _, hD, kw0, fun k h1 h2 => absurd h1 (by omega), rfl⟩ (fun _ _ _ _ _ => trivial) ?_ ?_
  · rintro i x σ H4 H5 hi ⟨e4, as, v6, v7, v5, hD4, kw, no, rfl⟩ ⟨rfl, hx⟩
    have := rng_at hx
    subst this
    obtain ⟨M, hM⟩ : ∃ M : Nat, M + 1 = Ps.length - i := ⟨Ps.length - i - 1, by omega⟩
    rw [← hM] at kw
    have hMl : M < Ps.length := by omega
    have ol4 := ol.same e4
    have hL4 := ol4.hL
    obtain ⟨la, kwg⟩ := kw
    obtain ⟨a, x, y, ha, hax, hx, hy⟩ := kwg M hMl
    walk_at "go"
    have eM : ((rs.map V.ref).length : Int) - 1 - (i : Int) = (M : Int) := by rw [List.length_map]; omega
    dsimp only
    rw [eM]
    refine ⟨_, _, _, _, rfl, rfl, SqL.of hD4, at_refs ha, ?_⟩
    walk_at "go"
    obtain ⟨H6, q6, e6, h6⟩ := alloc (o := HO.lst [V.bl true, V.bl true]) np
    rw [q6]
    have ha6 := e6 _ _ hax
    refine ⟨.list [.bool x, .bool y], .list [.bool true, .bool true], .lst (SqL.of ha6) (.cons (.bl _) (.cons (.bl _) .nil)), .lst (SqL.of h6) (.cons (.bl _) (.cons (.bl _) .nil)), by cases x <;> cases y <;> decide +kernel, by decide +kernel, ?_⟩
    have hnear : x = true → y = true → NearK Ps n m M := fun h1 h2 => ⟨(RG.at_ old).mp (hx.mp h1), (RG.at_ old).mp (hy.mp h2), fun k h3 h4 => by
      rcases Nat.lt_or_ge M k with h | h
      · have := h3.le old
        exact absurd (no k (by omega) (by omega) h3 h4) id
      · exact h⟩
    have hno : ¬ (x = true ∧ y = true) → ∀ k, Ps.length - (i + 1) ≤ k → k < Ps.length → RG Ps 0 n k → RG Ps 0 m k → False := fun h k h1 h2 h3 h4 => by
      rcases Nat.lt_or_ge M k with h5 | h5
      · exact no k (by omega) h2 h3 h4
      · have : k = M := by omega
        subst this
        exact h ⟨hx.mpr ((RG.at_ old).mpr h3), hy.mpr ((RG.at_ old).mpr h4)⟩
    have e46 := e4.trans e6
    have hD6 := e6 _ _ hD4
    have ol6 := ol4.same e6
    have hL6 := ol6.hL
    walk_at "go"
    rw [show (PyData.list [PyData.bool x, PyData.bool y]).eqv (PyData.list [PyData.bool true, PyData.bool true]) = (x && y) by cases x <;> cases y <;> decide +kernel]
    refine iteB (fun hb => ?_) fun hb => ?_
    · rw [Bool.and_eq_true] at hb
      walk_at "go"
      exact q _ _ e46 (hnear hb.1 hb.2)
    have no2 := hno fun h => by rw [h.1, h.2] at hb; cases hb
    clear hno hnear hb no
    obtain ⟨r, hr⟩ : ∃ r, rs[M]? = some r := ⟨rs[M]'(by omega), List.getElem?_eq_getElem (by omega)⟩
    obtain ⟨ps, hps, hrt⟩ := Paired.get ol.ps hr
    have epar : par Ps M = ps := by unfold par; rw [hps]; rfl
    have hrt6 := e46 _ _ hrt
    walk_at "go"
    refine ⟨_, _, _, _, rfl, rfl, SqL.of hL6, at_refs hr, ?_⟩
    walk_at "go"
    refine ⟨⟨_, SqT.of hrt6⟩, ?_⟩
    have kwI : KW Ps.length as (fun k => RG Ps (M + 1) n k ∨ (RG Ps (M + 1) n M ∧ k ∈ ps.take 0)) (fun k => RG Ps (M + 1) m k ∨ (RG Ps (M + 1) m M ∧ k ∈ ps.take 0)) H6 := ⟨la, fun k hk => by
      obtain ⟨a, x, y, h1, h2, h3, h4⟩ := kwg k hk
      exact ⟨a, x, y, h1, e6 _ _ h2, h3.trans (by simp), h4.trans (by simp)⟩⟩
    refine for_it wT (fun j σ H' => Same H H' ∧ ∃ (as : List Addr) (v7 : Option V), H' D = some (.lst (as.map V.ref)) ∧ KW Ps.length as (fun k => RG Ps (M + 1) n k ∨ (RG Ps (M + 1) n M ∧ k ∈ ps.take j)) (fun k => RG Ps (M + 1) m k ∨ (RG Ps (M + 1) m M ∧ k ∈ ps.take j)) H' ∧ σ = [some (.ref L), some (nV n), some (nV m), some (.ref D), none, some (nV i), some (nV M), v7])
      ⟨e46, as, _, hD6, kwI, rfl⟩ (fun _ _ _ _ h => SqT.of (h.1 _ _ hrt)) ?_ ?_
    · clear kwI kwg la ha hax hx hy
      rintro j w σ H7 H8 hj ⟨e7, as, v7, hD7, kw, rfl⟩ ⟨rfl, hw⟩
      rw [List.getElem?_map] at hw
      obtain ⟨pa, hp, rfl⟩ := Option.map_eq_some_iff.mp hw
      have hpM := old M pa (epar ▸ List.mem_of_getElem? hp)
      obtain ⟨la, kwg⟩ := kw
      obtain ⟨a1, x1, y1, ha1, hax1, hx1, hy1⟩ := kwg pa (by omega)
      obtain ⟨a2, x2, y2, ha2, hax2, hx2, hy2⟩ := kwg M hMl
      walk_at "go"
      refine ⟨_, _, _, _, rfl, rfl, SqL.of hD7, at_refs ha1, ?_⟩
      walk_at "go"
      refine ⟨_, _, _, _, rfl, rfl, SqL.of hax1, (show atI _ ((0 : Nat) : Int) = some (V.bl x1) from atI_nat rfl), ?_⟩
      walk_at "go"
      have tk : ps.take (j + 1) = ps.take j ++ [pa] := by rw [List.take_add_one, hp]; rfl
      have aD : ∀ {a : Addr} {x y : Bool}, H8 a = some (.lst [.bl x, .bl y]) → a ≠ D := fun {a x y} h e => by
        rw [e, hD7] at h
        have h : as.map V.ref = [V.bl x, V.bl y] := HO.lst.inj (Option.some.inj h)
        obtain ⟨_, _, _, h, _⟩ := List.map_eq_cons_iff.mp h
        cases h
      have fin : ∀ (c : Addr) (u v : Bool) (HX : Hp), H8 c = none → upd H8 c (.lst [.bl u, .bl v]) = HX → u = (x1 || x2) → v = (y1 || y2) → Same H (upd HX D (.lst ((as.map V.ref).set pa (.ref c)))) ∧ ∃ (bs : List Addr) (v7 : Option V), upd HX D (.lst ((as.map V.ref).set pa (.ref c))) D = some (.lst (bs.map V.ref)) ∧ KW Ps.length bs (fun k => RG Ps (M + 1) n k ∨ (RG Ps (M + 1) n M ∧ k ∈ ps.take (j + 1))) (fun k => RG Ps (M + 1) m k ∨ (RG Ps (M + 1) m M ∧ k ∈ ps.take (j + 1))) (upd HX D (.lst ((as.map V.ref).set pa (.ref c)))) ∧ [some (V.ref L), some (nV n), some (nV m), some (.ref D), none, some (nV i), some (nV M), some (nV pa)] = [some (V.ref L), some (nV n), some (nV m), some (.ref D), none, some (nV i), some (nV M), v7] := fun c u v HX nc eX eu ev => by
        have eC : Same H8 HX := by rw [← eX]; exact Same.new nc
        have hc : HX c = some (.lst [.bl u, .bl v]) := by rw [← eX]; exact upd_same
        have cD : c ≠ D := (ne_of_none hD7 nc).symm
        refine ⟨Same.mut (e7.trans eC) nD, as.set pa c, _, by rw [upd_same, List.map_set], ⟨by rw [List.length_set, la], fun k hk => ?_⟩, rfl⟩
        rw [List.getElem?_set]
        by_cases e : pa = k
        · subst e
          rw [if_pos rfl, if_pos (by omega)]
          refine ⟨c, u, v, rfl, (upd_ne cD).trans hc, ?_, ?_⟩
          · rw [eu, Bool.or_eq_true, hx1, hx2, tk]
            simp only [List.mem_append, List.mem_singleton]
            constructor
            · rintro ((h | h) | (h | h))
              · exact .inl h
              · exact .inr ⟨h.1, .inl h.2⟩
              · exact .inr ⟨h, .inr trivial⟩
              · exact .inr ⟨h.1, .inr trivial⟩
            · rintro (h | ⟨h, _⟩)
              · exact .inl (.inl h)
              · exact .inr (.inl h)
          · rw [ev, Bool.or_eq_true, hy1, hy2, tk]
            simp only [List.mem_append, List.mem_singleton]
            constructor
            · rintro ((h | h) | (h | h))
              · exact .inl h
              · exact .inr ⟨h.1, .inl h.2⟩
              · exact .inr ⟨h, .inr trivial⟩
              · exact .inr ⟨h.1, .inr trivial⟩
            · rintro (h | ⟨h, _⟩)
              · exact .inl (.inl h)
              · exact .inr (.inl h)
        · rw [if_neg e]
          obtain ⟨a, x, y, h1, h2, h3, h4⟩ := kwg k hk
          have ek : (k ∈ ps.take (j + 1)) ↔ k ∈ ps.take j := by rw [tk, List.mem_append, List.mem_singleton]; exact ⟨fun h => h.elim id fun h => absurd h.symm e, .inl⟩
          exact ⟨a, x, y, h1, (upd_ne (aD h2)).trans (eC _ _ h2), h3.trans (by dsimp only; rw [ek]), h4.trans (by dsimp only; rw [ek])⟩
      cases x1
      all_goals
        walk_at "go"
        try (refine ⟨_, _, _, _, rfl, rfl, SqL.of hD7, at_refs ha2, ?_⟩; walk_at "go"; refine ⟨_, _, _, _, rfl, rfl, SqL.of hax2, (show atI _ ((0 : Nat) : Int) = some (V.bl x2) from atI_nat rfl), ?_⟩; walk_at "go")
        refine ⟨_, _, _, _, rfl, rfl, SqL.of hD7, at_refs ha1, ?_⟩
        walk_at "go"
        refine ⟨_, _, _, _, rfl, rfl, SqL.of hax1, (show atI _ ((1 : Nat) : Int) = some (V.bl y1) from atI_nat rfl), ?_⟩
        walk_at "go"
        cases y1
        all_goals
          walk_at "go"
          try (refine ⟨_, _, _, _, rfl, rfl, SqL.of hD7, at_refs ha2, ?_⟩; walk_at "go"; refine ⟨_, _, _, _, rfl, rfl, SqL.of hax2, (show atI _ ((1 : Nat) : Int) = some (V.bl y2) from atI_nat rfl), ?_⟩; walk_at "go")
          obtain ⟨HX, qX, eX, hX⟩ := alloc (o := HO.lst [V.bl _, V.bl _]) np
          rw [qX]
          refine ⟨D, _, _, pa, rfl, rfl, eX _ _ hD7, ixN_nat (by rw [List.length_map]; omega), ?_⟩
          exact fin _ _ _ HX np qX rfl rfl
    rintro σ H7 ⟨e7, as, v7, hD7, kw, rfl⟩
    rw [List.length_map] at kw
    simp only [List.take_length] at kw
    refine ⟨e7, as, _, _, _, hD7, ⟨kw.1, fun k hk => ?_⟩, no2, rfl⟩
    obtain ⟨a, x, y, h1, h2, h3, h4⟩ := kw.2 k hk
    refine ⟨a, x, y, h1, h2, h3.trans ?_, h4.trans ?_⟩
    · rw [show Ps.length - (i + 1) = M by omega, ← epar]; exact (RG.next old).symm
    · rw [show Ps.length - (i + 1) = M by omega, ← epar]; exact (RG.next old).symm
  rintro σ H4 ⟨e4, as, v6, v7, v5, hD4, kw, no, rfl⟩
  exact absurd (no 0 (by omega) (by omega) (RG.zero old root n hn) (RG.zero old root m hm)) id
set_option hygiene false in
local macro_rules | `(tactic| walk_at "isr") => `(tactic| refine ⟨_, _, _, rfl, fun _ h => h, (by first | exact T.q_NoPath_NoPath | exact T.q_NoPath_NoFile | exact T.q_NoPath_InTheWay | exact T.q_NoFile_NoPath | exact T.q_NoFile_NoFile | exact T.q_NoFile_InTheWay | exact T.q_InTheWay_NoPath | exact T.q_InTheWay_NoFile | exact T.q_InTheWay_InTheWay | exact T.q_SameVersion_SameVersion | exact T.q_SameVersion_NoClash | exact T.q_SameVersion_Clashed | exact T.q_NoClash_SameVersion | exact T.q_NoClash_NoClash | exact T.q_NoClash_Clashed | exact T.q_Clashed_SameVersion | exact T.q_Clashed_NoClash | exact T.q_Clashed_Clashed), ?_⟩)
def spGrew (C : Addr) (K : PySem.W.Frag) : Sp := fun vs H Q _ => ∃ (b dx t o p : Addr) (ts os rs : List Addr) (Gs : List Tr) (Ps : List (List Nat)) (n : Nat) (G : Tr) (ds : List Deed), vs = [.ref b, nV n, .ref p] ∧ BkAt C b dx t o ts os Gs Ps H ∧ Gs[n]? = some G ∧ RowAt K H p rs ds ∧ (∀ G ∈ Gs, TreeOk 1000 G) ∧ ds.length ≤ 1000 ∧ Gs.length ≤ 1000 ∧ (∀ e ∈ ds, e.path.length ≤ 16777000) ∧
  match foldR G ds with
    | .tree G' => ∀ x y H', Same2 t o H H' → BkAt C b dx t o (ts ++ [x]) (os ++ [y]) (Gs ++ [G']) (Ps ++ [[n]]) H' → Q (nV Gs.length) H'
    | r => ∀ H', Same H H' → Q (.str (toldWord r)) H'
theorem okL_grew (T : Txt K mg C_Book C_Clashed C_InTheWay C_NoClash C_NoFile C_NoPath C_NoVersion C_RoadError C_SameVersion) : Cal P w K mg base CX0 6 "_law_grew" ps_L_grew (spGrew C_Book K) := by
  have sc := scL_grew
  refine T.d_L_grew.ok sc (by walk_at "len") (fun f cdv A outer s H vs Q E hr h => ?_)
  have hu := hu_of hr
  obtain ⟨b, dx, t, o, p, ts, os, rs, Gs, Ps, n, G, ds, rfl, bk, hG, row, ok, ld, lG, pl, q⟩ := h
  have hn : n < Gs.length := (List.getElem?_eq_some_iff.mp hG).1
  refine ⟨_, PSs.cv (by exact (pss_one (L2N.ps_try_as (i := 3) (Wout := fun _ _ _ _ => False) rfl rfl sc.nd rfl rfl ⟨by rfl, by decide +kernel, .inl T.x_RoadError.gC⟩ takes_none (fun W pn xe tk po => PSs.cv (by exact (pss_one (ps_ret (pe_mcalS tk T.cl_Book (okBook_grow T) (hr.mono (by decide)) (pv 0) (pa_cons (pv 1) (pa_cons (pv 2) pa_nil)))))) (by walk_at "cv")) (fun a oe cls d pn hz hf => PSs.cv (by exact PSs.guard (p := fun D => cls = .ref D ∧ d = none ∧ ExcC K D) fun D hp => (pss_cons (ps_set (i := 4) sc.nd rfl (Or.inl rfl) (pe_op op_add_str (pe_op op_mulS pe_str (pe_callTy call_int1 (by rfl) T.n_int (by decide +kernel) (pa_cons (pe_callB (call_isG hp hz hf) (by rfl) T.n_isinstance (by decide +kernel) (pa_cons (pv 3) (pa_cons (pe_glob (v := .ref C_NoPath) (by rfl) T.x_NoPath.gC rfl) pa_nil))) pa_nil))) (pe_op op_mulS pe_str (pe_callTy call_int1 (by rfl) T.n_int (by decide +kernel) (pa_cons (pe_callB (call_isG hp hz hf) (by rfl) T.n_isinstance (by decide +kernel) (pa_cons (pv 3) (pa_cons (pe_glob (v := .ref C_NoFile) (by rfl) T.x_NoFile.gC rfl) pa_nil))) pa_nil)))))
      (pss_one (ps_ret (pe_op op_add_str (pv 4) (pe_op op_mulS pe_str (pe_callTy call_int1 (by rfl) T.n_int (by decide +kernel) (pa_cons (pe_callB (call_isG hp hz hf) (by rfl) T.n_isinstance (by decide +kernel) (pa_cons (pv 3) (pa_cons (pe_glob (v := .ref C_InTheWay) (by rfl) T.x_InTheWay.gC rfl) pa_nil))) pa_nil)))))))) (by walk_at "cv"))))) (by walk_at "cv"), ?_⟩
  walk_at "go"
  refine ⟨b, dx, _, rfl, bk.ins, lk_meth t o (Str.ofString "grow") (by decide +kernel) (by decide +kernel), ?_⟩
  walk_at "go"
  refine ⟨b, dx, t, o, p, ts, os, rs, Gs, Ps, nV n, ds, 1000, rfl, bk, .inl (nV_int _), row, ok, by omega, by omega, pl, (fun n1 G1 en hG1 => ?_), fun h => no_okV h hn⟩
  have := nV_inj en
  subst this
  rw [hG] at hG1
  cases hG1
  cases hf : foldR G ds with
  | tree G' =>
    rw [hf] at q
    intro x y H1 s1 bk1
    walk_at "go"
    exact q x y H1 s1 bk1
  | noPath =>
    rw [hf] at q
    intro H1 e1
    refine ⟨true, T.m_NoPath_RoadError, fun _ x hx => ⟨C_NoPath, ⟨rfl, rfl, T.e_NoPath⟩, ?_⟩, fun h => by cases h⟩
    walk_at "go"
    walk_at "isr"
    walk_at "go"
    walk_at "isr"
    walk_at "go"
    refine ⟨by decide +kernel, ?_⟩
    walk_at "go"
    walk_at "isr"
    walk_at "go"
    refine ⟨by decide +kernel, ?_⟩
    walk_at "go"
    refine cast ?_ (q H1 e1)
    exact congrArg (fun z => Q (V.str z) H1) (by decide +kernel)
  | noFile =>
    rw [hf] at q
    intro H1 e1
    refine ⟨true, T.m_NoFile_RoadError, fun _ x hx => ⟨C_NoFile, ⟨rfl, rfl, T.e_NoFile⟩, ?_⟩, fun h => by cases h⟩
    walk_at "go"
    walk_at "isr"
    walk_at "go"
    walk_at "isr"
    walk_at "go"
    refine ⟨by decide +kernel, ?_⟩
    walk_at "go"
    walk_at "isr"
    walk_at "go"
    refine ⟨by decide +kernel, ?_⟩
    walk_at "go"
    refine cast ?_ (q H1 e1)
    exact congrArg (fun z => Q (V.str z) H1) (by decide +kernel)
  | inTheWay =>
    rw [hf] at q
    intro H1 e1
    refine ⟨true, T.m_InTheWay_RoadError, fun _ x hx => ⟨C_InTheWay, ⟨rfl, rfl, T.e_InTheWay⟩, ?_⟩, fun h => by cases h⟩
    walk_at "go"
    walk_at "isr"
    walk_at "go"
    walk_at "isr"
    walk_at "go"
    refine ⟨by decide +kernel, ?_⟩
    walk_at "go"
    walk_at "isr"
    walk_at "go"
    refine ⟨by decide +kernel, ?_⟩
    walk_at "go"
    refine cast ?_ (q H1 e1)
    exact congrArg (fun z => Q (V.str z) H1) (by decide +kernel)
def spJoinedB (C : Addr) : Sp := fun vs H Q _ => ∃ (b dx t o d : Addr) (ts os : List Addr) (Gs : List Tr) (Ps : List (List Nat)) (n m : Nat) (P : Tr), vs = [.ref b, nV n, nV m, .ref d] ∧ BkAt C b dx t o ts os Gs Ps H ∧ n < Gs.length ∧ m < Gs.length ∧ Old Ps ∧ Root Ps ∧ Gs.length ≤ 1000 ∧
  (∀ G ∈ Gs, TreeOk 1000 G) ∧ RdD H d P ∧ (∀ x ∈ ts, x ≠ d) ∧ (∀ p v, valV P p = some v → OptS v) ∧ P.length ≤ 100000 ∧
  (∀ (e : Nat) (A B D : Tr), NearK Ps n m e → Gs[e]? = some A → Gs[n]? = some B → Gs[m]? = some D → n ≠ m → match joinR A B D P with
    | .tree G' => ∀ x y H', H x = none → Same2 t o H H' → BkAt C b dx t o (ts ++ [x]) (os ++ [y]) (Gs ++ [G']) (Ps ++ [[min n m, max n m]]) H' → Q (nV Gs.length) H'
    | .noClash => ∀ H', SameF d P H H' → Q (.str "NoClash") H'
    | .clashed => ∀ H', Same H H' → Q (.str "Clashed") H') ∧
  (n = m → ∀ H', Same H H' → Q (.str "SameVersion") H')
theorem okL_joined (T : Txt K mg C_Book C_Clashed C_InTheWay C_NoClash C_NoFile C_NoPath C_NoVersion C_RoadError C_SameVersion) : Cal P w K mg base CX0 6 "_law_joined" ps_L_joined (spJoinedB C_Book) := by
  have sc := scL_joined
  refine T.d_L_joined.ok sc (by walk_at "len") (fun f cdv A outer s H vs Q E hr h => ?_)
  have hu := hu_of hr
  obtain ⟨b, dx, t, o, d, ts, os, Gs, Ps, n, m, P, rfl, bk, hn, hm, old, root, lG, ok, hd, ntd, hv, lP, q1, q2⟩ := h
  refine ⟨_, PSs.cv (by exact (pss_one (L2N.ps_try_as (i := 4) (Wout := fun _ _ _ _ => False) rfl rfl sc.nd rfl rfl ⟨by rfl, by decide +kernel, .inl T.x_RoadError.gC⟩ takes_none (fun W pn xe tk po => PSs.cv (by exact (pss_one (ps_ret (pe_mcalS tk T.cl_Book (okBook_merge T) (hr.mono (by decide)) (pv 0) (pa_cons (pv 1) (pa_cons (pv 2) (pa_cons (pv 3) pa_nil))))))) (by walk_at "cv")) (fun a oe cls d pn hz hf => PSs.cv (by exact PSs.guard (p := fun D => cls = .ref D ∧ d = none ∧ ExcC K D) fun D hp => (pss_cons (ps_set (i := 5) sc.nd rfl (Or.inl rfl) (pe_op op_add_str (pe_op op_mulS pe_str (pe_callTy call_int1 (by rfl) T.n_int (by decide +kernel) (pa_cons (pe_callB (call_isG hp hz hf) (by rfl) T.n_isinstance (by decide +kernel) (pa_cons (pv 4) (pa_cons (pe_glob (v := .ref C_SameVersion) (by rfl) T.x_SameVersion.gC rfl) pa_nil))) pa_nil))) (pe_op op_mulS pe_str (pe_callTy call_int1 (by rfl) T.n_int (by decide +kernel) (pa_cons (pe_callB (call_isG hp hz hf) (by rfl) T.n_isinstance (by decide +kernel) (pa_cons (pv 4) (pa_cons (pe_glob (v := .ref C_NoClash) (by rfl) T.x_NoClash.gC rfl) pa_nil))) pa_nil)))))
      (pss_one (ps_ret (pe_op op_add_str (pv 5) (pe_op op_mulS pe_str (pe_callTy call_int1 (by rfl) T.n_int (by decide +kernel) (pa_cons (pe_callB (call_isG hp hz hf) (by rfl) T.n_isinstance (by decide +kernel) (pa_cons (pv 4) (pa_cons (pe_glob (v := .ref C_Clashed) (by rfl) T.x_Clashed.gC rfl) pa_nil))) pa_nil)))))))) (by walk_at "cv"))))) (by walk_at "cv"), ?_⟩
  walk_at "go"
  refine ⟨b, dx, _, rfl, bk.ins, lk_meth t o (Str.ofString "merge") (by decide +kernel) (by decide +kernel), ?_⟩
  walk_at "go"
  refine ⟨b, dx, t, o, d, ts, os, Gs, Ps, nV n, nV m, P, rfl, bk, .inl (nV_int _), .inl (nV_int _), old, root, by omega, ok, hd, ntd, hv, lP, (fun n1 m1 e1 A B D en em nk hA hB hD hne => ?_), (fun n1 en em hn1 H1 e1 => ?_), fun h => h.elim (fun h => no_okV h hn) fun h => no_okV h hm⟩
  · have := nV_inj en
    subst this
    have := nV_inj em
    subst this
    have q := q1 e1 A B D nk hA hB hD hne
    clear q1 q2
    cases hj : joinR A B D P with
    | tree G =>
      rw [hj] at q
      intro x y H1 nx s1 bk1
      walk_at "go"
      exact q x y H1 nx s1 bk1
    | noClash =>
      rw [hj] at q
      intro H1 e1
      refine ⟨true, T.m_NoClash_RoadError, fun _ x hx => ⟨C_NoClash, ⟨rfl, rfl, T.e_NoClash⟩, ?_⟩, fun h => by cases h⟩
      walk_at "go"
      walk_at "isr"
      walk_at "go"
      walk_at "isr"
      walk_at "go"
      refine ⟨by decide +kernel, ?_⟩
      walk_at "go"
      walk_at "isr"
      walk_at "go"
      refine ⟨by decide +kernel, ?_⟩
      walk_at "go"
      refine cast ?_ (q H1 e1)
      exact congrArg (fun z => Q (V.str z) H1) (by decide +kernel)
    | clashed =>
      rw [hj] at q
      intro H1 e1
      refine ⟨true, T.m_Clashed_RoadError, fun _ x hx => ⟨C_Clashed, ⟨rfl, rfl, T.e_Clashed⟩, ?_⟩, fun h => by cases h⟩
      walk_at "go"
      walk_at "isr"
      walk_at "go"
      walk_at "isr"
      walk_at "go"
      refine ⟨by decide +kernel, ?_⟩
      walk_at "go"
      walk_at "isr"
      walk_at "go"
      refine ⟨by decide +kernel, ?_⟩
      walk_at "go"
      refine cast ?_ (q H1 e1)
      exact congrArg (fun z => Q (V.str z) H1) (by decide +kernel)
  · have h1 := nV_inj en
    have h2 := nV_inj em
    have q := q2 (by omega)
    refine ⟨true, T.m_SameVersion_RoadError, fun _ x hx => ⟨C_SameVersion, ⟨rfl, rfl, T.e_SameVersion⟩, ?_⟩, fun h => by cases h⟩
    walk_at "go"
    walk_at "isr"
    walk_at "go"
    walk_at "isr"
    walk_at "go"
    refine ⟨by decide +kernel, ?_⟩
    walk_at "go"
    walk_at "isr"
    walk_at "go"
    refine ⟨by decide +kernel, ?_⟩
    walk_at "go"
    refine cast ?_ (q H1 e1)
    exact congrArg (fun z => Q (V.str z) H1) (by decide +kernel)
def spJoinBy : Sp := fun vs H Q _ => ∃ (a b c d : Addr) (A B C P : Tr) (n : Nat), vs = [.ref a, .ref b, .ref c, .ref d] ∧ AtD H a A ∧ AtD H b B ∧ AtD H c C ∧ AtD H d P ∧ TreeOk n A ∧ TreeOk n B ∧ TreeOk n C ∧ n ≤ 1000 ∧ (∀ p v, valV P p = some v → OptS v) ∧
  ∀ t m l H', H m = none → H l = none → Same H H' → H' t = some (.tup [.ref m, .ref l]) → AtD H' m (madeT A B C P) → H' l = some (.lst ((hindL A B C P).map V.str)) → Q (.ref t) H'
theorem okL_joined_by (T : Txt K mg C_Book C_Clashed C_InTheWay C_NoClash C_NoFile C_NoPath C_NoVersion C_RoadError C_SameVersion) : Cal P w K mg base CX0 2 "_law_joined_by" ps_L_joined_by (spJoinBy) := by
  have sc := scL_joined_by
  refine T.d_L_joined_by.ok sc (by walk_at "len") (fun f cdv A outer s H vs Q E hr h => ?_)
  have hu := hu_of hr
  obtain ⟨a, b, c, d, A, B, C, P, n, rfl, ha, hb, hc, hd, okA, okB, okC, hn, hP, q⟩ := h
  have lA := okA.len
  have lB := okB.len
  have lC := okC.len
  refine ⟨_, PSs.cv (by exact (pss_cons (ps_set (i := 4) sc.nd rfl (Or.inr rfl) pe_dnewK)
      (pss_cons (ps_set (i := 5) sc.nd rfl (Or.inr rfl) pe_dnewK)
      (pss_cons (ps_for PassesOwn.never rfl (pi_list (pe_sortedSet rfl (by rfl) T.n_sorted (by rfl) T.n_set (pe_op op_cat (pe_op op_cat (pe_callTy (call_listD rfl) (by rfl) T.n_list (by decide +kernel) (pa_cons (pv 0) pa_nil)) (pe_callTy (call_listD rfl) (by rfl) T.n_list (by decide +kernel) (pa_cons (pv 1) pa_nil))) (pe_callTy (call_listD rfl) (by rfl) T.n_list (by decide +kernel) (pa_cons (pv 2) pa_nil))))) (pg_name (i := 6) sc.nd rfl (Or.inl rfl)) (pss_cons (ps_set (i := 7) sc.nd rfl (Or.inl rfl) (pe_dget1 hu (pv 0) (pv 6) ⟨rfl, rfl, rfl, rfl⟩))
      (pss_cons (ps_set (i := 8) sc.nd rfl (Or.inl rfl) (pe_dget1 hu (pv 1) (pv 6) ⟨rfl, rfl, rfl, rfl⟩))
      (pss_cons (ps_set (i := 9) sc.nd rfl (Or.inl rfl) (pe_dget1 hu (pv 2) (pv 6) ⟨rfl, rfl, rfl, rfl⟩))
      (pss_cons (ps_if (PW.pt (pw_or (pt_cmpR op_eq (pv 8) (pv 9) (nomark _)) (pw_or1 (pt_cmpR op_eq (pv 9) (pv 7) (nomark _))))) (pss_one (ps_set (i := 9) sc.nd rfl (Or.inl rfl) (pv 8))) (pss_one (ps_if (pt_cmpR op_ne (pv 8) (pv 7) (nomark _)) (pss_cons (ps_set (i := 9) sc.nd rfl (Or.inl rfl) pe_non)
      (pss_one (ps_dput hu (pv 5) (pv 6) (pe_cmp (pc_dnotin hu (pv 6) (pv 3)) rfl) rfl))) pss_nil)))
      (pss_cons (ps_if (pt_cmp (pc_din hu (pv 6) (pv 3))) (pss_one (ps_set (i := 9) sc.nd rfl (Or.inl rfl) (pe_dget hu (pv 3) (pv 6) (fun _ _ => rfl)))) pss_nil)
      (pss_one (ps_if (pt_cmpR op_notN (pv 9) pe_non (nomark _)) (pss_one (ps_dput hu (pv 4) (pv 6) (pv 9) rfl)) pss_nil))))))))
      (pss_cons (ps_lock (ps_setLc (i := 10) rfl sc.nd rfl rfl (sw_true rfl rfl rfl (by decide +kernel)) (pi_keys (pv 4)) (blkOk_by (own := [("_law_path", 6)]) (N := sl_L_joined_by) (sc := defScope s_L_joined_by) (by decide +kernel)) (fun _ _ _ _ _ => (pg_name (i := 6) sc.nd rfl (by first | exact Or.inl rfl | exact Or.inr rfl))) (fun _ _ _ _ _ => PTs.cv (by exact pts_one (pt_not (pt_val (pe_calC (okL_is_free T) (hr.mono (by decide)) (by rfl) pass0 (pa_cons (pv 4) (pa_cons (pv 6) pa_nil)))))) (by walk_at "cv")) (fun _ _ _ _ _ => PE.cv (by exact (pv 6)) (by walk_at "cv"))))
      (pss_one (ps_ret (pe_tup (pa_cons (pv 4) (pa_cons (pe_op op_cat (pe_lock (pe_lc (own := [("_law_path", 6)]) (g := gName 6) rfl sc.nd (pi_keys (pv 5)) (blkOk_by (N := sl_L_joined_by) (sc := defScope s_L_joined_by) (by decide +kernel)) (fun _ _ _ _ _ => (pg_name (i := 6) sc.nd rfl (by first | exact Or.inl rfl | exact Or.inr rfl))) (fun _ _ _ _ _ => PTs.cv (by exact pts_one (pt_val (pe_dget hu (pv 5) (pv 6) (fun _ _ => rfl)))) (by walk_at "cv")) (fun _ _ _ _ _ => PE.cv (by exact (pv 6)) (by walk_at "cv")))) (pe_callB cr_sortedSA (by rfl) T.n_sorted (by decide +kernel) (pa_cons (pv 10) pa_nil))) pa_nil)))))))))) (by walk_at "cv"), ?_⟩
  walk_at "go"
  intro F nF
  obtain ⟨H1, q1, e1, h1⟩ := alloc (o := HO.dK []) nF
  rw [q1]
  walk_at "go"
  intro G nG
  obtain ⟨H2, q2, e2, h2⟩ := alloc (o := HO.dK []) nG
  rw [q2]
  have e02 := e1.trans e2
  have nG0 : H G = none := e1.free nG
  have nFG : F ≠ G := ne_of_none h1 nG
  have hF2 : AtD H2 F [] := e2 _ _ h1
  have hG2 : AtD H2 G [] := h2
  have ha2 : AtD H2 a A := e02 _ _ ha
  have hb2 : AtD H2 b B := e02 _ _ hb
  have hc2 : AtD H2 c C := e02 _ _ hc
  clear q1 q2 h1 h2
  walk_at "go"
  intro L1 n1
  rw [kvs_keys]
  obtain ⟨H3, q3, e3, h3⟩ := alloc (o := HO.lst ((keys A).map V.str)) n1
  rw [q3]
  have hb3 : AtD H3 b B := e3 _ _ hb2
  walk_at "go"
  intro L2' n2
  rw [kvs_keys]
  obtain ⟨H4, q4, e4, h4⟩ := alloc (o := HO.lst ((keys B).map V.str)) n2
  rw [q4]
  refine ⟨_, _, _, _, rfl, rfl, e4 _ _ h3, h4, sl_of (by rw [List.length_map, List.length_map, List.length_map, List.length_map]; omega), fun L3 n3 => ?_⟩
  rw [← List.map_append]
  obtain ⟨H5, q5, e5, h5⟩ := alloc (o := HO.lst ((keys A ++ keys B).map V.str)) n3
  rw [q5]
  have hc5 : AtD H5 c C := (e3.trans (e4.trans e5)) _ _ hc2
  walk_at "go"
  intro L4 n4
  rw [kvs_keys]
  obtain ⟨H6, q6, e6, h6⟩ := alloc (o := HO.lst ((keys C).map V.str)) n4
  rw [q6]
  refine ⟨_, _, _, _, rfl, rfl, e6 _ _ h5, h6, sl_of (by rw [List.length_map, List.length_map, List.length_append, List.length_map, List.length_map, List.length_map]; omega), fun L5 n5 => ?_⟩
  rw [← List.map_append]
  obtain ⟨H7, q7, e7, h7⟩ := alloc (o := HO.lst ((keys A ++ keys B ++ keys C).map V.str)) n5
  rw [q7]
  refine ⟨L5, _, rfl, SqL.of h7, by rw [List.length_append, List.length_append, List.length_map, List.length_map, List.length_map]; omega, fun L nL => ?_⟩
  rw [show srtU (keys A ++ keys B ++ keys C) = allP A B C from rfl]
  obtain ⟨H8, q8, e8, hL⟩ := alloc (o := HO.lst ((allP A B C).map V.str)) nL
  rw [q8]
  have e28 := e3.trans (e4.trans (e5.trans (e6.trans (e7.trans e8))))
  have e08 := e02.trans e28
  have hF8 : AtD H8 F [] := e28 _ _ hF2
  have hG8 : AtD H8 G [] := e28 _ _ hG2
  have nLF : L ≠ F := fun e => by
    have h : H8 F = some (.dK (kvs [])) := hF8
    rw [← e, hL] at h; cases h
  have nLG : L ≠ G := fun e => by
    have h : H8 G = some (.dK (kvs [])) := hG8
    rw [← e, hL] at h; cases h
  have al := allP_len A B C
  have nd := nd_allP A B C
  clear q3 q4 q5 q6 q7 q8 h3 h4 h5 h6 h7 e1 e2 e3 e4 e5 e6 e7 e8 n1 n2 n3 n4 n5 nL ha2 hb2 hc2 hb3 hc5 hF2 hG2
  walk_at "go"
  refine ⟨⟨_, SqL.of hL⟩, ?_⟩
  refine for_it wL (fun i σ H' => Same H H' ∧ H' L = some (.lst ((allP A B C).map V.str)) ∧ AtD H' F (madeL A B C P ((allP A B C).take i)) ∧ AtD H' G (plL A B C P ((allP A B C).take i)) ∧ ∃ (v6 v7 v8 v9 : Option V), σ = [some (.ref a), some (.ref b), some (.ref c), some (.ref d), some (.ref F), some (.ref G), v6, v7, v8, v9, none])
    ⟨e08, hL, hF8, hG8, _, _, _, _, rfl⟩ (fun _ _ _ _ h => SqL.of h.2.1) ?_ ?_
  · rintro i x σ H4 H5 hi ⟨e4, hL4, hF4, hG4, v6, v7, v8, v9, rfl⟩ ⟨rfl, hx⟩
    rw [List.getElem?_map] at hx
    obtain ⟨z, hz, rfl⟩ := Option.map_eq_some_iff.mp hx
    have ha4 : AtD H5 a A := e4 _ _ ha
    have hb4 : AtD H5 b B := e4 _ _ hb
    have hc4 : AtD H5 c C := e4 _ _ hc
    have hd4 : AtD H5 d P := e4 _ _ hd
    have nx := made_next (A := A) (B := B) (C := C) (P := P) nd hz
    have nx2 := gen_next (f := cB A B C) (g := fun p => V.bl (!(valV P p).isSome)) nd hz
    have tkl : ((allP A B C).take i).length ≤ 3000 := by rw [List.length_take]; omega
    have ll : (plL A B C P ((allP A B C).take i)).length ≤ 3000 := Nat.le_trans gen_len tkl
    have lm : (madeL A B C P ((allP A B C).take i)).length ≤ 3000 := by
      unfold madeL
      rw [List.length_map]
      exact Nat.le_trans (List.length_filter_le _ _) tkl
    have oA := okA.optS z
    have oB := okB.optS z
    have oC := okC.optS z
    walk_at "go"
    refine ⟨.inl ⟨_, ha4.rd⟩, ?_⟩
    walk_at "go"
    refine ⟨_, ha4.rd.get z, ?_⟩
    walk_at "go"
    refine ⟨.inl ⟨_, hb4.rd⟩, ?_⟩
    walk_at "go"
    refine ⟨_, hb4.rd.get z, ?_⟩
    walk_at "go"
    refine ⟨.inl ⟨_, hc4.rd⟩, ?_⟩
    walk_at "go"
    refine ⟨_, hc4.rd.get z, ?_⟩
    refine seq_join (fun σ H' => H' = H5 ∧ σ = [some (.ref a), some (.ref b), some (.ref c), some (.ref d), some (.ref F), some (.ref G), some (.str z), some (getV A z), some (getV B z), some (getV C z), none]) (fun N hj => hj _ _ ⟨rfl, rfl⟩) ?_
    rintro σ HX ⟨eX, rfl⟩
    rw [eX]
    clear eX
    refine seq_join (fun σ H' => Same H H' ∧ H' L = some (.lst ((allP A B C).map V.str)) ∧ AtD H' F (madeL A B C P ((allP A B C).take i)) ∧ AtD H' G (plL A B C P ((allP A B C).take (i + 1))) ∧ σ = [some (.ref a), some (.ref b), some (.ref c), some (.ref d), some (.ref F), some (.ref G), some (.str z), some (getV A z), some (getV B z), some (standV A B C [] z), none]) (fun N hj => ?_) ?_
    · walk_at "go"
      refine ⟨oB.scal oC, ?_⟩
      walk_at "go"
      have left : (getV B z = getV C z ∨ getV C z = getV A z) → N [some (.ref a), some (.ref b), some (.ref c), some (.ref d), some (.ref F), some (.ref G), some (.str z), some (getV A z), some (getV B z), some (getV B z), none] H5 := fun h => by
        obtain ⟨h1, h2⟩ := st_left h
        rw [h2, if_neg (by simp)] at nx2
        exact hj _ _ ⟨e4, hL4, hF4, (by unfold plL; rw [nx2]; exact hG4), by rw [h1]⟩
      by_cases h1 : getV B z = getV C z
      · refine iteP h1 ?_
        walk_at "go"
        exact left (.inl h1)
      · refine iteQ h1 ?_
        walk_at "go"
        refine ⟨oC.scal oA, ?_⟩
        walk_at "go"
        by_cases h2 : getV C z = getV A z
        · refine iteP h2 ?_
          walk_at "go"
          exact left (.inr h2)
        · refine iteQ h2 ?_
          walk_at "go"
          refine ⟨oB.scal oA, ?_⟩
          walk_at "go"
          by_cases h3 : getV B z = getV A z
          · refine iteNQ h3 ?_
            obtain ⟨h4, h5⟩ := st_right h1 h3
            rw [h5, if_neg (by simp)] at nx2
            walk_at "go"
            exact hj _ _ ⟨e4, hL4, hF4, (by unfold plL; rw [nx2]; exact hG4), by rw [h4]⟩
          · obtain ⟨h4, h5⟩ := st_clash h1 h2 h3
            rw [h5, if_pos rfl] at nx2
            rw [if_pos (by rw [decide_eq_false h3]; rfl)]
            walk_at "go"
            refine ⟨_, _, rfl, hd4.rd.get z, ?_⟩
            walk_at "go"
            refine ⟨_, _, rfl, hG4.put (by omega) z _, ?_⟩
            exact hj _ _ ⟨Same.mut e4 nG0, (upd_ne nLG).trans hL4, (upd_ne nFG).trans hF4, (by unfold plL; rw [nx2]; exact upd_same), by rw [h4]; rfl⟩
    rintro σ H6 ⟨e6, hL6, hF6, hG6, rfl⟩
    have hd6 : AtD H6 d P := e6 _ _ hd
    refine seq_join (fun σ H' => H' = H6 ∧ σ = [some (.ref a), some (.ref b), some (.ref c), some (.ref d), some (.ref F), some (.ref G), some (.str z), some (getV A z), some (getV B z), some (standV A B C P z), none]) (fun N hj => ?_) ?_
    · walk_at "go"
      refine ⟨_, _, rfl, hd6.rd.get z, ?_⟩
      walk_at "go"
      cases hv : valV P z with
      | some v =>
        walk_at "go"
        refine ⟨_, _, rfl, hd6.rd.getS hv, ?_⟩
        exact hj _ _ ⟨rfl, by rw [stand_yes hv]; rfl⟩
      | none =>
        walk_at "go"
        exact hj _ _ ⟨rfl, by rw [st_pick (P := P), hv]; rfl⟩
    rintro σ HX ⟨eX, rfl⟩
    rw [eX]
    clear eX
    walk_at "go"
    refine iteN (fun hs => ?_) fun hs => ?_
    · have hs' : standsB A B C P z = true := by unfold standsB; rw [decide_eq_false hs]; rfl
      rw [hs', if_pos rfl] at nx
      walk_at "go"
      refine ⟨_, _, rfl, hF6.put (by omega) z _, ?_⟩
      exact ⟨Same.mut e6 nF, (upd_ne nLF).trans hL6, by rw [nx]; exact upd_same, (upd_ne nFG.symm).trans hG6, _, _, _, _, rfl⟩
    · have hs' : standsB A B C P z = false := by unfold standsB; rw [decide_eq_true hs]; rfl
      rw [hs', if_neg (by simp)] at nx
      exact ⟨e6, hL6, by rw [nx]; exact hF6, hG6, _, _, _, _, rfl⟩
  rintro σ H4 ⟨e4, hL4, hF4, hG4, v6, v7, v8, v9, rfl⟩
  rw [List.length_map, List.take_length] at hF4 hG4
  have okl : ∀ p ∈ keys (madeT A B C P), isPathB p = true := fun p hp => made_path okA okB okC hp
  walk_at "go"
  refine ⟨F, _, hF4, trivial, fun od => ?_⟩
  have un : ∀ H', Same (upd H4 F (.frz od (.dK (kvs (madeT A B C P))))) H' → Same H4 (upd H' F (.dK (kvs (madeT A B C P)))) := fun H' e => Same.unlock hF4 e
  have fr : ∀ H', Same (upd H4 F (.frz od (.dK (kvs (madeT A B C P))))) H' → H' F = some (.frz od (.dK (kvs (madeT A B C P)))) := fun H' e => Same.frz e
  generalize upd H4 F (.frz od (.dK (kvs (madeT A B C P)))) = HL at un fr ⊢
  have fr0 := fr HL (Same.refl _)
  walk_at "go"
  refine ⟨F, od, rfl, .inl ⟨kvs (madeT A B C P), fr0, fun D nD => ?_⟩⟩
  have lmT : (madeT A B C P).length ≤ 3000 := by
    have h := made_len A B C P
    rw [List.length_map] at h
    omega
  have nDF : D ≠ F := fun e => by rw [e, fr0] at nD; cases nD
  refine lcF (j := 6) wK (by rw [List.length_map]) (fun H' e => fr _ e) nD (pS fun p => !freeB (madeT A B C P) p) id (by rw [kvs_len]; omega) (fun _ => rfl) (fun x H5 hx e5 Q2 k => ?_) (fun x H5 hx hp e5 Q2 k => by walk_at "go"; exact k _ (Same.refl _)) fun H5 e5 hD5 => ?_
  · rw [kvs_keys] at hx
    obtain ⟨z, hz, rfl⟩ := List.mem_map.mp hx
    walk_at "go"
    refine ⟨F, madeT A B C P, z, rfl, rd_frz (fr _ e5), (fun p hp => Nat.le_trans (path_len (okl p hp)) (by decide)), Nat.le_trans (path_len (okl z hz)) (by decide), fun H6 e6 => ?_⟩
    walk_at "go"
    exact k _ e6
  have hF5 := fr _ e5
  have eD : H5 D = some (.lst ((downL (madeT A B C P)).map V.str)) := by
    rw [hD5, List.map_id, kvs_keys, pS_filter]; rfl
  have e45 := un _ e5
  walk_at "go"
  refine ⟨hF5, ?_⟩
  have eD6 : upd H5 F (.dK (kvs (madeT A B C P))) D = some (.lst ((downL (madeT A B C P)).map V.str)) := (upd_ne nDF).trans eD
  have hF6 : AtD (upd H5 F (.dK (kvs (madeT A B C P)))) F (madeT A B C P) := upd_same
  generalize upd H5 F (.dK (kvs (madeT A B C P))) = H6 at e45 eD6 hF6 ⊢
  have hG6 : AtD H6 G (plL A B C P (allP A B C)) := e45 _ _ hG4
  have lpT : (plL A B C P (allP A B C)).length ≤ 3000 := Nat.le_trans gen_len (by omega)
  clear un fr fr0 eD hD5 hF5 e5 nD
  have e06 := e4.trans e45
  clear e45
  walk_at "go"
  refine ⟨G, _, hG6, trivial, fun od2 => ?_⟩
  have un : ∀ H', Same (upd H6 G (.frz od2 (.dK (kvs (plL A B C P (allP A B C)))))) H' → Same H6 (upd H' G (.dK (kvs (plL A B C P (allP A B C))))) := fun H' e => Same.unlock hG6 e
  have fr : ∀ H', Same (upd H6 G (.frz od2 (.dK (kvs (plL A B C P (allP A B C)))))) H' → H' G = some (.frz od2 (.dK (kvs (plL A B C P (allP A B C))))) := fun H' e => Same.frz e
  generalize upd H6 G (.frz od2 (.dK (kvs (plL A B C P (allP A B C))))) = HM at un fr ⊢
  have fr0 := fr HM (Same.refl _)
  walk_at "go"
  refine ⟨G, od2, rfl, .inl ⟨kvs (plL A B C P (allP A B C)), fr0, fun E nE => ?_⟩⟩
  have nEG : E ≠ G := fun e => by rw [e, fr0] at nE; cases nE
  refine lcF (j := 6) wK (by rw [List.length_map]) (fun H' e => fr _ e) nE (pS fun p => !(valV P p).isSome) id (by rw [kvs_len]; omega) (fun _ => rfl) (fun x H7 hx e7 Q2 k => ?_) (fun x H7 hx hp e7 Q2 k => by walk_at "go"; exact k _ (Same.refl _)) fun H7 e7 hE7 => ?_
  · rw [kvs_keys] at hx
    obtain ⟨z, hz, rfl⟩ := List.mem_map.mp hx
    have hv : valV (plL A B C P (allP A B C)) z = some (.bl (!(valV P z).isSome)) := by
      unfold plL at hz ⊢
      rw [gen_keys] at hz
      exact gen_val nd hz
    walk_at "go"
    refine ⟨_, _, rfl, (rd_frz (fr _ e7)).getS hv, ?_⟩
    walk_at "go"
    exact k _ (Same.refl _)
  have hG7 := fr _ e7
  have eE : H7 E = some (.lst ((leftT A B C P).map V.str)) := by
    rw [hE7, List.map_id, kvs_keys, pS_filter, pl_left]
  have e67 := un _ e7
  walk_at "go"
  refine ⟨hG7, ?_⟩
  have eE8 : upd H7 G (.dK (kvs (plL A B C P (allP A B C)))) E = some (.lst ((leftT A B C P).map V.str)) := (upd_ne nEG).trans eE
  generalize upd H7 G (.dK (kvs (plL A B C P (allP A B C)))) = H8 at e67 eE8 ⊢
  have eD8 := e67 _ _ eD6
  have hF8 : AtD H8 F (madeT A B C P) := e67 _ _ hF6
  have e08 := e06.trans e67
  clear un fr fr0 eE hE7 hG7 e7 nE e67 e06 hG6 eD6 hF6
  walk_at "go"
  intro S nS
  obtain ⟨H9, q9, e9, h9⟩ := alloc (o := HO.lst ((srt (downL (madeT A B C P))).map V.str)) nS
  rw [q9]
  have dl : (downL (madeT A B C P)).length ≤ 3000 := Nat.le_trans (List.length_filter_le _ _) (by rw [List.length_map]; exact lmT)
  have ll : (leftT A B C P).length ≤ 3000 := Nat.le_trans (List.length_filter_le _ _) (by omega)
  refine ⟨_, _, _, _, rfl, rfl, e9 _ _ eE8, h9, sl_of (by rw [List.length_map, List.length_map, srt_len]; omega), fun R nR => ?_⟩
  rw [← List.map_append]
  obtain ⟨H10, q10, e10, h10⟩ := alloc (o := HO.lst ((hindL A B C P).map V.str)) nR
  rw [show upd H9 R (HO.lst ((leftT A B C P ++ srt (downL (madeT A B C P))).map V.str)) = H10 from q10]
  walk_at "go"
  have e810 := e9.trans e10
  have e11 := Same.new (o := HO.tup [V.ref F, V.ref R]) np
  exact q p F R _ nF (e08.free (e9.free nR)) (e08.trans (e810.trans e11)) upd_same (e11 _ _ (e810 _ _ hF8)) (e11 _ _ h10)
/-- a book and what the law keeps beside it -/
structure Own (U : List Str) (C b dx t o pT pO : Addr) (ts os ms rs : List Addr) (Gs : List Tr) (Ps : List (List Nat)) (H : Hp) : Prop where
  bk : BkAt C b dx t o ts os Gs Ps H
  hT : H pT = some (.lst (ms.map V.ref))
  gs : Paired (fun m G => AtD H m G) ms Gs
  ol : OwnO pO rs Ps H
  old : Old Ps
  root : Root Ps
  pos : 0 < Gs.length
  tr : ∀ G ∈ Gs, Tree0 U G
  n1 : pT ≠ t ∧ pT ≠ o
  n2 : pO ≠ t ∧ pO ≠ o
  n3 : pT ≠ pO
theorem Own.same {U : List Str} {C b dx t o pT pO : Addr} {ts os ms rs : List Addr} {Gs : List Tr} {Ps : List (List Nat)} {H H' : Hp} (h : Own U C b dx t o pT pO ts os ms rs Gs Ps H) (e : Same H H') : Own U C b dx t o pT pO ts os ms rs Gs Ps H' :=
  ⟨h.bk.same e, e _ _ h.hT, Paired.imp (fun _ _ h => e _ _ h) h.gs, h.ol.same e, h.old, h.root, h.pos, h.tr, h.n1, h.n2, h.n3⟩
theorem Own.at_ {U : List Str} {C b dx t o pT pO : Addr} {ts os ms rs : List Addr} {Gs : List Tr} {Ps : List (List Nat)} {H : Hp} (h : Own U C b dx t o pT pO ts os ms rs Gs Ps H) {k : Nat} (hk : k < Gs.length) : ∃ m, ms[k]? = some m ∧ Gs[k]? = some (treeOf Gs k) ∧ AtD H m (treeOf Gs k) ∧ treeOf Gs k ∈ Gs := by
  have hl := h.gs.length
  obtain ⟨m, hm⟩ : ∃ m, ms[k]? = some m := ⟨ms[k]'(by omega), List.getElem?_eq_getElem (by omega)⟩
  obtain ⟨G, hG, ha⟩ := Paired.get h.gs hm
  have e : treeOf Gs k = G := by unfold treeOf; rw [hG]; rfl
  exact ⟨m, hm, by rw [e]; exact hG, by rw [e]; exact ha, tree_mem hk⟩
def F4 (t o pT pO : Addr) (H H' : Hp) : Prop := ∀ x w, x ≠ t → x ≠ o → x ≠ pT → x ≠ pO → H x = some w → H' x = some w
theorem F4.of {t o pT pO : Addr} {H H' : Hp} (e : Same H H') : F4 t o pT pO H H' := fun x w _ _ _ _ h => e x w h
theorem F4.of2 {t o pT pO : Addr} {H H' : Hp} (e : Same2 t o H H') : F4 t o pT pO H H' := fun x w n m _ _ h => e x w n m h
theorem F4.trans {t o pT pO : Addr} {H H1 H' : Hp} (e : F4 t o pT pO H H1) (f : F4 t o pT pO H1 H') : F4 t o pT pO H H' := fun x w a b c d h => f x w a b c d (e x w a b c d h)
def spReads (C : Addr) : Sp := fun vs H Q _ => ∃ (U : List Str) (b dx t o pT pO : Addr) (ts os ms rs : List Addr) (Gs : List Tr) (Ps : List (List Nat)) (k : Nat), vs = [.ref b, .ref pT, .ref pO, nV k] ∧ Own U C b dx t o pT pO ts os ms rs Gs Ps H ∧ k < Gs.length ∧ U.length ≤ 1000 ∧ ∀ H', Same H H' → Q (.bl true) H'
theorem okL_reads (T : Txt K mg C_Book C_Clashed C_InTheWay C_NoClash C_NoFile C_NoPath C_NoVersion C_RoadError C_SameVersion) : Cal P w K mg base (L2N.CX P w) 3 "_law_reads" ps_L_reads (spReads C_Book) := by
  have sc := scL_reads
  refine T.d_L_reads.okX sc (by walk_at "len") (fun f cdv A outer s H vs Q E hr h => ?_)
  have hu := hu_of hr
  obtain ⟨U, b, dx, t, o, pT, pO, ts, os, ms, rs, Gs, Ps, k, rfl, ow, hk, lU, q⟩ := h
  have bk := ow.bk
  have lens : ∀ G ∈ Gs, G.length ≤ 100000 := fun G hG => Nat.le_trans ((ow.tr G hG).ok lU).len (by decide)
  have lkt := lk_meth t o (Str.ofString "tree") (by decide +kernel) (by decide +kernel)
  have lkp := lk_meth t o (Str.ofString "parents") (by decide +kernel) (by decide +kernel)
  obtain ⟨m, hm, hG, ha, hGm⟩ := ow.at_ hk
  have okG := (ow.tr _ hGm).ok lU
  have lP := bk.len
  have lr := ow.ol.ps.length
  obtain ⟨r, hrk⟩ : ∃ r, rs[k]? = some r := ⟨rs[k]'(by omega), List.getElem?_eq_getElem (by omega)⟩
  obtain ⟨ps, hps, hrt⟩ := Paired.get ow.ol.ps hrk
  refine ⟨_, PSs.cv (by exact (pss_cons (ps_set (i := 4) sc.nd rfl (Or.inl rfl) (pe_mcal T.cl_Book (okBook_tree T) (hr.mono (by decide)) (L2N.passes_call (L2N.takes_of rfl rfl rfl rfl) (fun _ _ _ _ h => h)) (pv 0) (pa_cons (pv 3) pa_nil)))
      (pss_cons (ps_if (PW.pt (pw_or (pt_not (pt_val (pe_callB call_isi (by rfl) T.n_isinstance (by decide +kernel) (pa_cons (pv 4) (pa_cons (pe_bltn (v := .ty "dict") (by rfl) T.n_dict (by decide +kernel) rfl) pa_nil))))) (pw_or (pt_cmpR (op_neT hr.units) (pv 4) (pe_ix ix_list (pv 1) (pv 3) (fun _ _ => rfl)) (nomark _)) (pw_or1 (pt_cmpR (op_neT hr.units) (pe_mcal T.cl_Book (okBook_parents T) (hr.mono (by decide)) (L2N.passes_call (L2N.takes_of rfl rfl rfl rfl) (fun _ _ _ _ h => h)) (pv 0) (pa_cons (pv 3) pa_nil)) (pe_ix ix_list (pv 2) (pv 3) (fun _ _ => rfl)) (nomark _)))))) (pss_one (ps_ret pe_bl)) pss_nil)
      (pss_cons (ps_dput hu (pv 4) pe_str pe_str rfl)
      (pss_one (ps_ret pe_bl)))))) (by walk_at "cv"), ?_⟩
  walk_at "go"
  refine ⟨b, dx, _, rfl, bk.ins, lkt, ?_⟩
  walk_at "go"
  refine ⟨b, dx, t, o, ts, os, Gs, Ps, nV k, rfl, bk, .inl (nV_int _), lens, (fun k0 ek0 hk0 G0 d H1 hG0 nd e1 hd => ?_), fun h => no_okV h hk⟩
  have hx := nV_inj ek0
  rw [hx, hG] at hG0
  cases hG0
  have hd : AtD H1 d (treeOf Gs k) := hd
  have hdk : H1 d = some (.dK (kvs (treeOf Gs k))) := hd
  have hT1 := e1 _ _ ow.hT
  have hO1 := e1 _ _ ow.ol.hL
  have ha1 : AtD H1 m (treeOf Gs k) := e1 _ _ ha
  walk_at "go"
  refine ⟨_, _, _, _, rfl, rfl, SqL.of hT1, at_refs hm, ?_⟩
  walk_at "go"
  refine ⟨dict_eqG hd.rd ha1.rd okG.nd okG.flat, ?_⟩
  have bk1 := bk.same e1
  walk_at "go"
  refine ⟨b, dx, _, rfl, bk1.ins, lkp, ?_⟩
  walk_at "go"
  refine ⟨b, dx, t, o, ts, os, Gs, Ps, nV k, rfl, bk1, .inl (nV_int _), (fun k2 ek2 hk2 a2 ps2 hps2 ha2 => ?_), fun h => no_okV h hk⟩
  have hx2 := nV_inj ek2
  rw [hx2, hps] at hps2
  cases hps2
  walk_at "go"
  refine ⟨_, _, _, _, rfl, rfl, SqL.of hO1, at_refs hrk, ?_⟩
  walk_at "go"
  refine ⟨eqR_tup ha2 (e1 _ _ hrt) (fun v hv => by obtain ⟨z, _, rfl⟩ := List.mem_map.mp hv; rfl), ?_⟩
  have lG := okG.len
  walk_at "go"
  refine ⟨_, _, rfl, hd.put (by omega) _ _, ?_⟩
  walk_at "go"
  exact q _ (Same.mut e1 nd)
theorem BkAt.frN {C b dx t o : Addr} {ts os : List Addr} {Gs : List Tr} {Ps : List (List Nat)} {H H' : Hp} (h : BkAt C b dx t o ts os Gs Ps H) (g : ∀ x w, (∀ ys, w ≠ HO.lst ys) → H x = some w → H' x = some w) (ht : H' t = H t) (ho : H' o = H o) : BkAt C b dx t o ts os Gs Ps H' :=
  ⟨g _ _ (fun ys z => by cases z) h.ins, ht.trans h.tr, ho.trans h.ol, Paired.imp (fun _ _ r => g _ _ (fun ys z => by cases z) r) h.gs, Paired.imp (fun _ _ r => g _ _ (fun ys z => by cases z) r) h.ps, h.len, h.tno⟩
theorem Own.push {U U2 : List Str} {C b dx t o pT pO x y m r : Addr} {ts os ms rs : List Addr} {Gs : List Tr} {Ps : List (List Nat)} {H H3 : Hp} {G : Tr} {ps : List Nat} (ow : Own U C b dx t o pT pO ts os ms rs Gs Ps H) (f : F4 t o pT pO H H3)
    (bk3 : BkAt C b dx t o (ts ++ [x]) (os ++ [y]) (Gs ++ [G]) (Ps ++ [ps]) H3) (hT3 : H3 pT = some (.lst ((ms ++ [m]).map V.ref))) (hm : AtD H3 m G) (hO3 : H3 pO = some (.lst ((rs ++ [r]).map V.ref))) (hr : H3 r = some (.tup (ps.map nV)))
    (hps : ∀ z ∈ ps, z < Ps.length) (hne : ps ≠ []) (hU : ∀ p ∈ U, p ∈ U2) (hG : Tree0 U2 G) : Own U2 C b dx t o pT pO (ts ++ [x]) (os ++ [y]) (ms ++ [m]) (rs ++ [r]) (Gs ++ [G]) (Ps ++ [ps]) H3 := by
  have g : ∀ {x : Addr} {w : HO}, (∀ ys, w ≠ .lst ys) → H x = some w → H3 x = some w := fun {x w} hn h => f x w (fun q => by rw [q, ow.bk.tr] at h; exact hn _ (Option.some.inj h).symm) (fun q => by rw [q, ow.bk.ol] at h; exact hn _ (Option.some.inj h).symm) (fun q => by rw [q, ow.hT] at h; exact hn _ (Option.some.inj h).symm) (fun q => by rw [q, ow.ol.hL] at h; exact hn _ (Option.some.inj h).symm) h
  refine ⟨bk3, hT3, M.Paired.snoc (R := fun m G => AtD H3 m G) hm (Paired.imp (fun m G h => g (w := .dK (kvs G)) (fun ys z => by cases z) h) ow.gs), ⟨hO3, M.Paired.snoc (R := fun r (ps : List Nat) => H3 r = some (.tup (ps.map nV))) hr (Paired.imp (fun r ps h => g (fun ys z => by cases z) h) ow.ol.ps)⟩, ow.old.app hps, ow.root.app hne, by rw [List.length_append]; have := ow.pos; omega, fun X hX => ?_, ow.n1, ow.n2, ow.n3⟩
  rcases List.mem_append.mp hX with h | h
  · exact (ow.tr X h).mono hU
  · rw [List.mem_singleton.mp h]; exact hG
theorem eqR_refs {K : PySem.W.Frag} {H : Hp} {n : Nat} {a b : Addr} {rs : List Addr} (ha : H a = some (.lst (rs.map V.ref))) (hb : H b = some (.lst (rs.map V.ref))) : M.EqR K H (EqN K H (n + 1)) (.ref a) (.ref b) := by
  refine .inl ⟨a, b, _, _, rfl, rfl, SqL.of ha, SqL.of hb, ?_⟩
  clear ha hb
  induction rs with
  | nil => exact .nil
  | cons r t ih => exact .cons (.inr (.inl ⟨r, rfl, rfl⟩)) ih
/-- what a turn leaves -/
def Left (U : List Str) (C b dx t o pT pO : Addr) (N k : Nat) (H H' : Hp) : Prop := ∃ (ts os ms rs : List Addr) (Gs : List Tr) (Ps : List (List Nat)) (U2 : List Str), F4 t o pT pO H H' ∧ Own U2 C b dx t o pT pO ts os ms rs Gs Ps H' ∧ Gs.length ≤ N + 1 ∧ N ≤ Gs.length ∧ U2.length ≤ U.length + k ∧ badP ∉ U2
theorem Left.same {U : List Str} {C b dx t o pT pO : Addr} {ts os ms rs : List Addr} {Gs : List Tr} {Ps : List (List Nat)} {H H' : Hp} (ow : Own U C b dx t o pT pO ts os ms rs Gs Ps H) (hb : badP ∉ U) (e : F4 t o pT pO H H') (ow2 : Own U C b dx t o pT pO ts os ms rs Gs Ps H') {k : Nat} : Left U C b dx t o pT pO Gs.length k H H' := ⟨ts, os, ms, rs, Gs, Ps, U, e, ow2, Nat.le_succ _, Nat.le_refl _, Nat.le_add_right _ _, hb⟩
def spGrows (C : Addr) : Sp := fun vs H Q _ => ∃ (U : List Str) (b dx t o pT pO : Addr) (ts os ms rs : List Addr) (Gs : List Tr) (Ps : List (List Nat)) (c s : Int), vs = [.ref b, .ref pT, .ref pO, .int c, .int s] ∧ Own U C b dx t o pT pO ts os ms rs Gs Ps H ∧ Bits 1048576 c ∧ Bits 1048576 s ∧ U.length ≤ 900 ∧ Gs.length ≤ 900 ∧ badP ∉ U ∧ ∀ H', Left U C b dx t o pT pO Gs.length 9 H H' → Q (.bl true) H'
theorem okL_grows (T : Txt K mg C_Book C_Clashed C_InTheWay C_NoClash C_NoFile C_NoPath C_NoVersion C_RoadError C_SameVersion) : Cal P w K mg base CX0 7 "_law_grows" ps_L_grows (spGrows C_Book) := by
  have sc := scL_grows
  refine T.d_L_grows.ok sc (by walk_at "len") (fun f cdv A outer s H vs Q E hr h => ?_)
  have hu := hu_of hr
  obtain ⟨U, b, dx, t, o, pT, pO, ts, os, ms, rs, Gs, Ps, c, s, rfl, ow, hc, hs, lU, lG, hbad, q⟩ := h
  have bk := ow.bk
  have lP := bk.len
  have lm := ow.gs.length
  have hT := ow.hT
  refine ⟨_, PSs.cv (by exact (pss_cons (ps_set (i := 5) sc.nd rfl (Or.inl rfl) (pe_op op_mod (pe_op op_mod (pe_op op_mulV (pv 3) pe_int) pe_int) (pe_callB call_len_seq (by rfl) T.n_len (by decide +kernel) (pa_cons (pv 1) pa_nil))))
      (pss_cons (ps_set (i := 6) sc.nd rfl (Or.inl rfl) (pe_calC (okL_deeds_by T) (hr.mono (by decide)) (by rfl) pass0 (pa_cons (pv 3) (pa_cons (pe_ix ix_list (pv 1) (pv 5) (fun _ _ => rfl)) (pa_cons (pv 4) pa_nil)))))
      (pss_cons (ps_set (i := 7) sc.nd rfl (Or.inl rfl) (pe_calC (okL_word_of T) (hr.mono (by decide)) (by rfl) pass0 (pa_cons (pe_ix ix_list (pv 1) (pv 5) (fun _ _ => rfl)) (pa_cons (pv 6) pa_nil))))
      (pss_cons (ps_set (i := 8) sc.nd rfl (Or.inl rfl) (pe_callTy call_list_of (by rfl) T.n_list (by decide +kernel) (pa_cons (pv 6) pa_nil)))
      (pss_cons (ps_set (i := 9) sc.nd rfl (Or.inl rfl) (pe_calC (okL_grew T) (hr.mono (by decide)) (by rfl) pass0 (pa_cons (pv 0) (pa_cons (pv 5) (pa_cons (pv 6) pa_nil)))))
      (pss_cons (ps_if (pt_cmpR (op_neT hr.units) (pv 6) (pv 8) (nomark _)) (pss_one (ps_ret pe_bl)) pss_nil)
      (pss_cons (ps_expr (pe_bm0 PySem.F.plainAttrs_list PySem.F.slot_list_clear PySem.F.type_list_clear mt_clear (pv 6)))
      (pss_cons (ps_if (pt_val (pe_callB call_isi (by rfl) T.n_isinstance (by decide +kernel) (pa_cons (pv 7) (pa_cons (pe_bltn (v := .ty "str") (by rfl) T.n_str (by decide +kernel) rfl) pa_nil)))) (pss_one (ps_ret (pe_cmpR (op_eqU hr.units) (pv 9) (pv 7) (nomark _)))) pss_nil)
      (pss_cons (ps_expr (pe_bm PySem.F.plainAttrs_list PySem.F.slot_list_append PySem.F.type_list_append mt_append (pv 1) (pa_cons (pv 7) pa_nil)))
      (pss_cons (ps_expr (pe_bm PySem.F.plainAttrs_list PySem.F.slot_list_append PySem.F.type_list_append mt_append (pv 2) (pa_cons (pe_tup (pa_cons (pv 5) pa_nil)) pa_nil)))
      (pss_one (ps_ret (pe_cmpR op_eq (pv 9) (pe_op op_sub (pe_callB call_len_seq (by rfl) T.n_len (by decide +kernel) (pa_cons (pv 1) pa_nil)) pe_int) (nomark _))))))))))))))) (by walk_at "cv"), ?_⟩
  walk_at "go"
  obtain ⟨n, hn, en⟩ := mod_nat ow.pos (c * 69621 % 104729)
  rw [List.length_map, lm]
  refine ⟨show (0 : Int) < _ by omega, ?_⟩
  dsimp only
  rw [en]
  obtain ⟨a, hma, hGa, ha, hGm⟩ := ow.at_ hn
  have oks : ∀ G ∈ Gs, TreeOk 1000 G := fun G hG => (ow.tr G hG).ok (by omega)
  have ok := oks _ hGm
  walk_at "go"
  refine ⟨_, _, _, _, rfl, rfl, SqL.of hT, at_refs hma, ?_⟩
  walk_at "go"
  refine ⟨c, s, a, treeOf Gs n, rfl, ha, ok, hc, hs, fun r rs1 ds H1 nr e1 hR hts lds hdx => ?_⟩
  have hT1 := e1 _ _ hT
  walk_at "go"
  refine ⟨_, _, _, _, rfl, rfl, SqL.of hT1, at_refs hma, ?_⟩
  walk_at "go"
  refine ⟨a, r, treeOf Gs n, 1000, rs1, ds, rfl, e1 _ _ ha, ⟨SqL.of hR, hts⟩, ok, by omega, (fun e he => (hdx e he).wo), fun v H2 e2 hv => ?_⟩
  have hR2 := e2 _ _ hR
  have hts2 := hts.same e2
  walk_at "go"
  intro L nL
  obtain ⟨H3, q3, e3, hL⟩ := alloc (o := HO.lst (rs1.map V.ref)) nL
  rw [q3]
  have hR3 := e3 _ _ hR2
  have e03 := e1.trans (e2.trans e3)
  have nLr : r ≠ L := ne_of_none hR2 nL
  have nL0 : H L = none := e1.free (e2.free nL)
  walk_at "go"
  refine ⟨b, dx, t, o, r, ts, os, rs1, Gs, Ps, n, treeOf Gs n, ds, rfl, bk.same e03, hGa, ⟨SqL.of hR3, hts2.same e3⟩, oks, by omega, by omega, (fun e he => (hdx e he).wo.1), ?_⟩
  have rt : r ≠ t := (ne_of_none bk.tr nr).symm
  have ro : r ≠ o := (ne_of_none bk.ol nr).symm
  have rT : r ≠ pT := (ne_of_none hT nr).symm
  have rO : r ≠ pO := (ne_of_none ow.ol.hL nr).symm
  have Lt : L ≠ t := (ne_of_none bk.tr nL0).symm
  have Lo : L ≠ o := (ne_of_none bk.ol nL0).symm
  cases hf : foldR (treeOf Gs n) ds with
  | tree G' =>
    rw [hf] at hv
    obtain ⟨p9, rfl, n9, hm9⟩ := hv
    intro x y H4 s4 bk4
    have hR4 := s4 _ _ rt ro hR3
    have hL4 := s4 _ _ Lt Lo hL
    walk_at "go"
    refine ⟨eqR_refs hR4 hL4, ?_⟩
    walk_at "go"
    refine ⟨_, _, rfl, rfl, hR4, ?_⟩
    obtain ⟨H5, q5⟩ : ∃ H5, upd H4 r (.lst []) = H5 := ⟨_, rfl⟩
    rw [q5]
    have f5 : ∀ x w, x ≠ r → H4 x = some w → H5 x = some w := fun x w h e => by rw [← q5, upd_ne h]; exact e
    have rp : p9 ≠ r := fun e => by
      have h : H2 p9 = some (.dK (kvs G')) := hm9
      rw [e, hR2] at h; cases h
    have hp4 : H4 p9 = some (.dK (kvs G')) := by
      have h3 : H3 p9 = some (.dK (kvs G')) := e3 _ _ hm9
      have n0 : H p9 = none := e1.free n9
      exact s4 _ _ (fun e => by rw [e, bk.tr] at n0; cases n0) (fun e => by rw [e, bk.ol] at n0; cases n0) h3
    have hp5 := f5 _ _ rp hp4
    have hT5 : H5 pT = some (.lst (ms.map V.ref)) := f5 _ _ rT.symm (s4 _ _ ow.n1.1 ow.n1.2 (e03 _ _ hT))
    have hO5 : H5 pO = some (.lst (rs.map V.ref)) := f5 _ _ rO.symm (s4 _ _ ow.n2.1 ow.n2.2 (e03 _ _ ow.ol.hL))
    walk_at "go"
    refine ⟨_, _, _, _, false, rfl, .ty _, .base (.dK hp5), kit_ty (by decide +kernel), ?_⟩
    walk_at "go"
    refine ⟨pT, _, _, rfl, rfl, hT5, sl_lt (by rw [List.length_map]; omega), ?_⟩
    obtain ⟨H6, q6⟩ : ∃ H6, upd H5 pT (.lst (ms.map V.ref ++ [V.ref p9])) = H6 := ⟨_, rfl⟩
    rw [q6]
    have f6 : ∀ x w, x ≠ pT → H5 x = some w → H6 x = some w := fun x w h e => by rw [← q6, upd_ne h]; exact e
    have hT6 : H6 pT = some (.lst ((ms ++ [p9]).map V.ref)) := by rw [← q6, upd_same, List.map_append]; rfl
    have hO6 := f6 _ _ ow.n3.symm hO5
    have rpT : p9 ≠ pT := fun e => by rw [e, hT5] at hp5; cases hp5
    have hp6 := f6 _ _ rpT hp5
    walk_at "go"
    obtain ⟨H7, q7, e7, h7⟩ := alloc (o := HO.tup ([n].map nV)) np
    rw [show upd H6 p (HO.tup [V.int ((n : Nat) : Int)]) = H7 from q7]
    have hO7 := e7 _ _ hO6
    have hT7 := e7 _ _ hT6
    refine ⟨pO, _, _, rfl, rfl, hO7, sl_lt (by rw [List.length_map]; have := ow.ol.ps.length; omega), ?_⟩
    obtain ⟨H8, q8⟩ : ∃ H8, upd H7 pO (.lst (rs.map V.ref ++ [V.ref p])) = H8 := ⟨_, rfl⟩
    rw [q8]
    have f8 : ∀ x w, x ≠ pO → H7 x = some w → H8 x = some w := fun x w h e => by rw [← q8, upd_ne h]; exact e
    have hO8 : H8 pO = some (.lst ((rs ++ [p]).map V.ref)) := by rw [← q8, upd_same, List.map_append]; rfl
    have hT8 := f8 _ _ ow.n3 hT7
    have hp8 := f8 _ _ (show p ≠ pO from fun e => by rw [e, hO7] at h7; cases h7) h7
    have hm8 := f8 _ _ (show p9 ≠ pO from fun e => by have h := e7 _ _ hp6; rw [e, hO7] at h; cases h) (e7 _ _ hp6)
    have f48 : ∀ x w, x ≠ r → x ≠ pT → x ≠ pO → H4 x = some w → H8 x = some w := fun x w a b c h => f8 _ _ c (e7 _ _ (f6 _ _ b (f5 _ _ a h)))
    have F : F4 t o pT pO H H8 := fun x w a b c d h => f48 x w (ne_of_none h nr) c d (s4 _ _ a b (e03 _ _ h))
    have hT4 : H4 pT = some (.lst (ms.map V.ref)) := s4 _ _ ow.n1.1 ow.n1.2 (e03 _ _ hT)
    have hO4 : H4 pO = some (.lst (rs.map V.ref)) := s4 _ _ ow.n2.1 ow.n2.2 (e03 _ _ ow.ol.hL)
    have bk8 := BkAt.frN bk4 (H' := H8) (fun x w hn h => f48 x w (fun e => by rw [e, hR4] at h; exact hn _ (Option.some.inj h).symm) (fun e => by rw [e, hT4] at h; exact hn _ (Option.some.inj h).symm) (fun e => by rw [e, hO4] at h; exact hn _ (Option.some.inj h).symm) h) ((f48 _ _ rt.symm ow.n1.1.symm ow.n2.1.symm bk4.tr).trans bk4.tr.symm) ((f48 _ _ ro.symm ow.n1.2.symm ow.n2.2.symm bk4.ol).trans bk4.ol.symm)
    have ow8 : Own (U ++ ds.map Deed.path) C_Book b dx t o pT pO (ts ++ [x]) (os ++ [y]) (ms ++ [p9]) (rs ++ [p]) (Gs ++ [G']) (Ps ++ [[n]]) H8 := ow.push F bk8 hT8 hm8 hO8 hp8 (fun z hz => by rw [List.mem_singleton.mp hz]; omega) (by simp) (fun _ h => List.mem_append_left _ h) (Tree0.fold (ow.tr _ hGm) hf)
    walk_at "go"
    have ev : decide (nV Gs.length = V.int (((ms ++ [p9]).map V.ref).length - 1 : Int)) = true := by
      rw [decide_eq_true_eq, List.length_map, List.length_append, lm]
      show V.int _ = V.int _
      congr 1
      show ((Gs.length : Nat) : Int) = ((Gs.length + 1 : Nat) : Int) - 1
      omega
    show Q (V.bl (decide (nV Gs.length = V.int (((ms ++ [p9]).map V.ref).length - 1 : Int)))) H8
    rw [ev]
    refine q _ ⟨_, _, _, _, _, _, _, F, ow8, by rw [List.length_append]; exact Nat.le_refl _, by rw [List.length_append]; omega, by rw [List.length_append, List.length_map]; omega, fun h => ?_⟩
    rcases List.mem_append.mp h with h | h
    · exact hbad h
    · obtain ⟨e, he, h⟩ := List.mem_map.mp h
      rcases hdx e he with h2 | h2
      · rw [h2] at h; exact absurd h (by decide +kernel)
      · exact h2.nb h
  | noPath =>
    rw [hf] at hv
    have hv : v = .str (toldWord .noPath) := hv
    subst hv
    intro H4 e4
    have hR4 := e4 _ _ hR3
    have hL4 := e4 _ _ hL
    obtain ⟨w, hw⟩ : ∃ w, w = toldWord .noPath := ⟨_, rfl⟩
    rw [← hw]
    walk_at "go"
    refine ⟨eqR_refs hR4 hL4, ?_⟩
    walk_at "go"
    refine ⟨_, _, rfl, rfl, hR4, ?_⟩
    obtain ⟨H5, q5⟩ : ∃ H5, upd H4 r (.lst []) = H5 := ⟨_, rfl⟩
    rw [q5]
    have e05 : Same H H5 := by rw [← q5]; exact Same.mut (e03.trans e4) nr
    walk_at "go"
    refine ⟨.inl ⟨w, rfl, rfl⟩, ?_⟩
    exact q _ (Left.same ow hbad (F4.of e05) (ow.same e05))
  | noFile =>
    rw [hf] at hv
    have hv : v = .str (toldWord .noFile) := hv
    subst hv
    intro H4 e4
    have hR4 := e4 _ _ hR3
    have hL4 := e4 _ _ hL
    obtain ⟨w, hw⟩ : ∃ w, w = toldWord .noFile := ⟨_, rfl⟩
    rw [← hw]
    walk_at "go"
    refine ⟨eqR_refs hR4 hL4, ?_⟩
    walk_at "go"
    refine ⟨_, _, rfl, rfl, hR4, ?_⟩
    obtain ⟨H5, q5⟩ : ∃ H5, upd H4 r (.lst []) = H5 := ⟨_, rfl⟩
    rw [q5]
    have e05 : Same H H5 := by rw [← q5]; exact Same.mut (e03.trans e4) nr
    walk_at "go"
    refine ⟨.inl ⟨w, rfl, rfl⟩, ?_⟩
    exact q _ (Left.same ow hbad (F4.of e05) (ow.same e05))
  | inTheWay =>
    rw [hf] at hv
    have hv : v = .str (toldWord .inTheWay) := hv
    subst hv
    intro H4 e4
    have hR4 := e4 _ _ hR3
    have hL4 := e4 _ _ hL
    obtain ⟨w, hw⟩ : ∃ w, w = toldWord .inTheWay := ⟨_, rfl⟩
    rw [← hw]
    walk_at "go"
    refine ⟨eqR_refs hR4 hL4, ?_⟩
    walk_at "go"
    refine ⟨_, _, rfl, rfl, hR4, ?_⟩
    obtain ⟨H5, q5⟩ : ∃ H5, upd H4 r (.lst []) = H5 := ⟨_, rfl⟩
    rw [q5]
    have e05 : Same H H5 := by rw [← q5]; exact Same.mut (e03.trans e4) nr
    walk_at "go"
    refine ⟨.inl ⟨w, rfl, rfl⟩, ?_⟩
    exact q _ (Left.same ow hbad (F4.of e05) (ow.same e05))
theorem bits21 {n : Nat} {c i : Int} (h : Bits n c) (hn : 20 ≤ n) (h0 : 0 ≤ i) (h1 : i ≤ 10000) : Bits n (c / 21 + i) := by
  unfold Bits at h ⊢
  have e8 : 2 ^ 20 ≤ 2 ^ n := Nat.pow_le_pow_right (by decide) hn
  generalize 2 ^ n = X at h e8 ⊢
  omega
theorem paired_mem {α β : Type} {R S : α → β → Prop} : ∀ {as : List α} {bs : List β}, (∀ a ∈ as, ∀ b, R a b → S a b) → Paired R as bs → Paired S as bs
  | _, _, _, .nil => .nil
  | _, _, h, .cons a t => .cons (h _ List.mem_cons_self _ a) (paired_mem (fun x hx => h x (List.mem_cons_of_mem _ hx)) t)
theorem iteNP {p A B : Prop} [Decidable p] (h : ¬ p) (a : A) : if (!decide p) = true then A else B := by rw [if_pos (by rw [decide_eq_false h]; rfl)]; exact a
def JDue (A B C P M : Tr) (due : Str) : Prop := (due = "made" ∧ joinR A B C P = .tree M) ∨ (due = "Clashed" ∧ joinR A B C P = .clashed) ∨ (due = "NoClash" ∧ joinR A B C P = .noClash)
structure J11 (H0 : Hp) (U : List Str) (C b dx t o pT pO : Addr) (ts os ms rs : List Addr) (Gs : List Tr) (Ps : List (List Nat)) (n m e : Nat) (dP : Addr) (P : Tr) (H : Hp) : Prop where
  ow : Own U C b dx t o pT pO ts os ms rs Gs Ps H0
  e0 : Same H0 H
  nP : H0 dP = none
  hn : n < Gs.length
  hm : m < Gs.length
  he : e < Gs.length
  nk : NearK Ps n m e
  hP : AtD H dP P
  nd : (keys P).Nodup
  hv : ∀ p v, valV P p = some v → OptS v
  lP : P.length ≤ 20000
  lU : U.length ≤ 900
  lG : Gs.length ≤ 900
  hb : badP ∉ U
theorem optS_flat {P : Tr} (nd : (keys P).Nodup) (hv : ∀ p v, valV P p = some v → OptS v) : ∀ x ∈ P, flatB x.2 = true := fun x hx => by
  rcases hv x.1 x.2 (val_of_mem nd hx) with h | ⟨z, h⟩ <;> rw [h] <;> rfl
def blk9 (H0 : Hp) (C : Addr) (K : PySem.W.Frag) : TS := fun D σ H => ∃ (U : List Str) (b dx t o pT pO : Addr) (ts os ms rs : List Addr) (Gs : List Tr) (Ps : List (List Nat)) (c s : Int) (n m e : Nat) (dP mk : Addr) (P M : Tr) (due : Str) (v7 v10 v11 : Option V), J11 H0 U C b dx t o pT pO ts os ms rs Gs Ps n m e dP P H ∧ AtD H mk M ∧ H0 mk = none ∧ mk ≠ dP ∧ JDue (treeOf Gs e) (treeOf Gs n) (treeOf Gs m) P M due ∧
  σ = [some (.ref b), some (.ref pT), some (.ref pO), some (.int c), some (.int s), some (nV n), some (nV m), v7, some (.ref dP), some (.ref mk), v10, v11, some (.str due), none, none] ∧ ∀ H', Left U C b dx t o pT pO Gs.length 9 H0 H' → D.rt (.bl true) H'
theorem okL_joins_J9 (T : Txt K mg C_Book C_Clashed C_InTheWay C_NoClash C_NoFile C_NoPath C_NoVersion C_RoadError C_SameVersion) {f : Addr} {cdv : Value} {A : Around} {outer : List Env} {s : Shared} {H₀ : Hp} {E : XK} (hr : Room 6 (A.deeper (envOfC "_law_joins" (defScope s_L_joins) s.heap.objs.size f cdv))) : PSs ((cxOf CX0 P w K mg base sl_L_joins "_law_joins" (defScope s_L_joins) f cdv A outer s H₀ E).nox) ((defBody s_L_joins).drop 9) (blk9 H₀ C_Book K) := by
  have sc := scL_joins
  have hu := hu_of hr
  refine PSs.weak (PSs.cv (by exact (pss_cons (ps_if (pt_cmpR op_eq (pv 5) (pv 6) (nomark _)) (pss_one (ps_set (i := 12) sc.nd rfl (Or.inl rfl) pe_str)) pss_nil)
      (pss_cons (ps_set (i := 13) sc.nd rfl (Or.inl rfl) (pe_callTy call_dictD (by rfl) T.n_dict (by decide +kernel) (pa_cons (pv 8) pa_nil)))
      (pss_cons (ps_set (i := 14) sc.nd rfl (Or.inl rfl) (pe_calC (okL_joined T) (hr.mono (by decide)) (by rfl) pass0 (pa_cons (pv 0) (pa_cons (pv 5) (pa_cons (pv 6) (pa_cons (pv 8) pa_nil))))))
      (pss_cons (ps_if (pt_cmpR (op_neT hr.units) (pv 8) (pv 13) (nomark _)) (pss_one (ps_ret pe_bl)) pss_nil)
      (pss_cons (ps_expr (pe_clearF (pv 8)))
      (pss_cons (ps_if (pt_cmpR op_ne (pv 12) pe_str (nomark _)) (pss_one (ps_ret (pe_cmpR (op_eqU hr.units) (pv 14) (pv 12) (nomark _)))) pss_nil)
      (pss_cons (ps_expr (pe_bm PySem.F.plainAttrs_list PySem.F.slot_list_append PySem.F.type_list_append mt_append (pv 1) (pa_cons (pv 9) pa_nil)))
      (pss_cons (ps_expr (pe_bm PySem.F.plainAttrs_list PySem.F.slot_list_append PySem.F.type_list_append mt_append (pv 2) (pa_cons (pe_tup (pa_cons (pe_callB (call_min2 rfl) (by rfl) T.n_min (by decide +kernel) (pa_cons (pv 5) (pa_cons (pv 6) pa_nil))) (pa_cons (pe_callB (call_max2 rfl) (by rfl) T.n_max (by decide +kernel) (pa_cons (pv 5) (pa_cons (pv 6) pa_nil))) pa_nil))) pa_nil)))
      (pss_one (ps_ret (pe_cmpR op_eq (pv 14) (pe_op op_sub (pe_callB call_len_seq (by rfl) T.n_len (by decide +kernel) (pa_cons (pv 1) pa_nil)) pe_int) (nomark _))))))))))))) (by walk_at "cv")) (fun D σ H h => ?_)
  obtain ⟨U, b, dx, t, o, pT, pO, ts, os, ms, rs, Gs, Ps, c, s, n, m, e, dP, mk, P, M, due, v7, v10, v11, j, hM, nM, mP, jd, rfl, q⟩ := h
  have ow := j.ow
  have e0 := j.e0
  have bk := ow.bk
  have lm := ow.gs.length
  have flat := optS_flat j.nd j.hv
  have lP := bk.len
  walk_at "go"
  refine if_join (fun σ' H' => H' = H ∧ ∃ d2 : Str, (n = m → d2 = "SameVersion") ∧ (n ≠ m → d2 = due) ∧ σ' = [some (.ref b), some (.ref pT), some (.ref pO), some (.int c), some (.int s), some (nV n), some (nV m), v7, some (.ref dP), some (.ref mk), v10, v11, some (.str d2), none, none]) ?_ (fun h N hj => ?_) fun h => ?_
  rotate_left
  · walk_at "go"
    exact hj _ _ ⟨rfl, "SameVersion", fun _ => rfl, (fun hne => absurd (nV_inj h).symm hne), rfl⟩
  · exact ⟨rfl, due, fun e => absurd (congrArg nV e) h, fun _ => rfl, rfl⟩
  rintro σ' HX ⟨eX, d2, hd1, hd2, rfl⟩
  rw [eX]
  clear eX
  have hP := j.hP
  walk_at "go"
  intro L nL
  obtain ⟨H1, q1, e1, h1⟩ := alloc (o := HO.dK (kvs P)) nL
  rw [q1]
  have hL1 : AtD H1 L P := h1
  have nL0 : H₀ L = none := e0.free nL
  have LP : L ≠ dP := (ne_of_none (show H dP = some (.dK (kvs P)) from hP) nL).symm
  have hP1 : AtD H1 dP P := e1 _ _ hP
  have e01 := e0.trans e1
  have bk1 := bk.same e01
  have no : ∀ {x : Addr} {w : HO}, H₀ x = some w → x ≠ dP := fun h => ne_of_none h j.nP
  have ntd : ∀ x ∈ ts, x ≠ dP := fun x hx => by
    obtain ⟨i, hi⟩ := List.mem_iff_getElem?.mp hx
    obtain ⟨G, _, hG⟩ := Paired.get bk.gs hi
    exact no hG
  have oks : ∀ G ∈ Gs, TreeOk 1000 G := fun G hG => (ow.tr G hG).ok (by have := j.lU; omega)
  have lG := j.lG
  have hfz : ∀ o' u', H₀ dP ≠ some (.frz o' u') := fun o' u' h => by rw [j.nP] at h; cases h
  have tOf : ∀ {k : Nat} {G : Tr}, Gs[k]? = some G → treeOf Gs k = G := fun h => by unfold treeOf; rw [h]; rfl
  have Pt : dP ≠ t := (no bk.tr).symm
  have Po : dP ≠ o := (no bk.ol).symm
  have Lt : L ≠ t := (ne_of_none bk.tr nL0).symm
  have Lo : L ≠ o := (ne_of_none bk.ol nL0).symm
  have mt : mk ≠ t := (ne_of_none bk.tr nM).symm
  have mo : mk ≠ o := (ne_of_none bk.ol nM).symm
  have hM1 : AtD H1 mk M := e1 _ _ hM
  have bad : ∀ (w : Str) (H2 : Hp), w ≠ "made" → d2 = w → (∀ x u, x ≠ dP → H1 x = some u → H2 x = some u) → Same H₀ (upd H2 dP (.dK [])) := fun w H2 _ _ f => fun x u h => (upd_ne (no h)).trans (f x u (no h) (e01 _ _ h))
  walk_at "go"
  refine ⟨b, dx, t, o, dP, ts, os, Gs, Ps, n, m, P, rfl, bk1, j.hn, j.hm, ow.old, ow.root, by omega, oks, hP1.rd, ntd, j.hv, by have := j.lP; omega, (fun e1' A B DT nk1 hA hB hD hne => ?_), fun heq H2 e2 => ?_⟩
  · have := nk1.uniq j.nk
    subst this
    have hd2 := hd2 hne
    rw [tOf hA, tOf hB, tOf hD] at jd
    rcases jd with ⟨hd, hj⟩ | ⟨hd, hj⟩ | ⟨hd, hj⟩
    · rw [hj]
      intro x y H2 nx s2 bk2
      have xP : x ≠ dP := (ne_of_none (show H1 dP = some (.dK (kvs P)) from hP1) nx).symm
      have hP2 : AtD H2 dP P := s2 _ _ Pt Po hP1
      have hL2 : AtD H2 L P := s2 _ _ Lt Lo hL1
      walk_at "go"
      refine ⟨dict_eqG hP2.rd hL2.rd j.nd flat, ?_⟩
      walk_at "go"
      refine ⟨dP, _, rfl, rfl, hP2.rd, hfz, ?_⟩
      obtain ⟨H3, q3⟩ : ∃ H3, upd H2 dP (.dK []) = H3 := ⟨_, rfl⟩
      rw [q3]
      have f3 : ∀ x w, x ≠ dP → H2 x = some w → H3 x = some w := fun x w h e => by rw [← q3, upd_ne h]; exact e
      have hT0 := ow.hT
      have hO0 := ow.ol.hL
      have hT3 : H3 pT = some (.lst (ms.map V.ref)) := f3 _ _ (no hT0) (s2 _ _ ow.n1.1 ow.n1.2 (e01 _ _ hT0))
      have hO3 : H3 pO = some (.lst (rs.map V.ref)) := f3 _ _ (no hO0) (s2 _ _ ow.n2.1 ow.n2.2 (e01 _ _ hO0))
      have hM3 : AtD H3 mk M := f3 _ _ mP (s2 _ _ mt mo hM1)
      have lr := ow.ol.ps.length
      walk_at "go"
      have ed := hd2.trans hd
      refine iteNQ (congrArg V.str ed) ?_
      walk_at "go"
      refine ⟨pT, _, _, rfl, rfl, hT3, sl_lt (by rw [List.length_map]; omega), ?_⟩
      obtain ⟨H6, q6⟩ : ∃ H6, upd H3 pT (.lst (ms.map V.ref ++ [V.ref mk])) = H6 := ⟨_, rfl⟩
      rw [q6]
      have f6 : ∀ x w, x ≠ pT → H3 x = some w → H6 x = some w := fun x w h e => by rw [← q6, upd_ne h]; exact e
      have hT6 : H6 pT = some (.lst ((ms ++ [mk]).map V.ref)) := by rw [← q6, upd_same, List.map_append]; rfl
      have hO6 := f6 _ _ ow.n3.symm hO3
      have hM6 : AtD H6 mk M := f6 _ _ (ne_of_none hT0 nM).symm hM3
      walk_at "go"
      have emin : (if (m : Int) < (n : Int) then (m : Int) else (n : Int)) = ((min n m : Nat) : Int) := by split <;> omega
      have emax : (if (m : Int) > (n : Int) then (m : Int) else (n : Int)) = ((max n m : Nat) : Int) := by split <;> omega
      rw [emin, emax]
      obtain ⟨H7, q7, e7, h7⟩ := alloc (o := HO.tup ([min n m, max n m].map nV)) np
      rw [show upd H6 p (HO.tup [V.int ((min n m : Nat) : Int), V.int ((max n m : Nat) : Int)]) = H7 from q7]
      have hO7 := e7 _ _ hO6
      have hT7 := e7 _ _ hT6
      refine ⟨pO, _, _, rfl, rfl, hO7, sl_lt (by rw [List.length_map]; omega), ?_⟩
      obtain ⟨H8, q8⟩ : ∃ H8, upd H7 pO (.lst (rs.map V.ref ++ [V.ref p])) = H8 := ⟨_, rfl⟩
      rw [q8]
      have f8 : ∀ x w, x ≠ pO → H7 x = some w → H8 x = some w := fun x w h e => by rw [← q8, upd_ne h]; exact e
      have hO8 : H8 pO = some (.lst ((rs ++ [p]).map V.ref)) := by rw [← q8, upd_same, List.map_append]; rfl
      have hT8 := f8 _ _ ow.n3 hT7
      have hp8 := f8 _ _ (show p ≠ pO from fun e => by rw [e, hO7] at h7; cases h7) h7
      have hm8 : AtD H8 mk M := f8 _ _ (ne_of_none hO0 nM).symm (e7 _ _ hM6)
      have f28 : ∀ x w, x ≠ dP → x ≠ pT → x ≠ pO → H2 x = some w → H8 x = some w := fun x w a b c h => f8 _ _ c (e7 _ _ (f6 _ _ b (f3 _ _ a h)))
      have F : F4 t o pT pO H₀ H8 := fun x w a b c d h => f28 x w (no h) c d (s2 _ _ a b (e01 _ _ h))
      have hT2 : H2 pT = some (.lst (ms.map V.ref)) := s2 _ _ ow.n1.1 ow.n1.2 (e01 _ _ hT0)
      have hO2 : H2 pO = some (.lst (rs.map V.ref)) := s2 _ _ ow.n2.1 ow.n2.2 (e01 _ _ hO0)
      have bk8 : BkAt C_Book b dx t o (ts ++ [x]) (os ++ [y]) (Gs ++ [M]) (Ps ++ [[min n m, max n m]]) H8 := by
        have kd : ∀ a (w : HO), a ≠ dP → (∀ ys, w ≠ .lst ys) → H2 a = some w → H8 a = some w := fun a w h hn e => f28 a w h (fun q => by rw [q, hT2] at e; exact hn _ (Option.some.inj e).symm) (fun q => by rw [q, hO2] at e; exact hn _ (Option.some.inj e).symm) e
        have nd : ∀ {a : Addr} {w : HO}, H2 a = some w → (∀ ks, w ≠ .dK ks) → a ≠ dP := fun {a w} h hn q => by
          rw [q, show H2 dP = some (.dK (kvs P)) from hP2] at h
          exact hn _ (Option.some.inj h).symm
        refine ⟨kd _ _ (nd bk2.ins (fun _ z => by cases z)) (fun _ z => by cases z) bk2.ins, f28 _ _ Pt.symm ow.n1.1.symm ow.n2.1.symm bk2.tr, f28 _ _ Po.symm ow.n1.2.symm ow.n2.2.symm bk2.ol, paired_mem (fun a ha G h => kd a _ ?_ (fun _ z => by cases z) h) bk2.gs, Paired.imp (fun a ps h => kd a _ (nd h (fun _ z => by cases z)) (fun _ z => by cases z) h) bk2.ps, bk2.len, bk2.tno⟩
        rcases List.mem_append.mp ha with h | h
        · exact ntd _ h
        · rw [List.mem_singleton.mp h]; exact xP
      have tM : Tree0 U M := Tree0.made (ow.tr _ (List.mem_of_getElem? hA)) (ow.tr _ (List.mem_of_getElem? hB)) (ow.tr _ (List.mem_of_getElem? hD)) j.hv hj
      have ow8 : Own U C_Book b dx t o pT pO (ts ++ [x]) (os ++ [y]) (ms ++ [mk]) (rs ++ [p]) (Gs ++ [M]) (Ps ++ [[min n m, max n m]]) H8 := ow.push F bk8 hT8 hm8 hO8 hp8 (fun z hz => by
        simp only [List.mem_cons, List.mem_nil_iff, or_false] at hz
        have := j.hn
        have := j.hm
        omega) (by simp) (fun _ h => h) tM
      walk_at "go"
      have ev : decide (nV Gs.length = V.int (((ms ++ [mk]).map V.ref).length - 1 : Int)) = true := by
        rw [decide_eq_true_eq, List.length_map, List.length_append, lm]
        show V.int _ = V.int _
        congr 1
        show ((Gs.length : Nat) : Int) = ((Gs.length + 1 : Nat) : Int) - 1
        omega
      refine cast (congrArg (fun z => D.rt (V.bl z) H8) ev.symm) ?_
      exact q _ ⟨_, _, _, _, _, _, _, F, ow8, by rw [List.length_append]; exact Nat.le_refl _, by rw [List.length_append]; omega, Nat.le_add_right _ _, j.hb⟩
    · rw [hj]
      intro H2 e2
      have hP2 : AtD H2 dP P := e2 _ _ hP1
      have hL2 : AtD H2 L P := e2 _ _ hL1
      walk_at "go"
      refine ⟨dict_eqG hP2.rd hL2.rd j.nd flat, ?_⟩
      walk_at "go"
      refine ⟨dP, _, rfl, rfl, hP2.rd, hfz, ?_⟩
      have eS := bad "Clashed" H2 (by decide +kernel) (hd2.trans hd) (fun x u _ h => e2 _ _ h)
      walk_at "go"
      have ed := hd2.trans hd
      refine iteNP (fun h => absurd (ed.symm.trans (V.str.inj h)) (by decide +kernel)) ?_
      walk_at "go"
      refine ⟨.inl ⟨_, rfl, congrArg V.str ed⟩, ?_⟩
      exact q _ (Left.same ow j.hb (F4.of eS) (ow.same eS))
    · rw [hj]
      intro H2 f2
      have hL2 : AtD H2 L P := f2.1 _ _ LP hL1
      walk_at "go"
      refine ⟨dict_eqG f2.2 hL2.rd j.nd flat, ?_⟩
      walk_at "go"
      refine ⟨dP, _, rfl, rfl, f2.2, hfz, ?_⟩
      have eS := bad "NoClash" H2 (by decide +kernel) (hd2.trans hd) (fun x u n h => f2.1 _ _ n h)
      walk_at "go"
      have ed := hd2.trans hd
      refine iteNP (fun h => absurd (ed.symm.trans (V.str.inj h)) (by decide +kernel)) ?_
      walk_at "go"
      refine ⟨.inl ⟨_, rfl, congrArg V.str ed⟩, ?_⟩
      exact q _ (Left.same ow j.hb (F4.of eS) (ow.same eS))
  · have hP2 : AtD H2 dP P := e2 _ _ hP1
    have hL2 : AtD H2 L P := e2 _ _ hL1
    walk_at "go"
    refine ⟨dict_eqG hP2.rd hL2.rd j.nd flat, ?_⟩
    walk_at "go"
    refine ⟨dP, _, rfl, rfl, hP2.rd, hfz, ?_⟩
    have eS := bad "SameVersion" H2 (by decide +kernel) (hd1 heq) (fun x u _ h => e2 _ _ h)
    walk_at "go"
    have ed := hd1 heq
    refine iteNP (fun h => absurd (ed.symm.trans (V.str.inj h)) (by decide +kernel)) ?_
    walk_at "go"
    refine ⟨.inl ⟨_, rfl, congrArg V.str ed⟩, ?_⟩
    exact q _ (Left.same ow j.hb (F4.of eS) (ow.same eS))
def blk6 (H0 : Hp) (C : Addr) (K : PySem.W.Frag) : TS := fun D σ H => ∃ (U : List Str) (b dx t o pT pO : Addr) (ts os ms rs : List Addr) (Gs : List Tr) (Ps : List (List Nat)) (c s : Int) (n m e : Nat) (dP mk pl : Addr) (P : Tr) (v7 v11 : Option V), J11 H0 U C b dx t o pT pO ts os ms rs Gs Ps n m e dP P H ∧ (∀ p ∈ keys P, p ∈ hindL (treeOf Gs e) (treeOf Gs n) (treeOf Gs m) []) ∧ P.length ≤ 10000 ∧ AtD H mk (madeT (treeOf Gs e) (treeOf Gs n) (treeOf Gs m) P) ∧ H0 mk = none ∧ mk ≠ dP ∧ H pl = some (.lst ((hindL (treeOf Gs e) (treeOf Gs n) (treeOf Gs m) P).map V.str)) ∧ Bits 1048576 c ∧
  σ = [some (.ref b), some (.ref pT), some (.ref pO), some (.int c), some (.int s), some (nV n), some (nV m), v7, some (.ref dP), some (.ref mk), some (.ref pl), v11, none, none, none] ∧ ∀ H', Left U C b dx t o pT pO Gs.length 9 H0 H' → D.rt (.bl true) H'
theorem okL_joins_J6 (T : Txt K mg C_Book C_Clashed C_InTheWay C_NoClash C_NoFile C_NoPath C_NoVersion C_RoadError C_SameVersion) {f : Addr} {cdv : Value} {A : Around} {outer : List Env} {s : Shared} {H₀ : Hp} {E : XK} (hr : Room 6 (A.deeper (envOfC "_law_joins" (defScope s_L_joins) s.heap.objs.size f cdv))) : PSs ((cxOf CX0 P w K mg base sl_L_joins "_law_joins" (defScope s_L_joins) f cdv A outer s H₀ E).nox) ((defBody s_L_joins).drop 6) (blk6 H₀ C_Book K) := by
  have sc := scL_joins
  have hu := hu_of hr
  refine PSs.weak (PSs.cv (by exact (pss_cons (ps_set (i := 12) sc.nd rfl (Or.inl rfl) pe_str)
      (pss_cons (ps_if (pt_cmpR op_gt (pe_callB call_len_seq (by rfl) T.n_len (by decide +kernel) (pa_cons (pv 10) pa_nil)) pe_int (nomark _)) (pss_one (ps_set (i := 12) sc.nd rfl (Or.inl rfl) pe_str)) pss_nil)
      (pss_cons (ps_if (pt_cmpR op_eq (pe_op op_mod (pe_op op_fdiv (pv 3) pe_int) pe_int) pe_int (nomark _)) (pss_cons (ps_dput hu (pv 8) pe_str (pe_ix ix_list (pe_lst (pa_cons pe_str (pa_cons pe_non pa_nil))) (pe_op op_mod (pe_op op_fdiv (pv 3) pe_int) pe_int) (fun _ _ => rfl)) rfl)
      (pss_one (ps_set (i := 12) sc.nd rfl (Or.inl rfl) pe_str))) pss_nil)
      (okL_joins_J9 T hr))))) (by walk_at "cv")) (fun D σ H h => ?_)
  obtain ⟨U, b, dx, t, o, pT, pO, ts, os, ms, rs, Gs, Ps, c, s, n, m, e, dP, mk, pl, P, v7, v11, j, hk, lP, hM, nM, mP, hpl, hc, rfl, q⟩ := h
  have tr : ∀ {k : Nat}, k < Gs.length → Tree0 U (treeOf Gs k) := fun h => j.ow.tr _ (tree_mem h)
  have lU := j.lU
  have okA := (tr j.he).ok (n := 1000) (by omega)
  have okB := (tr j.hn).ok (n := 1000) (by omega)
  have okC := (tr j.hm).ok (n := 1000) (by omega)
  have hpick := pick_of hk
  walk_at "go"
  rw [List.length_map]
  refine if_join (fun σ' H' => H' = H ∧ ∃ d2 : Str, JDue (treeOf Gs e) (treeOf Gs n) (treeOf Gs m) P (madeT (treeOf Gs e) (treeOf Gs n) (treeOf Gs m) P) d2 ∧ σ' = [some (.ref b), some (.ref pT), some (.ref pO), some (.int c), some (.int s), some (nV n), some (nV m), v7, some (.ref dP), some (.ref mk), some (.ref pl), v11, some (.str d2), none, none]) ?_ (fun h N hj => ?_) fun h => ?_
  rotate_left
  · walk_at "go"
    refine hj _ _ ⟨rfl, "Clashed", .inr (.inl ⟨rfl, hind_clashed hpick fun e => ?_⟩), rfl⟩
    rw [e] at h
    exact absurd h (by simp)
  · refine ⟨rfl, "made", .inl ⟨rfl, hind_tree okA okB okC hpick ?_⟩, rfl⟩
    exact List.eq_nil_of_length_eq_zero (by omega)
  rintro σ' HX ⟨eX, d2, jd, rfl⟩
  rw [eX]
  clear eX
  have hP := j.hP
  walk_at "go"
  refine if_elseB (fun σ' H' => blk9 H₀ C_Book K D σ' H') (fun _ _ h => h) (fun h N hN => ?_) (fun h N hN => ?_)
  · walk_at "go"
    obtain ⟨H1, q1, e1, h1⟩ := alloc (o := HO.lst [V.str (Str.ofString "x"), V.non]) np
    rw [show upd H p (HO.lst [V.str (Str.ofString "x"), V.non]) = H1 from q1]
    obtain ⟨v, hv, ov⟩ : ∃ v, atI [V.str (Str.ofString "x"), V.non] (c / 5600 % 2) = some v ∧ OptS v := by
      rcases (show c / 5600 % 2 = 0 ∨ c / 5600 % 2 = 1 by omega) with h | h <;> rw [h]
      · exact ⟨_, rfl, .inr ⟨_, rfl⟩⟩
      · exact ⟨_, rfl, .inl rfl⟩
    have hP1 : AtD H1 dP P := e1 _ _ hP
    refine ⟨_, _, _, _, rfl, rfl, SqL.of h1, hv, ?_⟩
    walk_at "go"
    refine ⟨_, _, rfl, hP1.put (by omega) badP v, ?_⟩
    walk_at "go"
    have hnot : badP ∉ allP (treeOf Gs e) (treeOf Gs n) (treeOf Gs m) := fun h => by
      rcases mem_allP.mp h with h | h | h
      · exact j.hb ((tr j.he).sub _ h)
      · exact j.hb ((tr j.hn).sub _ h)
      · exact j.hb ((tr j.hm).sub _ h)
    have j2 : J11 H₀ U C_Book b dx t o pT pO ts os ms rs Gs Ps n m e dP (putK P badP v) (upd H1 dP (.dK (kvs (putK P badP v)))) := ⟨j.ow, fun x w h => (upd_ne (ne_of_none h j.nP)).trans (e1 _ _ (j.e0 _ _ h)), j.nP, j.hn, j.hm, j.he, j.nk, upd_same, nd_put j.nd, fun p2 w hw => by
      rw [L2.valV_put] at hw
      split at hw
      · cases hw; exact ov
      · exact j.hv p2 w hw, Nat.le_trans (put_len _ _ _) (by omega), j.lU, j.lG, j.hb⟩
    exact hN _ _ ⟨U, b, dx, t, o, pT, pO, ts, os, ms, rs, Gs, Ps, c, s, n, m, e, dP, mk, putK P badP v, _, "NoClash", _, _, _, j2, (upd_ne mP).trans (e1 _ _ hM), nM, mP, .inr (.inr ⟨rfl, pick_no (mem_keys_put.mpr (.inl rfl)) hnot⟩), rfl, q⟩
  · refine hN _ _ ⟨U, b, dx, t, o, pT, pO, ts, os, ms, rs, Gs, Ps, c, s, n, m, e, dP, mk, P, _, d2, _, _, _, j, hM, nM, mP, jd, rfl, q⟩
theorem okL_joins (T : Txt K mg C_Book C_Clashed C_InTheWay C_NoClash C_NoFile C_NoPath C_NoVersion C_RoadError C_SameVersion) : Cal P w K mg base CX0 7 "_law_joins" ps_L_joins (spGrows C_Book) := by
  have sc := scL_joins
  refine T.d_L_joins.ok sc (by walk_at "len") (fun f cdv A outer s H vs Q E hr h => ?_)
  have hu := hu_of hr
  obtain ⟨U, b, dx, t, o, pT, pO, ts, os, ms, rs, Gs, Ps, c, s, rfl, ow, hc, hs, lU, lG, hbad, q⟩ := h
  have bk := ow.bk
  have lP := bk.len
  have lm := ow.gs.length
  have hT := ow.hT
  refine ⟨_, PSs.cv (by exact (pss_cons (ps_set (i := 5) sc.nd rfl (Or.inl rfl) (pe_op op_mod (pe_op op_mod (pe_op op_mulV (pv 3) pe_int) pe_int) (pe_callB call_len_seq (by rfl) T.n_len (by decide +kernel) (pa_cons (pv 1) pa_nil))))
      (pss_cons (ps_set (i := 6) sc.nd rfl (Or.inl rfl) (pe_op op_mod (pe_op op_mod (pe_op op_mulV (pv 3) pe_int) pe_int) (pe_callB call_len_seq (by rfl) T.n_len (by decide +kernel) (pa_cons (pv 1) pa_nil))))
      (pss_cons (ps_set (i := 7) sc.nd rfl (Or.inl rfl) (pe_ix ix_list (pv 1) (pe_calC (okL_nearest_by T) (hr.mono (by decide)) (by rfl) pass0 (pa_cons (pv 2) (pa_cons (pv 5) (pa_cons (pv 6) pa_nil)))) (fun _ _ => rfl)))
      (pss_cons (ps_set (i := 8) sc.nd rfl (Or.inl rfl) pe_dnewK)
      (pss_cons (ps_asg (pe_calC (okL_joined_by T) (hr.mono (by decide)) (by rfl) pass0 (pa_cons (pv 7) (pa_cons (pe_ix ix_list (pv 1) (pv 5) (fun _ _ => rfl)) (pa_cons (pe_ix ix_list (pv 1) (pv 6) (fun _ _ => rfl)) (pa_cons (pv 8) pa_nil))))) (pg_tup rfl (pgs_cons (pg_name (i := 9) sc.nd rfl (Or.inl rfl)) (pgs_cons (pg_name (i := 10) sc.nd rfl (Or.inl rfl)) pgs_nil))))
      (pss_cons (ps_if (pt_cmpR op_gt (pe_op op_mod (pe_op op_fdiv (pv 3) pe_int) pe_int) pe_int (nomark _)) (pss_cons (ps_for PassesOwn.never rfl (pi_range1 (by rfl) T.n_range (pa_cons (pe_callB call_len_seq (by rfl) T.n_len (by decide +kernel) (pa_cons (pv 10) pa_nil)) pa_nil)) (pg_name (i := 11) sc.nd rfl (Or.inl rfl)) (pss_one (ps_dput hu (pv 8) (pe_ix ix_list (pv 10) (pv 11) (fun _ _ => rfl)) (pe_ix ix_list (pe_lst (pa_cons pe_non (pa_cons (pe_calC (okL_line_by T) (hr.mono (by decide)) (by rfl) pass0 (pa_cons (pe_op op_add (pe_op op_fdiv (pv 3) pe_int) (pv 11)) (pa_cons (pv 4) pa_nil))) pa_nil))) (pe_op op_mod (pe_op op_add (pe_op op_fdiv (pv 3) pe_int) (pv 11)) pe_int) (fun _ _ => rfl)) rfl)))
      (pss_one (ps_asg (pe_calC (okL_joined_by T) (hr.mono (by decide)) (by rfl) pass0 (pa_cons (pv 7) (pa_cons (pe_ix ix_list (pv 1) (pv 5) (fun _ _ => rfl)) (pa_cons (pe_ix ix_list (pv 1) (pv 6) (fun _ _ => rfl)) (pa_cons (pv 8) pa_nil))))) (pg_tup rfl (pgs_cons (pg_name (i := 9) sc.nd rfl (Or.inl rfl)) (pgs_cons (pg_name (i := 10) sc.nd rfl (Or.inl rfl)) pgs_nil)))))) pss_nil)
      (okL_joins_J6 T hr)))))))) (by walk_at "cv"), ?_⟩
  walk_at "go"
  obtain ⟨n, hn, en⟩ := mod_nat ow.pos (c * 69621 % 104729)
  rw [List.length_map, lm]
  refine ⟨show (0 : Int) < _ by omega, ?_⟩
  dsimp only
  rw [en]
  walk_at "go"
  obtain ⟨m, hm, em⟩ := mod_nat ow.pos (c * 16807 % 99991)
  rw [List.length_map, lm]
  refine ⟨show (0 : Int) < _ by omega, ?_⟩
  dsimp only
  rw [em]
  walk_at "go"
  refine ⟨pO, rs, Ps, n, m, rfl, ow.ol, ow.old, ow.root, by omega, by omega, by omega, fun e H1 e1 nk => ?_⟩
  have he : e < Gs.length := Nat.lt_of_le_of_lt (nk.l.le ow.old) hn
  obtain ⟨ma, hma, hGa, ha, hGma⟩ := ow.at_ he
  obtain ⟨mb, hmb, hGb, hb, hGmb⟩ := ow.at_ hn
  obtain ⟨mc, hmc, hGc, hcc, hGmc⟩ := ow.at_ hm
  have oks : ∀ G ∈ Gs, TreeOk 1000 G := fun G hG => (ow.tr G hG).ok (by omega)
  have hT1 := e1 _ _ hT
  walk_at "go"
  refine ⟨_, _, _, _, rfl, rfl, SqL.of hT1, at_refs hma, ?_⟩
  walk_at "go"
  show ∀ F, H1 F = none → _
  intro dP nP1
  obtain ⟨H2, q2, e2, h2⟩ := alloc (o := HO.dK []) nP1
  rw [q2]
  have nP : H dP = none := e1.free nP1
  have hP2 : AtD H2 dP [] := h2
  have e02 := e1.trans e2
  have hT2 := e02 _ _ hT
  walk_at "go"
  refine ⟨_, _, _, _, rfl, rfl, SqL.of hT2, at_refs hmb, ?_⟩
  walk_at "go"
  refine ⟨_, _, _, _, rfl, rfl, SqL.of hT2, at_refs hmc, ?_⟩
  walk_at "go"
  refine ⟨ma, mb, mc, dP, _, _, _, [], 1000, rfl, e02 _ _ ha, e02 _ _ hb, e02 _ _ hcc, hP2, oks _ hGma, oks _ hGmb, oks _ hGmc, by decide, (fun p v h => absurd (show (none : Option V) = some v from h) (by simp)), fun tt mk pl H3 nmk npl e3 htt hmk hpl => ?_⟩
  walk_at "go"
  refine ⟨_, _, rfl, ?_⟩
  refine ⟨_, _, rfl, ?_⟩
  refine ⟨rfl, ?_⟩
  have mP : mk ≠ dP := (ne_of_none (show H2 dP = some (.dK (kvs [])) from hP2) nmk).symm
  have plP : pl ≠ dP := (ne_of_none (show H2 dP = some (.dK (kvs [])) from hP2) npl).symm
  have e03 := e02.trans e3
  have nM : H mk = none := e02.free nmk
  have hP3 : AtD H3 dP [] := e3 _ _ hP2
  have lW : (hindL (treeOf Gs e) (treeOf Gs n) (treeOf Gs m) []).length ≤ 9000 := by
    have h1 := made_len (treeOf Gs e) (treeOf Gs n) (treeOf Gs m) []
    have h2 := allP_len (treeOf Gs e) (treeOf Gs n) (treeOf Gs m)
    have h3 := (oks _ hGma).len
    have h4 := (oks _ hGmb).len
    have h5 := (oks _ hGmc).len
    have h6 : (leftT (treeOf Gs e) (treeOf Gs n) (treeOf Gs m) []).length ≤ (allP (treeOf Gs e) (treeOf Gs n) (treeOf Gs m)).length := List.length_filter_le _ _
    have h7 : (downL (madeT (treeOf Gs e) (treeOf Gs n) (treeOf Gs m) [])).length ≤ (keys (madeT (treeOf Gs e) (treeOf Gs n) (treeOf Gs m) [])).length := List.length_filter_le _ _
    unfold hindL
    rw [List.length_append, srt_len]
    omega
  walk_at "go"
  refine if_elseB (fun σ' H' => blk6 H C_Book K { nx := fun x H' => Q .non H', rt := Q } σ' H') (fun _ _ h => h) (fun h N hN => ?_) (fun h N hN => ?_)
  · walk_at "go"
    rw [List.length_map]
    refine ⟨by omega, by omega, ?_⟩
    refine for_it wR (fun i σ' H' => Same H H' ∧ (∀ x w, x ≠ dP → H3 x = some w → H' x = some w) ∧ ∃ (P : Tr) (v11 : Option V), AtD H' dP P ∧ (keys P).Nodup ∧ (∀ p ∈ keys P, p ∈ hindL (treeOf Gs e) (treeOf Gs n) (treeOf Gs m) []) ∧ (∀ p v, valV P p = some v → OptS v) ∧ P.length ≤ i ∧ σ' = [some (.ref b), some (.ref pT), some (.ref pO), some (.int c), some (.int s), some (nV n), some (nV m), some (.ref ma), some (.ref dP), some (.ref mk), some (.ref pl), v11, none, none, none])
      ⟨e03, fun _ _ _ h => h, [], _, hP3, List.nodup_nil, (fun _ h => absurd h (by simp)), (fun p v h => absurd (show (none : Option V) = some v from h) (by simp)), Nat.le_refl _, rfl⟩ (fun _ _ _ _ _ => trivial) ?_ ?_
    · rintro i x σ' H4 H5 hi ⟨e4, f4, P, v11, hP4, nd4, hk4, hv4, lP4, rfl⟩ ⟨rfl, hx⟩
      have := rng_at hx
      subst this
      have hi : i < (hindL (treeOf Gs e) (treeOf Gs n) (treeOf Gs m) []).length := by omega
      have hbk : Bits 1048576 (c / 21 + (i : Int)) := bits21 hc (by decide) (by omega) (by omega)
      have hpl5 := f4 _ _ plP hpl
      walk_at "go"
      intro z H6 e6 lz
      walk_at "go"
      obtain ⟨H7, q7, e7, h7⟩ := alloc (o := HO.lst [V.non, V.str z]) np
      rw [q7]
      obtain ⟨v, hv, ov⟩ : ∃ v, atI [V.non, V.str z] ((c / 21 + (i : Int)) % 2) = some v ∧ OptS v := by
        rcases (show (c / 21 + (i : Int)) % 2 = 0 ∨ (c / 21 + (i : Int)) % 2 = 1 by omega) with h | h <;> rw [h]
        · exact ⟨_, rfl, .inl rfl⟩
        · exact ⟨_, rfl, .inr ⟨_, rfl⟩⟩
      have e57 := e6.trans e7
      have hP7 : AtD H7 dP P := e57 _ _ hP4
      have hpl7 := e57 _ _ hpl5
      refine ⟨_, _, _, _, rfl, rfl, SqL.of h7, hv, ?_⟩
      walk_at "go"
      refine ⟨_, _, _, _, rfl, rfl, SqL.of hpl7, (show atI _ ((i : Nat) : Int) = some (V.str ((hindL (treeOf Gs e) (treeOf Gs n) (treeOf Gs m) [])[i]'hi)) from atI_nat (by rw [List.getElem?_map, List.getElem?_eq_getElem hi]; rfl)), ?_⟩
      walk_at "go"
      refine ⟨_, _, rfl, hP7.put (by omega) _ v, ?_⟩
      exact ⟨Same.mut (e4.trans e57) nP, (fun x w nx hw => (upd_ne nx).trans (e57 _ _ (f4 x w nx hw))), _, _, upd_same, nd_put nd4, (fun p hp => by
        rcases mem_keys_put.mp hp with h | h
        · rw [h]; exact List.getElem_mem hi
        · exact hk4 p h), (fun p2 w hw => by
        rw [L2.valV_put] at hw
        split at hw
        · cases hw; exact ov
        · exact hv4 p2 w hw), Nat.le_trans (put_len _ _ _) (by omega), rfl⟩
    rintro σ' H4 ⟨e4, f4, P, v11, hP4, nd4, hk4, hv4, lP4, rfl⟩
    have lP5 : P.length ≤ 10000 := by omega
    have hT4 := e4 _ _ hT
    walk_at "go"
    refine ⟨_, _, _, _, rfl, rfl, SqL.of hT4, at_refs hmb, ?_⟩
    walk_at "go"
    refine ⟨_, _, _, _, rfl, rfl, SqL.of hT4, at_refs hmc, ?_⟩
    walk_at "go"
    refine ⟨ma, mb, mc, dP, _, _, _, P, 1000, rfl, e4 _ _ ha, e4 _ _ hb, e4 _ _ hcc, hP4, oks _ hGma, oks _ hGmb, oks _ hGmc, by decide, hv4, fun t2 mk2 pl2 H5 nmk2 npl2 e5 htt2 hmk2 hpl2 => ?_⟩
    walk_at "go"
    refine ⟨_, _, rfl, ?_⟩
    refine ⟨_, _, rfl, ?_⟩
    refine ⟨rfl, ?_⟩
    exact hN _ _ ⟨U, b, dx, t, o, pT, pO, ts, os, ms, rs, Gs, Ps, c, s, n, m, e, dP, mk2, pl2, P, _, _, ⟨ow, e4.trans e5, nP, hn, hm, he, nk, e5 _ _ hP4, nd4, hv4, by omega, lU, lG, hbad⟩, hk4, lP5, hmk2, e4.free nmk2, (ne_of_none (show H4 dP = some (.dK (kvs P)) from hP4) nmk2).symm, hpl2, hc, rfl, q⟩
  · exact hN _ _ ⟨U, b, dx, t, o, pT, pO, ts, os, ms, rs, Gs, Ps, c, s, n, m, e, dP, mk, pl, [], _, _, ⟨ow, e03, nP, hn, hm, he, nk, hP3, List.nodup_nil, (fun p v h => absurd (show (none : Option V) = some v from h) (by simp)), by decide, lU, lG, hbad⟩, (fun _ h => absurd h (by simp)), by decide, hmk, nM, mP, hpl, hc, rfl, q⟩
theorem okL_turn (T : Txt K mg C_Book C_Clashed C_InTheWay C_NoClash C_NoFile C_NoPath C_NoVersion C_RoadError C_SameVersion) : Cal P w K mg base (L2N.CX P w) 8 "_law_turn" ps_L_turn (spGrows C_Book) := by
  have sc := scL_turn
  refine T.d_L_turn.okX sc (by walk_at "len") (fun f cdv A outer s H vs Q E hr h => ?_)
  have hu := hu_of hr
  obtain ⟨U, b, dx, t, o, pT, pO, ts, os, ms, rs, Gs, Ps, c, s, rfl, ow, hc, hs, lU, lG, hbad, q⟩ := h
  refine ⟨_, PSs.cv (by exact (pss_cons (ps_if (pt_cmpR op_lt (pe_op op_mod (pe_op op_mod (pe_op op_mulV (pv 3) pe_int) pe_int) pe_int) pe_int (nomark _)) (pss_one (ps_set (i := 5) sc.nd rfl (Or.inl rfl) (pe_calC (okL_grows T) (hr.mono (by decide)) (by rfl) pass0 (pa_cons (pv 0) (pa_cons (pv 1) (pa_cons (pv 2) (pa_cons (pv 3) (pa_cons (pv 4) pa_nil)))))))) (pss_one (ps_set (i := 5) sc.nd rfl (Or.inl rfl) (pe_calC (okL_joins T) (hr.mono (by decide)) (by rfl) pass0 (pa_cons (pv 0) (pa_cons (pv 1) (pa_cons (pv 2) (pa_cons (pv 3) (pa_cons (pv 4) pa_nil)))))))))
      (pss_one (ps_ret (pe_and (pv 5) (pe_one (pe_calC (okL_reads T) (hr.mono (by decide)) (by rfl) (L2N.passes_call (L2N.takes_of rfl rfl rfl rfl) (fun _ _ _ _ h => h)) (pa_cons (pv 0) (pa_cons (pv 1) (pa_cons (pv 2) (pa_cons (pe_op op_sub (pe_callB call_len_seq (by rfl) T.n_len (by decide +kernel) (pa_cons (pv 1) pa_nil)) pe_int) pa_nil))))))))))) (by walk_at "cv"), ?_⟩
  refine seq_join (fun σ' H' => Left U C_Book b dx t o pT pO Gs.length 9 H H' ∧ σ' = [some (.ref b), some (.ref pT), some (.ref pO), some (.int c), some (.int s), some (.bl true)]) (fun N hj => ?_) ?_
  · walk_at "go"
    refine iteD (fun h5 => ?_) fun h5 => ?_
    · walk_at "go"
      refine ⟨U, b, dx, t, o, pT, pO, ts, os, ms, rs, Gs, Ps, c, s, rfl, ow, hc, hs, lU, lG, hbad, fun H1 l1 => ?_⟩
      walk_at "go"
      exact hj _ _ ⟨l1, rfl⟩
    · walk_at "go"
      refine ⟨U, b, dx, t, o, pT, pO, ts, os, ms, rs, Gs, Ps, c, s, rfl, ow, hc, hs, lU, lG, hbad, fun H1 l1 => ?_⟩
      walk_at "go"
      exact hj _ _ ⟨l1, rfl⟩
  rintro σ' H1 ⟨⟨ts2, os2, ms2, rs2, Gs2, Ps2, U2, f, ow2, l1, l2, l3, hb2⟩, rfl⟩
  have hT2 := ow2.hT
  have lm := ow2.gs.length
  have pos := ow2.pos
  walk_at "go"
  have ek : (((ms2.map V.ref).length : Int) - 1) = ((Gs2.length - 1 : Nat) : Int) := by rw [List.length_map]; omega
  dsimp only
  rw [ek]
  refine ⟨U2, b, dx, t, o, pT, pO, ts2, os2, ms2, rs2, Gs2, Ps2, Gs2.length - 1, rfl, ow2, by omega, by omega, fun H2 e2 => ?_⟩
  walk_at "go"
  exact q _ ⟨ts2, os2, ms2, rs2, Gs2, Ps2, U2, f.trans (F4.of e2), ow2.same e2, l1, l2, l3, hb2⟩
/-- the addresses of a book and of what is kept beside it -/
structure BB where
  b : Addr
  dx : Addr
  t : Addr
  o : Addr
  pT : Addr
  pO : Addr
def BB.four (x : BB) : List Addr := [x.t, x.o, x.pT, x.pO]
def OwnX (C : Addr) (x : BB) (u g : Nat) (H : Hp) : Prop := ∃ (U : List Str) (ts os ms rs : List Addr) (Gs : List Tr) (Ps : List (List Nat)), Own U C x.b x.dx x.t x.o x.pT x.pO ts os ms rs Gs Ps H ∧ U.length ≤ u ∧ Gs.length ≤ g ∧ badP ∉ U
theorem OwnX.same {C : Addr} {x : BB} {u g : Nat} {H H' : Hp} (h : OwnX C x u g H) (e : Same H H') : OwnX C x u g H' := by
  obtain ⟨U, ts, os, ms, rs, Gs, Ps, ow, h1, h2, h3⟩ := h
  exact ⟨U, ts, os, ms, rs, Gs, Ps, ow.same e, h1, h2, h3⟩
/-- a turn at x leaves y as it was -/
theorem OwnX.other {C : Addr} {x y : BB} {u g v k : Nat} {H H' : Hp} (hx : OwnX C x v k H) (h : OwnX C y u g H) (f : F4 x.t x.o x.pT x.pO H H') (sep : ∀ a ∈ y.four, a ∉ x.four) : OwnX C y u g H' := by
  obtain ⟨_, _, _, _, _, _, _, ox, _⟩ := hx
  obtain ⟨U, ts, os, ms, rs, Gs, Ps, ow, h1, h2, h3⟩ := h
  have keep : ∀ {a : Addr} {w : HO}, a ∉ x.four → H a = some w → H' a = some w := fun {a w} n e => by
    simp only [BB.four, List.mem_cons, List.mem_nil_iff, or_false, not_or] at n
    exact f a w n.1 n.2.1 n.2.2.1 n.2.2.2 e
  have g : ∀ (a : Addr) (w : HO), (∀ ys, w ≠ .lst ys) → H a = some w → H' a = some w := fun a w hn e => f a w (fun q => by rw [q, ox.bk.tr] at e; exact hn _ (Option.some.inj e).symm) (fun q => by rw [q, ox.bk.ol] at e; exact hn _ (Option.some.inj e).symm) (fun q => by rw [q, ox.hT] at e; exact hn _ (Option.some.inj e).symm) (fun q => by rw [q, ox.ol.hL] at e; exact hn _ (Option.some.inj e).symm) e
  have s1 : y.t ∉ x.four := sep _ (by simp [BB.four])
  have s2 : y.o ∉ x.four := sep _ (by simp [BB.four])
  have s3 : y.pT ∉ x.four := sep _ (by simp [BB.four])
  have s4 : y.pO ∉ x.four := sep _ (by simp [BB.four])
  refine ⟨U, ts, os, ms, rs, Gs, Ps, ⟨BkAt.frN ow.bk g ((keep s1 ow.bk.tr).trans ow.bk.tr.symm) ((keep s2 ow.bk.ol).trans ow.bk.ol.symm), keep s3 ow.hT, Paired.imp (fun m G h => g m (.dK (kvs G)) (fun ys z => by cases z) h) ow.gs, ⟨keep s4 ow.ol.hL, Paired.imp (fun r ps h => g _ _ (fun ys z => by cases z) h) ow.ol.ps⟩, ow.old, ow.root, ow.pos, ow.tr, ow.n1, ow.n2, ow.n3⟩, h1, h2, h3⟩
def spLaw (K : PySem.W.Frag) : Sp := fun vs H Q _ => ∃ (a : Addr) (ns : List Int), vs = [.ref a] ∧ SqL K H a (ns.map V.int) ∧ ns.length ≤ 63 ∧ (∀ z ∈ ns, Bits 1048576 z) ∧ ∀ H', Q (.bl true) H'
/-- both books, the row of both -/
structure Two (C : Addr) (x y : BB) (pB q1 q2 : Addr) (u g : Nat) (H : Hp) : Prop where
  o1 : OwnX C x u g H
  o2 : OwnX C y u g H
  s1 : ∀ a ∈ y.four, a ∉ x.four
  s2 : ∀ a ∈ x.four, a ∉ y.four
  hB : H pB = some (.lst [.ref q1, .ref q2])
  h1 : H q1 = some (.tup [.ref x.b, .ref x.pT, .ref x.pO])
  h2 : H q2 = some (.tup [.ref y.b, .ref y.pT, .ref y.pO])
  n1 : pB ∉ x.four
  n2 : pB ∉ y.four
theorem Two.same {C : Addr} {x y : BB} {pB q1 q2 : Addr} {u g : Nat} {H H' : Hp} (h : Two C x y pB q1 q2 u g H) (e : Same H H') : Two C x y pB q1 q2 u g H' := ⟨h.o1.same e, h.o2.same e, h.s1, h.s2, e _ _ h.hB, e _ _ h.h1, e _ _ h.h2, h.n1, h.n2⟩
theorem Two.get {C : Addr} {x y : BB} {pB q1 q2 : Addr} {u g : Nat} {H : Hp} (h : Two C x y pB q1 q2 u g H) {i : Nat} {v : V} (hv : [V.ref q1, V.ref q2][i]? = some v) : ∃ z q, (z = x ∨ z = y) ∧ v = .ref q ∧ OwnX C z u g H ∧ H q = some (.tup [.ref z.b, .ref z.pT, .ref z.pO]) := by
  match i with
  | 0 => exact ⟨x, q1, .inl rfl, (Option.some.inj hv).symm, h.o1, h.h1⟩
  | 1 => exact ⟨y, q2, .inr rfl, (Option.some.inj hv).symm, h.o2, h.h2⟩
  | i + 2 => cases hv
theorem OwnX.keep {C : Addr} {x : BB} {v k : Nat} {H H' : Hp} (hx : OwnX C x v k H) (f : F4 x.t x.o x.pT x.pO H H') : (∀ a w, a ∉ x.four → H a = some w → H' a = some w) ∧ (∀ a w, (∀ ys, w ≠ HO.lst ys) → H a = some w → H' a = some w) := by
  obtain ⟨_, _, _, _, _, _, _, ox, _⟩ := hx
  refine ⟨fun a w n e => ?_, fun a w hn e => f a w (fun q => by rw [q, ox.bk.tr] at e; exact hn _ (Option.some.inj e).symm) (fun q => by rw [q, ox.bk.ol] at e; exact hn _ (Option.some.inj e).symm) (fun q => by rw [q, ox.hT] at e; exact hn _ (Option.some.inj e).symm) (fun q => by rw [q, ox.ol.hL] at e; exact hn _ (Option.some.inj e).symm) e⟩
  simp only [BB.four, List.mem_cons, List.mem_nil_iff, or_false, not_or] at n
  exact f a w n.1 n.2.1 n.2.2.1 n.2.2.2 e
theorem OwnX.mono {C : Addr} {x : BB} {u g u' g' : Nat} {H : Hp} (h : OwnX C x u g H) (lu : u ≤ u') (lg : g ≤ g') : OwnX C x u' g' H := by
  obtain ⟨U, ts, os, ms, rs, Gs, Ps, ow, h1, h2, h3⟩ := h
  exact ⟨U, ts, os, ms, rs, Gs, Ps, ow, Nat.le_trans h1 lu, Nat.le_trans h2 lg, h3⟩
theorem OwnX.in_ {C : Addr} {x : BB} {u g : Nat} {H : Hp} (h : OwnX C x u g H) {a : Addr} (ha : a ∈ x.four) : ∃ ys, H a = some (.lst ys) := by
  obtain ⟨_, _, _, _, _, _, _, ox, _⟩ := h
  simp only [BB.four, List.mem_cons, List.mem_nil_iff, or_false] at ha
  rcases ha with e | e | e | e
  · exact ⟨_, e ▸ ox.bk.tr⟩
  · exact ⟨_, e ▸ ox.bk.ol⟩
  · exact ⟨_, e ▸ ox.hT⟩
  · exact ⟨_, e ▸ ox.ol.hL⟩
theorem OwnX.new {C : Addr} {x : BB} {u g : Nat} {H : Hp} (h : OwnX C x u g H) {a : Addr} (n : H a = none) : a ∉ x.four := fun ha => by
  obtain ⟨ys, e⟩ := h.in_ ha
  rw [n] at e; cases e
/-- what a turn at one of the two leaves -/
theorem Two.turn {C : Addr} {x y z : BB} {pB q1 q2 : Addr} {u g u' g' : Nat} {H H' : Hp} (h : Two C x y pB q1 q2 u g H) (hz : z = x ∨ z = y) (f : F4 z.t z.o z.pT z.pO H H') (o : OwnX C z u' g' H') (lu : u ≤ u') (lg : g ≤ g') : Two C x y pB q1 q2 u' g' H' := by
  rcases hz with rfl | rfl
  · have k := h.o1.keep f
    exact ⟨o, (h.o1.other h.o2 f h.s1).mono lu lg, h.s1, h.s2, k.1 _ _ h.n1 h.hB, k.2 _ _ (fun ys e => by cases e) h.h1, k.2 _ _ (fun ys e => by cases e) h.h2, h.n1, h.n2⟩
  · have k := h.o2.keep f
    exact ⟨(h.o2.other h.o1 f h.s2).mono lu lg, o, h.s1, h.s2, k.1 _ _ h.n2 h.hB, k.2 _ _ (fun ys e => by cases e) h.h1, k.2 _ _ (fun ys e => by cases e) h.h2, h.n1, h.n2⟩
theorem Two.mono {C : Addr} {x y : BB} {pB q1 q2 : Addr} {u g u' g' : Nat} {H : Hp} (h : Two C x y pB q1 q2 u g H) (lu : u ≤ u') (lg : g ≤ g') : Two C x y pB q1 q2 u' g' H :=
  ⟨h.o1.mono lu lg, h.o2.mono lu lg, h.s1, h.s2, h.hB, h.h1, h.h2, h.n1, h.n2⟩
theorem par_one (k : Nat) : par [[]] k = [] := by
  unfold par
  cases k with
  | zero => rfl
  | succ k => rfl
theorem made_same {C b dx t o : Addr} {H H1 : Hp} (nb : H b = none) (ndx : H dx = none) (nt : upd (upd H dx (.own b)) b (.ins C dx []) t = none) (no : upd (upd H dx (.own b)) b (.ins C dx []) o = none) (fr : ∀ a w, a ≠ b → upd (upd H dx (.own b)) b (.ins C dx []) a = some w → H1 a = some w) : Same H H1 ∧ H t = none ∧ H o = none := by
  have old : ∀ {x : Addr}, upd (upd H dx (.own b)) b (.ins C dx []) x = none → H x = none := fun {x} h => by
    by_cases h1 : x = b
    · rw [h1]; exact nb
    · rw [upd_ne h1] at h
      by_cases h2 : x = dx
      · rw [h2]; exact ndx
      · rw [upd_ne h2] at h; exact h
  exact ⟨fun x w h => fr x w (ne_of_none h nb) ((upd_ne (ne_of_none h nb)).trans ((upd_ne (ne_of_none h ndx)).trans h)), old nt, old no⟩
theorem own_new {C b dx t o pT pO d r : Addr} {ts os : List Addr} {H : Hp} (bk : BkAt C b dx t o ts os [[]] [[]] H) (hT : H pT = some (.lst [.ref d])) (hd : H d = some (.dK [])) (hO : H pO = some (.lst [.ref r])) (hr : H r = some (.tup [])) (n1 : pT ≠ t ∧ pT ≠ o) (n2 : pO ≠ t ∧ pO ≠ o) (n3 : pT ≠ pO) : Own [] C b dx t o pT pO ts os [d] [r] [[]] [[]] H :=
  ⟨bk, hT, .cons hd .nil, ⟨hO, .cons hr .nil⟩, (fun k q hq => by rw [par_one] at hq; cases hq), (fun k h0 h1 => absurd h1 (by simp; omega)), Nat.zero_lt_one, fun G hG => by rw [List.mem_singleton.mp hG]; exact Tree0.nil, n1, n2, n3⟩
theorem SqL.fr {K : PySem.W.Frag} {H H' : Hp} {a : Addr} {xs : List V} (h : SqL K H a xs) (f : ∀ w, H a = some w → H' a = some w) : SqL K H' a xs := by
  rcases h with (h | ⟨o, h⟩) | h
  · exact .inl (.inl (f _ h))
  · exact .inl (.inr ⟨o, f _ h⟩)
  · exact .inr h
/-- the script stands aside of the book's lists -/
def NA (K : PySem.W.Frag) (a : Addr) (ns : List Int) (x : BB) (H : Hp) : Prop := (∀ z ∈ ns, Bits 1048576 z) ∧ SqL K H a (ns.map V.int) ∧ (a ∉ x.four ∨ ∀ H', SqL K H' a (ns.map V.int))
theorem NA.same {K : PySem.W.Frag} {a : Addr} {ns : List Int} {x : BB} {H H' : Hp} (h : NA K a ns x H) (e : Same H H') : NA K a ns x H' := ⟨h.1, e.seq h.2.1, h.2.2⟩
theorem NA.turn {K : PySem.W.Frag} {a : Addr} {ns : List Int} {x : BB} {H H' : Hp} (h : NA K a ns x H) (f : F4 x.t x.o x.pT x.pO H H') : NA K a ns x H' := by
  refine ⟨h.1, ?_, h.2.2⟩
  rcases h.2.2 with n | g
  · simp only [BB.four, List.mem_cons, List.mem_nil_iff, or_false, not_or] at n
    exact SqL.fr h.2.1 fun w e => f a w n.1 n.2.1 n.2.2.1 n.2.2.2 e
  · exact g _
def blk9L (C : Addr) : TS := fun D σ H => ∃ (x y : BB) (pB q1 q2 : Addr) (v0 v1 v2 v3 v4 v7 v9 v10 v11 v12 v13 : Option V), Two C x y pB q1 q2 900 900 H ∧ σ = [v0, v1, v2, v3, v4, none, none, v7, some (.ref pB), v9, v10, v11, v12, v13] ∧ ∀ H', D.rt (.bl true) H'
theorem rep_rng {n i : Nat} {v : V} (h : ((List.replicate (2 : Int).toNat (rgV 0 (n : Int))).flatten)[i]? = some v) : ∃ k, k < n ∧ v = nV k := by
  have hm := List.mem_of_getElem? h
  obtain ⟨l, hl, hv⟩ := List.mem_flatten.mp hm
  rw [List.eq_of_mem_replicate hl] at hv
  unfold rgV at hv
  obtain ⟨k, hk, e⟩ := List.mem_map.mp hv
  have hk := List.mem_range.mp hk
  refine ⟨k, by omega, ?_⟩
  rw [← e]
  show V.int (0 + (k : Int)) = V.int (k : Int)
  rw [Int.zero_add]
theorem oklaw_P9 (T : Txt K mg C_Book C_Clashed C_InTheWay C_NoClash C_NoFile C_NoPath C_NoVersion C_RoadError C_SameVersion) {f : Addr} {cdv : Value} {A : Around} {outer : List Env} {s : Shared} {H₀ : Hp} {E : XK} (hr : Room 8 (A.deeper (envOfC "law" (defScope s_law) s.heap.objs.size f cdv))) : PSs ((cxOf CX0 P w K mg base sl_law "law" (defScope s_law) f cdv A outer s H₀ E).nox) ((defBody s_law).drop 9) (blk9L C_Book) := by
  have sc := sclaw
  have hu := hu_of hr
  refine PSs.weak (PSs.cv (by exact (pss_cons (ps_for PassesOwn.never rfl (pi_list (pv 8)) (pg_name (i := 11) sc.nd rfl (Or.inl rfl)) (pss_one (ps_for PassesOwn.never rfl (pi_list (pe_op op_rep (pe_listRg rfl (by rfl) T.n_list (prg_1 (by rfl) T.n_range (pe_callB call_len_seq (by rfl) T.n_len (by decide +kernel) (pa_cons (pe_ix ix_tup (pv 11) pe_int (fun _ _ => rfl)) pa_nil)))) pe_int)) (pg_name (i := 13) sc.nd rfl (Or.inl rfl)) (pss_one (ps_if (pt_not (pt_val (pe_calS takes_none (okL_reads T) (hr.mono (by decide)) (by rfl) (pa_cons (pe_ix ix_tup (pv 11) pe_int (fun _ _ => rfl)) (pa_cons (pe_ix ix_tup (pv 11) pe_int (fun _ _ => rfl)) (pa_cons (pe_ix ix_tup (pv 11) pe_int (fun _ _ => rfl)) (pa_cons (pv 13) pa_nil))))))) (pss_one (ps_ret pe_bl)) pss_nil)))))
      (pss_one (ps_ret pe_bl)))) (by walk_at "cv")) (fun D σ H h => ?_)
  obtain ⟨x, y, pB, q1, q2, v0, v1, v2, v3, v4, v7, v9, v10, v11, v12, v13, tw, rfl, q⟩ := h
  walk_at "go"
  refine ⟨⟨_, SqL.of tw.hB⟩, ?_⟩
  refine for_it wL (fun i σ H' => Two C_Book x y pB q1 q2 900 900 H' ∧ ∃ v11 v12 v13 : Option V, σ = [v0, v1, v2, v3, v4, none, none, v7, some (.ref pB), v9, v10, v11, v12, v13])
    ⟨tw, _, _, _, rfl⟩ (fun _ _ _ _ h => SqL.of h.1.hB) ?_ ?_
  · rintro i v σ H1 H2 hi ⟨tw, v11, v12, v13, rfl⟩ ⟨rfl, hx⟩
    obtain ⟨z, qz, hz, rfl, oz, hq⟩ := tw.get hx
    obtain ⟨U, ts, os, ms, rs, Gs, Ps, ow, lU, lG, hb⟩ := oz
    have hTz := ow.hT
    have lm := ow.gs.length
    walk_at "go"
    refine ⟨_, _, _, _, rfl, rfl, SqT.of hq, by rfl, ?_⟩
    walk_at "go"
    rw [List.length_map, lm]
    refine ⟨RgOk.of_le (by omega) (by omega) (by omega) (by omega), fun p1 np1 => ?_⟩
    obtain ⟨H3, q3, e3, h3⟩ := alloc (o := HO.lst (rgV 0 (Gs.length : Int))) np1
    rw [q3]
    walk_at "go"
    refine ⟨_, _, _, rfl, rfl, h3, by decide, by decide, by rw [rgV_length, show (2 : Int).toNat = 2 from rfl]; exact sl_of (by omega), fun p2 np2 => ?_⟩
    obtain ⟨H4, q4, e4, h4⟩ := alloc (o := HO.lst (List.replicate (2 : Int).toNat (rgV 0 (Gs.length : Int))).flatten) np2
    rw [q4]
    have e34 := e3.trans e4
    walk_at "go"
    refine ⟨⟨_, SqL.of h4⟩, ?_⟩
    refine for_it wL (fun j σ H' => Same H2 H' ∧ H' p2 = some (.lst (List.replicate (2 : Int).toNat (rgV 0 (Gs.length : Int))).flatten) ∧ ∃ v13 : Option V, σ = [v0, v1, v2, v3, v4, none, none, v7, some (.ref pB), v9, v10, some (.ref qz), v12, v13])
      ⟨e34, h4, _, rfl⟩ (fun _ _ _ _ h => SqL.of h.2.1) ?_ ?_
    · rintro j w σ H5 H6 hj ⟨e5, h5, v13, rfl⟩ ⟨rfl, hw⟩
      obtain ⟨k, hk, rfl⟩ := rep_rng hw
      have hq5 := e5 _ _ hq
      walk_at "go"
      refine ⟨_, _, _, _, rfl, rfl, SqT.of hq5, by rfl, ?_⟩
      walk_at "go"
      refine ⟨_, _, _, _, rfl, rfl, SqT.of hq5, by rfl, ?_⟩
      walk_at "go"
      refine ⟨_, _, _, _, rfl, rfl, SqT.of hq5, by rfl, ?_⟩
      walk_at "go"
      refine ⟨U, z.b, z.dx, z.t, z.o, z.pT, z.pO, ts, os, ms, rs, Gs, Ps, k, rfl, ow.same e5, hk, by omega, fun H7 e7 => ?_⟩
      walk_at "go"
      exact ⟨e5.trans e7, e7 _ _ h5, _, rfl⟩
    rintro σ H5 ⟨e5, h5, v13, rfl⟩
    exact ⟨tw.same e5, _, _, _, rfl⟩
  rintro σ H1 ⟨tw, v11, v12, v13, rfl⟩
  walk_at "go"
  exact q _
theorem cut_few {xs : List Int} : ((xs.drop (1 : Int).toNat).take ((31 : Int).toNat - (1 : Int).toNat)).length ≤ 30 := by rw [List.length_take]; exact Nat.min_le_left _ _
theorem Two.pick {C : Addr} {x y : BB} {pB q1 q2 : Addr} {u g : Nat} {H : Hp} (h : Two C x y pB q1 q2 u g H) (b : Bool) : ∃ z q, (z = x ∨ z = y) ∧ atI [V.ref q1, V.ref q2] (if b = true then 1 else 0) = some (.ref q) ∧ OwnX C z u g H ∧ H q = some (.tup [.ref z.b, .ref z.pT, .ref z.pO]) := by
  cases b with
  | true => exact ⟨y, q2, .inr rfl, rfl, h.o2, h.h2⟩
  | false => exact ⟨x, q1, .inl rfl, rfl, h.o1, h.h1⟩
def blk8L (C : Addr) (K : PySem.W.Frag) : TS := fun D σ H => ∃ (x y : BB) (pB q1 q2 a : Addr) (ns : List Int) (s : Int) (v2 v3 v4 v7 : Option V), Two C x y pB q1 q2 60 92 H ∧ NA K a ns x H ∧ Bits 1048576 s ∧ σ = [some (.ref a), some (.int s), v2, v3, v4, none, none, v7, some (.ref pB), none, none, none, none, none] ∧ ∀ H', D.rt (.bl true) H'
theorem oklaw_P8 (T : Txt K mg C_Book C_Clashed C_InTheWay C_NoClash C_NoFile C_NoPath C_NoVersion C_RoadError C_SameVersion) {f : Addr} {cdv : Value} {A : Around} {outer : List Env} {s : Shared} {H₀ : Hp} {E : XK} (hr : Room 8 (A.deeper (envOfC "law" (defScope s_law) s.heap.objs.size f cdv))) : PSs ((cxOf CX0 P w K mg base sl_law "law" (defScope s_law) f cdv A outer s H₀ E).nox) ((defBody s_law).drop 8) (blk8L C_Book K) := by
  have sc := sclaw
  have hu := hu_of hr
  refine PSs.weak (PSs.cv (by exact (pss_cons (ps_for PassesOwn.never rfl (pi_list (pe_slice sl_list (pv 0) (po_some pe_int) (po_some pe_int))) (pg_name (i := 9) sc.nd rfl (Or.inl rfl)) (pss_cons (ps_set (i := 10) sc.nd rfl (Or.inl rfl) (pe_ix ix_list (pv 8) (pe_callTy call_int1 (by rfl) T.n_int (by decide +kernel) (pa_cons (pe_cmpR op_eq (pe_op op_mod (pv 9) pe_int) pe_int (nomark _)) pa_nil)) (fun _ _ => rfl)))
      (pss_cons (ps_if (pt_not (pt_val (pe_calS takes_none (okL_turn T) (hr.mono (by decide)) (by rfl) (pa_cons (pe_ix ix_tup (pv 10) pe_int (fun _ _ => rfl)) (pa_cons (pe_ix ix_tup (pv 10) pe_int (fun _ _ => rfl)) (pa_cons (pe_ix ix_tup (pv 10) pe_int (fun _ _ => rfl)) (pa_cons (pv 9) (pa_cons (pv 1) pa_nil)))))))) (pss_one (ps_ret pe_bl)) pss_nil)
      (pss_one (ps_for PassesOwn.never rfl (pi_list (pv 8)) (pg_name (i := 11) sc.nd rfl (Or.inl rfl)) (pss_cons (ps_set (i := 12) sc.nd rfl (Or.inl rfl) (pe_callB call_len_seq (by rfl) T.n_len (by decide +kernel) (pa_cons (pe_ix ix_tup (pv 11) pe_int (fun _ _ => rfl)) pa_nil)))
      (pss_one (ps_if (PW.pt (pw_or (pt_cmpR op_ne (pe_mcal0 T.cl_Book (okBook_many T) (hr.mono (by decide)) pass0 (pe_ix ix_tup (pv 11) pe_int (fun _ _ => rfl))) (pv 12) (nomark _)) (pw_or1 (pt_not (pt_val (pe_calS takes_none (okL_reads T) (hr.mono (by decide)) (by rfl) (pa_cons (pe_ix ix_tup (pv 11) pe_int (fun _ _ => rfl)) (pa_cons (pe_ix ix_tup (pv 11) pe_int (fun _ _ => rfl)) (pa_cons (pe_ix ix_tup (pv 11) pe_int (fun _ _ => rfl)) (pa_cons (pe_op op_mod (pv 9) (pv 12)) pa_nil)))))))))) (pss_one (ps_ret pe_bl)) pss_nil))))))))
      (oklaw_P9 T hr))) (by walk_at "cv")) (fun D σ H h => ?_)
  obtain ⟨x, y, pB, q1, q2, a, ns, s, v2, v3, v4, v7, tw, na, hs, rfl, q⟩ := h
  have ha := na.2.1
  walk_at "go"
  intro pC nC
  have nC1 := tw.o1.new nC
  have nC2 := tw.o2.new nC
  obtain ⟨H3, q3, e3, hC⟩ := alloc (o := HO.lst (cutV (ns.map V.int) (some 1) (some 31))) nC
  rw [q3]
  rw [cut_mid _ (by decide) (by decide), ← List.map_drop, ← List.map_take] at hC
  have hcs : ((ns.drop (1 : Int).toNat).take ((31 : Int).toNat - (1 : Int).toNat)).length ≤ 30 := cut_few
  have hbc : ∀ z ∈ (ns.drop (1 : Int).toNat).take ((31 : Int).toNat - (1 : Int).toNat), Bits 1048576 z := fun z hz => na.1 z (List.mem_of_mem_drop (List.mem_of_mem_take hz))
  generalize (ns.drop (1 : Int).toNat).take ((31 : Int).toNat - (1 : Int).toNat) = cs at hC hcs hbc
  have tw3 := tw.same e3
  refine ⟨_, rfl, ⟨_, SqL.of hC⟩, ?_⟩
  refine for_it wL (fun i σ H' => (Two C_Book x y pB q1 q2 (60 + 9 * i) (92 + i) H' ∧ H' pC = some (.lst (cs.map V.int))) ∧ ∃ v9 v10 v11 v12 : Option V, σ = [some (.ref a), some (.int s), v2, v3, v4, none, none, v7, some (.ref pB), v9, v10, v11, v12, none])
    ⟨⟨tw3, hC⟩, _, _, _, _, rfl⟩ (fun _ _ _ _ h => SqL.of h.1.2) ?_ ?_
  · rintro i v σ H4 H5 hi ⟨⟨tw, hC⟩, v9, v10, v11, v12, rfl⟩ ⟨rfl, hx⟩
    rw [List.getElem?_map] at hx
    rw [List.length_map] at hi
    obtain ⟨c, hcm, rfl⟩ := Option.map_eq_some_iff.mp hx
    have hc := hbc c (List.mem_of_getElem? hcm)
    have hB := tw.hB
    walk_at "go"
    obtain ⟨z, qz, hz, hat, oz, hq⟩ := tw.pick (decide (V.int (c % 7) = V.int 3))
    obtain ⟨U, ts, os, ms, rs, Gs, Ps, ow, lU, lG, hb⟩ := oz
    refine ⟨_, _, _, _, rfl, rfl, SqL.of hB, hat, ?_⟩
    walk_at "go"
    refine ⟨_, _, _, _, rfl, rfl, SqT.of hq, by rfl, ?_⟩
    walk_at "go"
    refine ⟨_, _, _, _, rfl, rfl, SqT.of hq, by rfl, ?_⟩
    walk_at "go"
    refine ⟨_, _, _, _, rfl, rfl, SqT.of hq, by rfl, ?_⟩
    walk_at "go"
    refine ⟨U, z.b, z.dx, z.t, z.o, z.pT, z.pO, ts, os, ms, rs, Gs, Ps, c, s, rfl, ow, hc, hs, by omega, by omega, hb, fun H6 lft => ?_⟩
    obtain ⟨ts2, os2, ms2, rs2, Gs2, Ps2, U2, f, ow2, l1, l2, l3, hb2⟩ := lft
    have oz5 : OwnX C_Book z (60 + 9 * i) (92 + i) H5 := ⟨U, ts, os, ms, rs, Gs, Ps, ow, lU, lG, hb⟩
    have tw6 : Two C_Book x y pB q1 q2 (60 + 9 * (i + 1)) (92 + (i + 1)) H6 := tw.turn hz f ⟨U2, ts2, os2, ms2, rs2, Gs2, Ps2, ow2, by omega, by omega, hb2⟩ (by omega) (by omega)
    have hC6 : H6 pC = some (.lst (cs.map V.int)) := (oz5.keep f).1 _ _ (by rcases hz with rfl | rfl; exact nC1; exact nC2) hC
    clear tw ow ow2 oz5 l1 l2 l3 hb2 hb lU lG f hC hB hat hq hz
    have hB := tw6.hB
    walk_at "go"
    refine ⟨⟨_, SqL.of hB⟩, ?_⟩
    refine for_it wL (fun j σ H' => (Two C_Book x y pB q1 q2 (60 + 9 * (i + 1)) (92 + (i + 1)) H' ∧ H' pC = some (.lst (cs.map V.int))) ∧ ∃ v10 v11 v12 : Option V, σ = [some (.ref a), some (.int s), v2, v3, v4, none, none, v7, some (.ref pB), some (.int c), v10, v11, v12, none])
      ⟨⟨tw6, hC6⟩, _, _, _, rfl⟩ (fun _ _ _ _ h => SqL.of h.1.1.hB) ?_ ?_
    · rintro j v σ H7 H8 hj ⟨⟨tw, hC⟩, v10, v11, v12, rfl⟩ ⟨rfl, hx⟩
      obtain ⟨z, qz, hz, rfl, oz, hq⟩ := tw.get hx
      obtain ⟨U, ts, os, ms, rs, Gs, Ps, ow, lU, lG, hb⟩ := oz
      have hTz := ow.hT
      have lm := ow.gs.length
      have bk := ow.bk
      have pos := ow.pos
      have lkm := lk_meth z.t z.o (Str.ofString "many") (by decide +kernel) (by decide +kernel)
      walk_at "go"
      refine ⟨_, _, _, _, rfl, rfl, SqT.of hq, by rfl, ?_⟩
      walk_at "go"
      refine ⟨_, _, _, _, rfl, rfl, SqT.of hq, by rfl, ?_⟩
      walk_at "go"
      refine ⟨z.b, z.dx, _, rfl, bk.ins, lkm, ?_⟩
      walk_at "go"
      refine ⟨z.b, z.dx, z.t, z.o, ts, os, Gs, Ps, rfl, bk, ?_⟩
      walk_at "go"
      refine iteNQ (show nV Gs.length = V.int _ by rw [List.length_map, lm]) ?_
      walk_at "go"
      refine ⟨_, _, _, _, rfl, rfl, SqT.of hq, by rfl, ?_⟩
      walk_at "go"
      refine ⟨_, _, _, _, rfl, rfl, SqT.of hq, by rfl, ?_⟩
      walk_at "go"
      refine ⟨_, _, _, _, rfl, rfl, SqT.of hq, by rfl, ?_⟩
      walk_at "go"
      obtain ⟨n, hn, en⟩ := mod_nat pos c
      rw [List.length_map, lm]
      refine ⟨show (0 : Int) < _ by omega, ?_⟩
      dsimp only
      rw [en]
      walk_at "go"
      refine ⟨U, z.b, z.dx, z.t, z.o, z.pT, z.pO, ts, os, ms, rs, Gs, Ps, n, rfl, ow, hn, by omega, fun H9 e9 => ?_⟩
      walk_at "go"
      exact ⟨⟨tw.same e9, e9 _ _ hC⟩, _, _, _, rfl⟩
    rintro σ H7 ⟨⟨tw, hC⟩, v10, v11, v12, rfl⟩
    exact ⟨⟨tw, hC⟩, _, _, _, _, rfl⟩
  rintro σ H4 ⟨⟨tw, hC⟩, v9, v10, v11, v12, rfl⟩
  exact ⟨x, y, pB, q1, q2, _, _, _, _, _, _, _, _, _, _, _, tw.mono (by rw [List.length_map]; omega) (by rw [List.length_map]; omega), rfl, q⟩
def blk7L (C : Addr) (K : PySem.W.Frag) : TS := fun D σ H => ∃ (x : BB) (a : Addr) (ns : List Int) (s : Int) (v7 : Option V), OwnX C x 60 92 H ∧ NA K a ns x H ∧ Bits 1048576 s ∧ σ = [some (.ref a), some (.int s), some (.ref x.b), some (.ref x.pT), some (.ref x.pO), none, none, v7, none, none, none, none, none, none] ∧ ∀ H', D.rt (.bl true) H'
theorem oklaw_P7 (T : Txt K mg C_Book C_Clashed C_InTheWay C_NoClash C_NoFile C_NoPath C_NoVersion C_RoadError C_SameVersion) {f : Addr} {cdv : Value} {A : Around} {outer : List Env} {s : Shared} {H₀ : Hp} {E : XK} (hr : Room 8 (A.deeper (envOfC "law" (defScope s_law) s.heap.objs.size f cdv))) : PSs ((cxOf CX0 P w K mg base sl_law "law" (defScope s_law) f cdv A outer s H₀ E).nox) ((defBody s_law).drop 7) (blk7L C_Book K) := by
  have sc := sclaw
  have hu := hu_of hr
  refine PSs.weak (PSs.cv (by exact (pss_cons (ps_set (i := 8) sc.nd rfl (Or.inl rfl) (pe_lst (pa_cons (pe_tup (pa_cons (pv 2) (pa_cons (pv 3) (pa_cons (pv 4) pa_nil)))) (pa_cons (pe_tup (pa_cons (pe_makeB T.mk_Book (okBook___init__ T) (hr.mono (by decide)) (by rfl) T.g_Book pass0) (pa_cons (pe_lst (pa_cons pe_dnewK pa_nil)) (pa_cons (pe_lst (pa_cons (pe_tup pa_nil) pa_nil)) pa_nil)))) pa_nil))))
      (oklaw_P8 T hr))) (by walk_at "cv")) (fun D σ H h => ?_)
  obtain ⟨x, a, ns, s, v7, ox, na, hs, rfl, q⟩ := h
  walk_at "go"
  obtain ⟨H1, q1, e1, h1⟩ := alloc (o := HO.tup [V.ref x.b, V.ref x.pT, V.ref x.pO]) np
  rw [q1]
  obtain ⟨Q1, hQ⟩ : ∃ Q1, Q1 = p := ⟨p, rfl⟩
  rw [← hQ] at h1 ⊢
  show ∀ x dx, H1 x = none → H1 dx = none → dx ≠ x → _
  intro b dx nb ndx nbd
  refine ⟨b, dx, rfl, upd_same, fun t o ts os H2 nt no nto fr bk => ⟨rfl, ?_⟩⟩
  obtain ⟨e2, nt, no⟩ := made_same nb ndx nt no fr
  clear fr
  walk_at "go"
  intro d nd
  obtain ⟨H3, q3, e3, h3⟩ := alloc (o := HO.dK []) nd
  rw [q3]
  walk_at "go"
  rename_i pT nT r nr pO nO q2 nq2
  obtain ⟨H4, g4, e4, h4⟩ := alloc (o := HO.lst [V.ref d]) nT
  rw [g4] at nr nO nq2 np ⊢
  obtain ⟨H5, g5, e5, h5⟩ := alloc (o := HO.tup []) nr
  rw [g5] at nO nq2 np ⊢
  obtain ⟨H6, g6, e6, h6⟩ := alloc (o := HO.lst [V.ref r]) nO
  rw [g6] at nq2 np ⊢
  obtain ⟨H7, g7, e7, h7⟩ := alloc (o := HO.tup [V.ref b, V.ref pT, V.ref pO]) nq2
  rw [g7] at np ⊢
  obtain ⟨H8, g8, e8, h8⟩ := alloc (o := HO.lst [V.ref Q1, V.ref q2]) np
  rw [g8]
  have e47 := e5.trans (e6.trans e7)
  have e37 := e4.trans e47
  have e27 := e3.trans e37
  have e07 := e1.trans (e2.trans e27)
  have ow : Own [] C_Book b dx t o pT pO ts os [d] [r] [[]] [[]] H7 := own_new (bk.same e27) (e47 _ _ h4) (e37 _ _ h3) (e7 _ _ h6) ((e6.trans e7) _ _ h5) ⟨(ne_of_none (e3 _ _ bk.tr) nT).symm, (ne_of_none (e3 _ _ bk.ol) nT).symm⟩ ⟨(ne_of_none ((e3.trans (e4.trans e5)) _ _ bk.tr) nO).symm, (ne_of_none ((e3.trans (e4.trans e5)) _ _ bk.ol) nO).symm⟩ (ne_of_none (e5 _ _ h4) nO)
  have oy : OwnX C_Book ⟨b, dx, t, o, pT, pO⟩ 60 92 H7 := ⟨[], ts, os, [d], [r], [[]], [[]], ow, by simp, by simp, by simp⟩
  have fT : H pT = none := e1.free (e2.free (e3.free nT))
  have fO : H pO = none := e1.free (e2.free (e3.free (e4.free (e5.free nO))))
  have s1 : ∀ z ∈ BB.four ⟨b, dx, t, o, pT, pO⟩, z ∉ x.four := fun z hz => by
    simp only [BB.four, List.mem_cons, List.mem_nil_iff, or_false] at hz
    rcases hz with e | e | e | e
    · rw [e]; exact ox.new (e1.free nt)
    · rw [e]; exact ox.new (e1.free no)
    · rw [e]; exact ox.new fT
    · rw [e]; exact ox.new fO
  have ox7 := ox.same e07
  have tw : Two C_Book x ⟨b, dx, t, o, pT, pO⟩ p Q1 q2 60 92 H8 := ⟨ox7.same e8, oy.same e8, s1, fun z hz hy => s1 z hy hz, h8, (e2.trans (e27.trans e8)) _ _ h1, e8 _ _ h7, ox7.new np, oy.new np⟩
  exact ⟨x, ⟨b, dx, t, o, pT, pO⟩, p, Q1, q2, a, ns, s, _, _, _, _, tw, na.same (e07.trans e8), hs, rfl, q⟩
def blk6L (C : Addr) (K : PySem.W.Frag) : TS := fun D σ H => ∃ (x : BB) (a : Addr) (ns : List Int) (s : Int), OwnX C x 60 2 H ∧ NA K a ns x H ∧ Bits 1048576 s ∧ σ = [some (.ref a), some (.int s), some (.ref x.b), some (.ref x.pT), some (.ref x.pO), none, none, none, none, none, none, none, none, none] ∧ ∀ H', D.rt (.bl true) H'
theorem oklaw_P6 (T : Txt K mg C_Book C_Clashed C_InTheWay C_NoClash C_NoFile C_NoPath C_NoVersion C_RoadError C_SameVersion) {f : Addr} {cdv : Value} {A : Around} {outer : List Env} {s : Shared} {H₀ : Hp} {E : XK} (hr : Room 8 (A.deeper (envOfC "law" (defScope s_law) s.heap.objs.size f cdv))) : PSs ((cxOf CX0 P w K mg base sl_law "law" (defScope s_law) f cdv A outer s H₀ E).nox) ((defBody s_law).drop 6) (blk6L C_Book K) := by
  have sc := sclaw
  have hu := hu_of hr
  refine PSs.weak (PSs.cv (by exact (pss_cons (ps_if (pt_cmpR op_eq (pe_op op_mod (pe_op op_fdiv (pv 1) pe_int) pe_int) pe_int (nomark _)) (pss_one (ps_for PassesOwn.never rfl (pi_range2 (by rfl) T.n_range (pa_cons (pe_op op_sub (pe_callB call_len_seq (by rfl) T.n_len (by decide +kernel) (pa_cons (pv 3) pa_nil)) pe_int) (pa_cons (pe_op op_add (pe_callB call_len_seq (by rfl) T.n_len (by decide +kernel) (pa_cons (pv 3) pa_nil)) pe_int) pa_nil))) (pg_name (i := 7) sc.nd rfl (Or.inl rfl)) (pss_cons (ps_expr (pe_bm PySem.F.plainAttrs_list PySem.F.slot_list_append PySem.F.type_list_append mt_append (pv 4) (pa_cons (pe_tup (pa_cons (pv 7) pa_nil)) pa_nil)))
      (pss_cons (ps_expr (pe_bm PySem.F.plainAttrs_list PySem.F.slot_list_append PySem.F.type_list_append mt_append (pv 3) (pa_cons (pe_ix ix_list (pv 3) (pv 7) (fun _ _ => rfl)) pa_nil)))
      (pss_one (ps_expr (pe_mcalS takes_none T.cl_Book (okBook_grow T) (hr.mono (by decide)) (pv 2) (pa_cons (pv 7) (pa_cons (pe_lst pa_nil) pa_nil))))))))) pss_nil)
      (oklaw_P7 T hr))) (by walk_at "cv")) (fun D σ H h => ?_)
  obtain ⟨x, a, ns, s, ox, na, hs, rfl, q⟩ := h
  have lkg := lk_meth x.t x.o (Str.ofString "grow") (by decide +kernel) (by decide +kernel)
  walk_at "go"
  refine if_join (fun σ' H' => OwnX C_Book x 60 92 H' ∧ NA K a ns x H' ∧ ∃ v7 : Option V, σ' = [some (.ref a), some (.int s), some (.ref x.b), some (.ref x.pT), some (.ref x.pO), none, none, v7, none, none, none, none, none, none]) ?_ (fun h N hj => ?_) fun h => ⟨ox.mono (Nat.le_refl _) (by decide), na, _, rfl⟩
  · rintro σ H' ⟨ox, na, v7, rfl⟩
    exact ⟨x, a, ns, s, v7, ox, na, hs, rfl, q⟩
  obtain ⟨U, ts, os, ms, rs, Gs, Ps, ow, lU, lG, hb⟩ := ox
  have hT := ow.hT
  have lm := ow.gs.length
  have pos := ow.pos
  walk_at "go"
  rw [List.length_map, lm]
  rw [show ((Gs.length : Int) + 89 - ((Gs.length : Int) - 1)).toNat = 90 by omega]
  refine ⟨⟨by omega, by omega, by omega, by omega⟩, ?_⟩
  refine for_it wR (fun i σ H' => (∃ (ts os ms rs : List Addr) (Gs2 : List Tr) (Ps : List (List Nat)), Own U C_Book x.b x.dx x.t x.o x.pT x.pO ts os ms rs Gs2 Ps H' ∧ Gs2.length = Gs.length + i) ∧ NA K a ns x H' ∧ ∃ v7 : Option V, σ = [some (.ref a), some (.int s), some (.ref x.b), some (.ref x.pT), some (.ref x.pO), none, none, v7, none, none, none, none, none, none])
    ⟨⟨ts, os, ms, rs, Gs, Ps, ow, rfl⟩, na, _, rfl⟩ (fun _ _ _ _ _ => trivial) ?_ ?_
  · rintro i v σ H0 H1 hi ⟨⟨ts, os, ms, rs, Gs2, Ps, ow, lG2⟩, na, v7, rfl⟩ ⟨rfl, hx⟩
    have ek : v = nV (Gs2.length - 1) := by
      have hi2 : i < 90 := hi
      rw [List.getElem?_map, List.getElem?_range hi2] at hx
      rw [← Option.some.inj hx]
      show V.int _ = V.int _
      congr 1
      omega
    subst ek
    have lm := ow.gs.length
    have lP := ow.bk.len
    have hk : Gs2.length - 1 < Gs2.length := by omega
    generalize ek : Gs2.length - 1 = k at hk hx ⊢
    have hT := ow.hT
    have hO := ow.ol.hL
    obtain ⟨m, hm, hG, hat, hGm⟩ := ow.at_ hk
    have bk := ow.bk
    walk_at "go"
    obtain ⟨H2, q2, e2, h2⟩ := alloc (o := HO.tup ([k].map nV)) np
    rw [show upd H1 p (HO.tup [V.int ((k : Nat) : Int)]) = H2 from q2]
    obtain ⟨R, hR⟩ : ∃ R, R = p := ⟨p, rfl⟩
    rw [← hR] at h2 ⊢
    have hO2 := e2 _ _ hO
    have hT2 := e2 _ _ hT
    refine ⟨x.pO, _, _, rfl, rfl, hO2, sl_lt (by rw [List.length_map]; have := ow.ol.ps.length; omega), ?_⟩
    obtain ⟨H3, q3⟩ : ∃ H3, upd H2 x.pO (.lst (rs.map V.ref ++ [V.ref R])) = H3 := ⟨_, rfl⟩
    rw [q3]
    have f3 : ∀ z w, z ≠ x.pO → H2 z = some w → H3 z = some w := fun z w h e => by rw [← q3, upd_ne h]; exact e
    have hO3 : H3 x.pO = some (.lst ((rs ++ [R]).map V.ref)) := by rw [← q3, upd_same, List.map_append]; rfl
    have hT3 := f3 _ _ ow.n3 hT2
    walk_at "go"
    refine ⟨_, _, _, _, rfl, rfl, SqL.of hT3, at_refs hm, ?_⟩
    walk_at "go"
    refine ⟨x.pT, _, _, rfl, rfl, hT3, sl_lt (by rw [List.length_map]; omega), ?_⟩
    obtain ⟨H4, q4⟩ : ∃ H4, upd H3 x.pT (.lst (ms.map V.ref ++ [V.ref m])) = H4 := ⟨_, rfl⟩
    rw [q4]
    have f4 : ∀ z w, z ≠ x.pT → H3 z = some w → H4 z = some w := fun z w h e => by rw [← q4, upd_ne h]; exact e
    have hT4 : H4 x.pT = some (.lst ((ms ++ [m]).map V.ref)) := by rw [← q4, upd_same, List.map_append]; rfl
    have hO4 := f4 _ _ ow.n3.symm hO3
    have f14 : ∀ z w, z ≠ x.pT → z ≠ x.pO → H1 z = some w → H4 z = some w := fun z w h1 h2 e => f4 _ _ h1 (f3 _ _ h2 (e2 _ _ e))
    have bk4 := BkAt.frN bk (H' := H4) (fun z w hn h => f14 z w (fun e => by rw [e, hT] at h; exact hn _ (Option.some.inj h).symm) (fun e => by rw [e, hO] at h; exact hn _ (Option.some.inj h).symm) h) ((f14 _ _ ow.n1.1.symm ow.n2.1.symm bk.tr).trans bk.tr.symm) ((f14 _ _ ow.n1.2.symm ow.n2.2.symm bk.ol).trans bk.ol.symm)
    walk_at "go"
    refine ⟨x.b, x.dx, _, rfl, bk4.ins, lkg, ?_⟩
    walk_at "go"
    obtain ⟨H5, q5, e5, h5⟩ := alloc (o := HO.lst []) np
    rw [q5]
    have bk5 := bk4.same e5
    refine ⟨x.b, x.dx, x.t, x.o, p, ts, os, [], Gs2, Ps, nV k, [], 1000, rfl, bk5, .inl (nV_int _), ⟨SqL.of h5, .nil⟩, (fun G hG => (ow.tr G hG).ok (by omega)), by simp, by omega, (fun e he => absurd he (by simp)), (fun n1 G en1 hG1 => ?_), fun h => no_okV h hk⟩
    have en1 := nV_inj en1
    subst en1
    have eG : treeOf Gs2 n1 = G := by rw [hG] at hG1; exact Option.some.inj hG1
    show ∀ x' y' H', _ → _ → _
    intro x' y' H6 s6 bk6
    have e25 : ∀ z w, z ≠ x.pT → z ≠ x.pO → z ≠ x.t → z ≠ x.o → H2 z = some w → H6 z = some w := fun z w h1 h2 h3 h4 e => s6 _ _ h3 h4 (e5 _ _ (f4 _ _ h1 (f3 _ _ h2 e)))
    have hT6 := s6 _ _ ow.n1.1 ow.n1.2 (e5 _ _ hT4)
    have hO6 := s6 _ _ ow.n2.1 ow.n2.2 (e5 _ _ hO4)
    have F : F4 x.t x.o x.pT x.pO H1 H6 := fun z w h1 h2 h3 h4 e => e25 z w h3 h4 h1 h2 (e2 _ _ e)
    have hnl : ∀ {z : Addr} {w : HO}, (∀ ys, w ≠ HO.lst ys) → H2 z = some w → H6 z = some w := fun {z w} hn e => e25 z w (fun q => by rw [q, hT2] at e; exact hn _ (Option.some.inj e).symm) (fun q => by rw [q, hO2] at e; exact hn _ (Option.some.inj e).symm) (fun q => by rw [q, e2 _ _ bk.tr] at e; exact hn _ (Option.some.inj e).symm) (fun q => by rw [q, e2 _ _ bk.ol] at e; exact hn _ (Option.some.inj e).symm) e
    have hm6 : AtD H6 m G := by rw [← eG]; exact hnl (w := .dK (kvs (treeOf Gs2 n1))) (fun ys z => by cases z) (e2 _ _ hat)
    have hr6 := hnl (fun ys z => by cases z) h2
    have ow6 := ow.push F bk6 hT6 hm6 hO6 hr6 (fun z hz => by rw [List.mem_singleton.mp hz]; omega) (by simp) (fun _ h => h) (by rw [← eG]; exact ow.tr _ hGm)
    exact ⟨⟨_, _, _, _, _, _, ow6, by rw [List.length_append, lG2]; rfl⟩, na.turn F, _, rfl⟩
  rintro σ H1 ⟨⟨ts, os, ms, rs, Gs2, Ps, ow, lG2⟩, na, v7, rfl⟩
  exact hj _ _ ⟨⟨U, ts, os, ms, rs, Gs2, Ps, ow, lU, by omega, hb⟩, na, _, rfl⟩
def blk5L (C : Addr) (K : PySem.W.Frag) : TS := fun D σ H => ∃ (x : BB) (ts os : List Addr) (d r a : Addr) (ns : List Int) (s : Int), Own [] C x.b x.dx x.t x.o x.pT x.pO ts os [d] [r] [[]] [[]] H ∧ NA K a ns x H ∧ Bits 1048576 s ∧ σ = [some (.ref a), some (.int s), some (.ref x.b), some (.ref x.pT), some (.ref x.pO), none, none, none, none, none, none, none, none, none] ∧ ∀ H', D.rt (.bl true) H'
theorem oklaw_P5 (T : Txt K mg C_Book C_Clashed C_InTheWay C_NoClash C_NoFile C_NoPath C_NoVersion C_RoadError C_SameVersion) {f : Addr} {cdv : Value} {A : Around} {outer : List Env} {s : Shared} {H₀ : Hp} {E : XK} (hr : Room 8 (A.deeper (envOfC "law" (defScope s_law) s.heap.objs.size f cdv))) : PSs ((cxOf CX0 P w K mg base sl_law "law" (defScope s_law) f cdv A outer s H₀ E).nox) ((defBody s_law).drop 5) (blk5L C_Book K) := by
  have sc := sclaw
  have hu := hu_of hr
  refine PSs.weak (PSs.cv (by exact (pss_cons (ps_if (pt_cmpR op_eq (pe_op op_mod (pe_op op_fdiv (pv 1) pe_int) pe_int) pe_int (nomark _)) (pss_cons (ps_expr (pe_bm PySem.F.plainAttrs_list PySem.F.slot_list_append PySem.F.type_list_append mt_append (pv 3) (pa_cons (pe_callTy (call_dictP rfl) (by rfl) T.n_dict (by decide +kernel) (pa_cons (pe_lc (own := [("_law_j", 5)]) (g := gName 5) rfl sc.nd (pi_range1 (by rfl) T.n_range (pa_cons pe_int pa_nil)) (blkOk_by (N := sl_law) (sc := defScope s_law) (by decide +kernel)) (fun _ _ _ _ _ => (pg_name (i := 5) sc.nd rfl (by first | exact Or.inl rfl | exact Or.inr rfl))) (fun _ _ _ _ _ => pts_nil) (fun _ _ _ _ _ => PE.cv (by exact (pe_tup (pa_cons (pe_op op_add_str (pe_op op_add_str pe_str (pe_callTy call_str_int (by rfl) T.n_str (by decide +kernel) (pa_cons (pv 5) pa_nil))) pe_str) (pa_cons (pe_calC (okL_line_by T) (hr.mono (by decide)) (by rfl) pass0 (pa_cons (pe_op op_mod (pv 5) pe_int) (pa_cons (pv 1) pa_nil))) pa_nil)))) (by walk_at "cv"))) pa_nil)) pa_nil)))
      (pss_cons (ps_expr (pe_bm PySem.F.plainAttrs_list PySem.F.slot_list_append PySem.F.type_list_append mt_append (pv 4) (pa_cons (pe_tup (pa_cons pe_int pa_nil)) pa_nil)))
      (pss_one (ps_if (pt_cmpR op_ne (pe_mcalS takes_none T.cl_Book (okBook_grow T) (hr.mono (by decide)) (pv 2) (pa_cons pe_int (pa_cons (pe_lock (pe_lc (own := [("_law_path", 6)]) (g := gName 6) rfl sc.nd (pi_keys (pe_ix ix_list (pv 3) pe_int (fun _ _ => rfl))) (blkOk_by (N := sl_law) (sc := defScope s_law) (by decide +kernel)) (fun _ _ _ _ _ => (pg_name (i := 6) sc.nd rfl (by first | exact Or.inl rfl | exact Or.inr rfl))) (fun _ _ _ _ _ => pts_nil) (fun _ _ _ _ _ => PE.cv (by exact (pe_tup (pa_cons pe_str (pa_cons (pv 6) (pa_cons (pe_dget hu (pe_ix ix_list (pv 3) pe_int (fun _ _ => rfl)) (pv 6) (fun _ _ => rfl)) pa_nil))))) (by walk_at "cv")))) pa_nil))) pe_int (nomark _)) (pss_one (ps_ret pe_bl)) pss_nil)))) pss_nil)
      (oklaw_P6 T hr))) (by walk_at "cv")) (fun D σ H h => ?_)
  obtain ⟨x, ts, os, d, r, a, ns, s, ow, na, hs, rfl, q⟩ := h
  have lkg := lk_meth x.t x.o (Str.ofString "grow") (by decide +kernel) (by decide +kernel)
  have bk := ow.bk
  have hT := ow.hT
  have hO := ow.ol.hL
  walk_at "go"
  refine if_join (fun σ' H' => OwnX C_Book x 60 2 H' ∧ NA K a ns x H' ∧ σ' = [some (.ref a), some (.int s), some (.ref x.b), some (.ref x.pT), some (.ref x.pO), none, none, none, none, none, none, none, none, none]) ?_ (fun h N hj => ?_) fun h => ⟨⟨[], ts, os, [d], [r], [[]], [[]], ow, by simp, by simp, by simp⟩, na, rfl⟩
  · rintro σ H' ⟨ox, na, rfl⟩
    exact ⟨x, a, ns, s, ox, na, hs, rfl, q⟩
  walk_at "go"
  intro D1 nD
  refine lcR (j := 5) wR (by rw [List.length_map, List.length_range]) (fun _ _ => trivial) nD (fun _ => true) (TopR D1) TopR.mono (by omega) (fun _ => rfl) (fun y H2 hy e2 Q2 k => ?_) (fun y H2 hy hp e2 hDs Q2 k => ?_) fun ys H2 hp e2 hD2 => ?_
  · exact k _ (Same.refl _)
  · obtain ⟨i, hi, rfl⟩ := List.mem_map.mp hy
    obtain ⟨acc, hacc⟩ := hDs
    have hi : i < 60 := List.mem_range.mp hi
    have tl := tops_len ⟨i, by omega⟩
    walk_at "go"
    refine ⟨log_small (by omega) (by omega), ?_⟩
    refine ⟨_, _, rfl, rfl, sl_of (Nat.le_trans tl (by decide)), ?_⟩
    walk_at "go"
    refine ⟨sl_of (by rw [len_app, show ("/x" : Str).length = 2 by decide +kernel]; simp only at tl; omega), ?_⟩
    walk_at "go"
    intro z H3 e3 lz
    walk_at "go"
    exact k _ _ (e3.trans (Same.new np)) ⟨p, i, z, rfl, rfl, (ne_of_none (e3 _ _ hacc) np).symm, upd_same⟩
  rw [List.filter_eq_self.mpr (fun _ _ => rfl)] at hp
  obtain ⟨qs, G, rfl, hrow, hk, hstr⟩ := TopR.row (K := K) hp
  have tt : TopT 60 G := ⟨hk, hstr⟩
  walk_at "go"
  refine ⟨_, qs, kvs G, rfl, SqL.of hD2, hrow, fun m nm => ?_⟩
  rw [tt.merge (by decide)]
  obtain ⟨H3, q3, e3, h3⟩ := alloc (o := HO.dK (kvs G)) nm
  rw [q3]
  have e13 := e2.trans e3
  have hT3 := e13 _ _ hT
  walk_at "go"
  refine ⟨x.pT, _, _, rfl, rfl, hT3, sl_lt (by simp), ?_⟩
  obtain ⟨H4, q4⟩ : ∃ H4, upd H3 x.pT (.lst ([d].map V.ref ++ [V.ref m])) = H4 := ⟨_, rfl⟩
  rw [q4]
  have f4 : ∀ z w, z ≠ x.pT → H3 z = some w → H4 z = some w := fun z w h e => by rw [← q4, upd_ne h]; exact e
  have hT4 : H4 x.pT = some (.lst ([d, m].map V.ref)) := by rw [← q4, upd_same]; rfl
  have hO4 := f4 _ _ ow.n3.symm (e13 _ _ hO)
  have hm4 : AtD H4 m G := f4 _ _ (fun e => by rw [e, hT3] at h3; cases h3) h3
  walk_at "go"
  obtain ⟨H5, q5, e5, h5⟩ := alloc (o := HO.tup [V.int 0]) np
  rw [q5]
  obtain ⟨R, hR⟩ : ∃ R, R = p := ⟨p, rfl⟩
  rw [← hR] at h5 ⊢
  have hO5 := e5 _ _ hO4
  refine ⟨x.pO, _, _, rfl, rfl, hO5, sl_lt (by simp), ?_⟩
  obtain ⟨H6, q6⟩ : ∃ H6, upd H5 x.pO (.lst ([r].map V.ref ++ [V.ref R])) = H6 := ⟨_, rfl⟩
  rw [q6]
  have f6 : ∀ z w, z ≠ x.pO → H5 z = some w → H6 z = some w := fun z w h e => by rw [← q6, upd_ne h]; exact e
  have hO6 : H6 x.pO = some (.lst ([r, R].map V.ref)) := by rw [← q6, upd_same]; rfl
  have hT6 := f6 _ _ ow.n3 (e5 _ _ hT4)
  have hm6 : AtD H6 m G := f6 _ _ (fun e => by have h := e5 _ _ hm4; rw [e, hO5] at h; cases h) (e5 _ _ hm4)
  have hR6 : H6 R = some (.tup ([0].map nV)) := f6 _ _ (fun e => by rw [e, hO5] at h5; cases h5) h5
  have f16 : ∀ z w, z ≠ x.pT → z ≠ x.pO → H z = some w → H6 z = some w := fun z w h1 h2 e => f6 _ _ h2 (e5 _ _ (f4 _ _ h1 (e13 _ _ e)))
  have bk6 := BkAt.frN bk (H' := H6) (fun z w hn h => f16 z w (fun e => by rw [e, hT] at h; exact hn _ (Option.some.inj h).symm) (fun e => by rw [e, hO] at h; exact hn _ (Option.some.inj h).symm) h) ((f16 _ _ ow.n1.1.symm ow.n2.1.symm bk.tr).trans bk.tr.symm) ((f16 _ _ ow.n1.2.symm ow.n2.2.symm bk.ol).trans bk.ol.symm)
  clear hp hrow hD2 nD
  walk_at "go"
  refine ⟨x.b, x.dx, _, rfl, bk6.ins, lkg, ?_⟩
  walk_at "go"
  refine ⟨m, _, hm6, trivial, fun od => ?_⟩
  have un : ∀ H', Same (upd H6 m (.frz od (.dK (kvs G)))) H' → Same H6 (upd H' m (.dK (kvs G))) := fun H' e => Same.unlock hm6 e
  have hL : upd H6 m (.frz od (.dK (kvs G))) m = some (.frz od (.dK (kvs G))) := upd_same
  have hTL : upd H6 m (.frz od (.dK (kvs G))) x.pT = some (.lst ([d, m].map V.ref)) := (upd_ne (fun e => by have h : H6 m = some (.dK (kvs G)) := hm6; rw [← e, hT6] at h; cases h)).trans hT6
  generalize upd H6 m (.frz od (.dK (kvs G))) = HL at un hL hTL ⊢
  have okG := (tt.tree (by decide)).ok (n := 100) (by rw [tt.len]; decide)
  walk_at "go"
  refine ⟨_, _, _, _, rfl, rfl, SqL.of hTL, by rfl, ?_⟩
  walk_at "go"
  refine ⟨m, od, rfl, .inl ⟨kvs G, hL, ?_⟩⟩
  intro D2 nD2
  refine lcR (j := 6) wK (by rw [List.length_map]) (fun H' e => e _ _ hL) nD2 (fun _ => true) (TupAt D2 fun x => (["put", sV x, txt G (sV x)] : List Str)) TupAt.mono (by rw [kvs_len]; have := okG.len; omega) (fun _ => rfl) (fun y H7 hy e7 Q2 k => ?_) (fun y H7 hy hp e7 hDs Q2 k => ?_) fun ys H7 hp e7 hD7 => ?_
  · exact k _ (Same.refl _)
  · rw [kvs_keys] at hy
    obtain ⟨z, hz, rfl⟩ := List.mem_map.mp hy
    obtain ⟨acc, hacc⟩ := hDs
    have hT7 := e7 _ _ hTL
    have hm7 : RdD H7 m G := .inr ⟨od, e7 _ _ hL⟩
    walk_at "go"
    refine ⟨_, _, _, _, rfl, rfl, SqL.of hT7, by rfl, ?_⟩
    walk_at "go"
    refine ⟨_, _, rfl, hm7.getS (okG.val hz), ?_⟩
    walk_at "go"
    exact k _ _ (Same.new np) ⟨p, rfl, (ne_of_none hacc np).symm, upd_same⟩
  obtain ⟨rs2, rfl, hts⟩ := TsAt.of hp
  rw [List.filter_eq_self.mpr (fun _ _ => rfl), kvs_keys, List.map_map, show ((fun x => (["put", sV x, txt G (sV x)] : List Str)) ∘ V.str) = fun p : Str => (["put", p, txt G p] : List Str) from rfl] at hts
  have hts : TsAt H7 rs2 ((G.map dOf).map Deed.strs) := by rw [← tt.deeds (by decide), List.map_map]; exact hts
  have e68 := un _ e7
  have hm7 := e7 _ _ hL
  have nDm : D2 ≠ m := (ne_of_none hL nD2).symm
  obtain ⟨H8, q8⟩ : ∃ H8, upd H7 m (.dK (kvs G)) = H8 := ⟨_, rfl⟩
  have hD8 : H8 D2 = some (.lst (rs2.map V.ref)) := by rw [← q8, upd_ne nDm]; exact hD7
  have hts8 : TsAt H8 rs2 ((G.map dOf).map Deed.strs) := by rw [← q8]; exact hts.upd (hts.notO hm7 fun xs e => by cases e)
  refine ⟨hm7, ?_⟩
  rw [q8] at e68 ⊢
  have bk8 := bk6.same e68
  have lD : (G.map dOf).length = 60 := by rw [List.length_map, ← List.length_map (f := (·.1))]; exact tt.len
  walk_at "go"
  refine ⟨x.b, x.dx, x.t, x.o, D2, ts, os, rs2, [[]], [[]], nV 0, G.map dOf, 1000, rfl, bk8, .inl ⟨_, rfl⟩, ⟨SqL.of hD8, hts8⟩, (fun Z hZ => by rw [List.mem_singleton.mp hZ]; exact (Tree0.nil (U := [])).ok (by simp)), by omega, by simp, (fun e he => ?_), (fun n1 G1 en1 hG1 => ?_), fun h => no_okV (N := 1) h (by decide)⟩
  · obtain ⟨y, hy, rfl⟩ := List.mem_map.mp he
    exact Nat.le_trans (path_len ((tt.tree (by decide)).path y.1 (List.mem_map_of_mem hy))) (by decide)
  have en1 := nV_inj en1
  subst en1
  have eG : ([] : Tr) = G1 := Option.some.inj hG1
  subst eG
  rw [tt.fold (by decide)]
  intro x' y' H9 s9 bk9
  have hm8 : H8 m = some (.dK (kvs G)) := e68 _ _ hm6
  have hR8 := e68 _ _ hR6
  have hT9 := s9 _ _ ow.n1.1 ow.n1.2 (e68 _ _ hT6)
  have hO9 := s9 _ _ ow.n2.1 ow.n2.2 (e68 _ _ hO6)
  have hm9 : AtD H9 m G := s9 _ _ (fun e => by rw [e, bk8.tr] at hm8; cases hm8) (fun e => by rw [e, bk8.ol] at hm8; cases hm8) hm8
  have hR9 := s9 _ _ (fun e => by rw [e, bk8.tr] at hR8; cases hR8) (fun e => by rw [e, bk8.ol] at hR8; cases hR8) hR8
  have F : F4 x.t x.o x.pT x.pO H H9 := fun z w h1 h2 h3 h4 e => s9 _ _ h1 h2 (e68 _ _ (f16 _ _ h3 h4 e))
  have ow9 := ow.push (m := m) (r := R) (U2 := keys G) F bk9 hT9 hm9 hO9 hR9 (fun z hz => by rw [List.mem_singleton.mp hz]; decide) (by simp) (fun _ h => absurd h (by simp)) (tt.tree (by decide))
  have fin := hj _ H9 ⟨⟨keys G, _, _, _, _, _, _, ow9, by rw [tt.len]; decide, by simp, tt.bad (by decide)⟩, na.turn F, rfl⟩
  clear ow9 F hT9 hO9 hm9 hR9
  walk_at "go"
  exact fin
theorem oklaw (T : Txt K mg C_Book C_Clashed C_InTheWay C_NoClash C_NoFile C_NoPath C_NoVersion C_RoadError C_SameVersion) : Cal P w K mg base CX0 9 "law" ps_law (spLaw K) := by
  have sc := sclaw
  refine T.d_law.ok sc (by walk_at "len") (fun f cdv A outer s H vs Q E hr h => ?_)
  have hu := hu_of hr
  obtain ⟨a, ns, rfl, ha, hns, hb, q⟩ := h
  refine ⟨_, PSs.cv (by exact (pss_cons (ps_set (i := 1) sc.nd rfl (Or.inr rfl) pe_int)
      (pss_cons (ps_if (pt_cmpR op_gt (pe_callB call_len_seq (by rfl) T.n_len (by decide +kernel) (pa_cons (pv 0) pa_nil)) pe_int (nomark _)) (pss_one (ps_set (i := 1) sc.nd rfl (Or.inr rfl) (pe_ix ix_list (pv 0) pe_int (fun _ _ => rfl)))) pss_nil)
      (pss_cons (ps_set (i := 2) sc.nd rfl (Or.inl rfl) (pe_makeB T.mk_Book (okBook___init__ T) (hr.mono (by decide)) (by rfl) T.g_Book pass0))
      (pss_cons (ps_set (i := 3) sc.nd rfl (Or.inr rfl) (pe_lst (pa_cons pe_dnewK pa_nil)))
      (pss_cons (ps_set (i := 4) sc.nd rfl (Or.inl rfl) (pe_lst (pa_cons (pe_tup pa_nil) pa_nil)))
      (oklaw_P5 T hr))))))) (by walk_at "cv"), ?_⟩
  walk_at "go"
  refine if_join (fun σ' H' => H' = H ∧ ∃ s : Int, Bits 1048576 s ∧ σ' = [some (.ref a), some (.int s), none, none, none, none, none, none, none, none, none, none, none, none]) ?_ (fun h N hj => ?_) fun h => ⟨rfl, 0, (Bits.small (by decide) (by decide)).mono (by decide), rfl⟩
  rotate_left
  · rw [List.length_map] at h
    have h0 : 0 < ns.length := by omega
    walk_at "go"
    refine ⟨_, _, _, _, rfl, rfl, ha, (show atI _ ((0 : Nat) : Int) = some (.int (ns[0]'h0)) from atI_nat (by rw [List.getElem?_map, List.getElem?_eq_getElem h0]; rfl)), ?_⟩
    exact hj _ _ ⟨rfl, _, hb _ (List.getElem_mem h0), rfl⟩
  rintro σ H' ⟨rfl, s, hs, rfl⟩
  walk_at "go"
  show ∀ x dx, H' x = none → H' dx = none → dx ≠ x → _
  intro b dx nb ndx nbd
  refine ⟨b, dx, rfl, upd_same, fun t o ts os H2 nt no nto fr bk => ⟨rfl, ?_⟩⟩
  obtain ⟨e2, nt, no⟩ := made_same nb ndx nt no fr
  clear fr
  walk_at "go"
  intro d nd
  obtain ⟨H3, q3, e3, h3⟩ := alloc (o := HO.dK []) nd
  rw [q3]
  walk_at "go"
  rename_i pT nT r nr
  obtain ⟨H4, g4, e4, h4⟩ := alloc (o := HO.lst [V.ref d]) nT
  rw [g4] at nr np ⊢
  obtain ⟨H5, g5, e5, h5⟩ := alloc (o := HO.tup []) nr
  rw [g5] at np ⊢
  obtain ⟨H6, g6, e6, h6⟩ := alloc (o := HO.lst [V.ref r]) np
  rw [g6]
  have e36 := e4.trans (e5.trans e6)
  have e26 := e3.trans e36
  have ow : Own [] C_Book b dx t o pT p ts os [d] [r] [[]] [[]] H6 := own_new (bk.same e26) ((e5.trans e6) _ _ h4) (e36 _ _ h3) h6 (e6 _ _ h5) ⟨(ne_of_none (e3 _ _ bk.tr) nT).symm, (ne_of_none (e3 _ _ bk.ol) nT).symm⟩ ⟨(ne_of_none ((e3.trans (e4.trans e5)) _ _ bk.tr) np).symm, (ne_of_none ((e3.trans (e4.trans e5)) _ _ bk.ol) np).symm⟩ (ne_of_none (e5 _ _ h4) np)
  have fT : H' pT = none := e2.free (e3.free nT)
  have fO : H' p = none := e2.free (e3.free (e4.free (e5.free np)))
  have na : NA K a ns ⟨b, dx, t, o, pT, p⟩ H6 := by
    refine ⟨hb, (e2.trans e26).seq ha, ?_⟩
    have hw : ∀ w, H' a = some w → a ∉ BB.four ⟨b, dx, t, o, pT, p⟩ := fun w h hm => by
      simp only [BB.four, List.mem_cons, List.mem_nil_iff, or_false] at hm
      rcases hm with e | e | e | e
      · rw [e, nt] at h; cases h
      · rw [e, no] at h; cases h
      · rw [e, fT] at h; cases h
      · rw [e, fO] at h; cases h
    rcases ha with (h | ⟨u, h⟩) | h
    · exact .inl (hw _ h)
    · exact .inl (hw _ h)
    · exact .inr fun H' => .inr h
  exact ⟨⟨b, dx, t, o, pT, p⟩, ts, os, d, r, a, ns, s, ow, na, hs, rfl, q⟩
end
end T
namespace T
open PySem L2 M
theorem all_mk {P : Program} {w : World} {K : PySem.W.Frag} {h : Heap} {mg : Str → Option Value} {fa f0 f1 f2 f3 f4 f5 f6 f7 f8 f9 f10 f11 f12 f13 f14 f15 f16 f17 f18 f19 f20 f21 f22 f23 f24 f25 f26 f27 f28 f29 f30 f31 f32 f33 f34 f35 f36 f37 f38 C_Book C_Clashed C_InTheWay C_NoClash C_NoFile C_NoPath C_NoVersion C_RoadError C_SameVersion : Addr} (X : K.In h) (G : h.Ns mainGlobals mg) (hfa : mg "law" = some (.ref fa))
    {od0 an0 : Option Addr} {sl0 : Array (Option Value)} {oc0 kV0 dc0 pm0 cd0 ct0 : Value}
    (a0 : PySem.W.nsIn K mainGlobals "_law_sign_by" = some (some (.ref f0)))
    (l0 : K.lookup f0 = some ⟨oc0, od0, .func (PySem.W.fnOf "_law_sign_by" "_law_sign_by" (defArgs s_L_sign_by) (defBody s_L_sign_by) (defScope s_L_sign_by) .none kV0 dc0 pm0 an0 cd0 ct0), sl0⟩)
    (c0 : PySem.W.codeIn K cd0 "_law_sign_by" = true) (k0 : PySem.W.keepIn K (.ref f0) = true)
    {od1 an1 : Option Addr} {sl1 : Array (Option Value)} {oc1 kV1 dc1 pm1 cd1 ct1 : Value}
    (a1 : PySem.W.nsIn K mainGlobals "is_part" = some (some (.ref f1)))
    (l1 : K.lookup f1 = some ⟨oc1, od1, .func (PySem.W.fnOf "is_part" "is_part" (defArgs s_is_part) (defBody s_is_part) (defScope s_is_part) .none kV1 dc1 pm1 an1 cd1 ct1), sl1⟩)
    (c1 : PySem.W.codeIn K cd1 "is_part" = true) (k1 : PySem.W.keepIn K (.ref f1) = true)
    {od2 an2 : Option Addr} {sl2 : Array (Option Value)} {oc2 kV2 dc2 pm2 cd2 ct2 : Value}
    (a2 : PySem.W.nsIn K mainGlobals "is_path" = some (some (.ref f2)))
    (l2 : K.lookup f2 = some ⟨oc2, od2, .func (PySem.W.fnOf "is_path" "is_path" (defArgs s_is_path) (defBody s_is_path) (defScope s_is_path) .none kV2 dc2 pm2 an2 cd2 ct2), sl2⟩)
    (c2 : PySem.W.codeIn K cd2 "is_path" = true) (k2 : PySem.W.keepIn K (.ref f2) = true)
    {od3 an3 : Option Addr} {sl3 : Array (Option Value)} {oc3 kV3 dc3 pm3 cd3 ct3 : Value}
    (a3 : PySem.W.nsIn K mainGlobals "above" = some (some (.ref f3)))
    (l3 : K.lookup f3 = some ⟨oc3, od3, .func (PySem.W.fnOf "above" "above" (defArgs s_above) (defBody s_above) (defScope s_above) .none kV3 dc3 pm3 an3 cd3 ct3), sl3⟩)
    (c3 : PySem.W.codeIn K cd3 "above" = true) (k3 : PySem.W.keepIn K (.ref f3) = true)
    {od4 an4 : Option Addr} {sl4 : Array (Option Value)} {oc4 kV4 dc4 pm4 cd4 ct4 : Value}
    (a4 : PySem.W.nsIn K mainGlobals "_law_name_by" = some (some (.ref f4)))
    (l4 : K.lookup f4 = some ⟨oc4, od4, .func (PySem.W.fnOf "_law_name_by" "_law_name_by" (defArgs s_L_name_by) (defBody s_L_name_by) (defScope s_L_name_by) .none kV4 dc4 pm4 an4 cd4 ct4), sl4⟩)
    (c4 : PySem.W.codeIn K cd4 "_law_name_by" = true) (k4 : PySem.W.keepIn K (.ref f4) = true)
    {od5 an5 : Option Addr} {sl5 : Array (Option Value)} {oc5 kV5 dc5 pm5 cd5 ct5 : Value}
    (a5 : PySem.W.nsIn K mainGlobals "_law_path_by" = some (some (.ref f5)))
    (l5 : K.lookup f5 = some ⟨oc5, od5, .func (PySem.W.fnOf "_law_path_by" "_law_path_by" (defArgs s_L_path_by) (defBody s_L_path_by) (defScope s_L_path_by) .none kV5 dc5 pm5 an5 cd5 ct5), sl5⟩)
    (c5 : PySem.W.codeIn K cd5 "_law_path_by" = true) (k5 : PySem.W.keepIn K (.ref f5) = true)
    {od6 an6 : Option Addr} {sl6 : Array (Option Value)} {oc6 kV6 dc6 pm6 cd6 ct6 : Value}
    (a6 : PySem.W.nsIn K mainGlobals "_law_line_by" = some (some (.ref f6)))
    (l6 : K.lookup f6 = some ⟨oc6, od6, .func (PySem.W.fnOf "_law_line_by" "_law_line_by" (defArgs s_L_line_by) (defBody s_L_line_by) (defScope s_L_line_by) .none kV6 dc6 pm6 an6 cd6 ct6), sl6⟩)
    (c6 : PySem.W.codeIn K cd6 "_law_line_by" = true) (k6 : PySem.W.keepIn K (.ref f6) = true)
    {od7 an7 : Option Addr} {sl7 : Array (Option Value)} {oc7 kV7 dc7 pm7 cd7 ct7 : Value}
    (a7 : PySem.W.nsIn K mainGlobals "_law_is_free" = some (some (.ref f7)))
    (l7 : K.lookup f7 = some ⟨oc7, od7, .func (PySem.W.fnOf "_law_is_free" "_law_is_free" (defArgs s_L_is_free) (defBody s_L_is_free) (defScope s_L_is_free) .none kV7 dc7 pm7 an7 cd7 ct7), sl7⟩)
    (c7 : PySem.W.codeIn K cd7 "_law_is_free" = true) (k7 : PySem.W.keepIn K (.ref f7) = true)
    {od8 an8 : Option Addr} {sl8 : Array (Option Value)} {oc8 kV8 dc8 pm8 cd8 ct8 : Value}
    (a8 : PySem.W.nsIn K mainGlobals "is_tree" = some (some (.ref f8)))
    (l8 : K.lookup f8 = some ⟨oc8, od8, .func (PySem.W.fnOf "is_tree" "is_tree" (defArgs s_is_tree) (defBody s_is_tree) (defScope s_is_tree) .none kV8 dc8 pm8 an8 cd8 ct8), sl8⟩)
    (c8 : PySem.W.codeIn K cd8 "is_tree" = true) (k8 : PySem.W.keepIn K (.ref f8) = true)
    {od9 an9 : Option Addr} {sl9 : Array (Option Value)} {oc9 kV9 dc9 pm9 cd9 ct9 : Value}
    (a9 : PySem.W.nsIn K mainGlobals "is_beneath" = some (some (.ref f9)))
    (l9 : K.lookup f9 = some ⟨oc9, od9, .func (PySem.W.fnOf "is_beneath" "is_beneath" (defArgs s_is_beneath) (defBody s_is_beneath) (defScope s_is_beneath) .none kV9 dc9 pm9 an9 cd9 ct9), sl9⟩)
    (c9 : PySem.W.codeIn K cd9 "is_beneath" = true) (k9 : PySem.W.keepIn K (.ref f9) = true)
    {od10 an10 : Option Addr} {sl10 : Array (Option Value)} {oc10 kV10 dc10 pm10 cd10 ct10 : Value}
    (a10 : PySem.W.nsIn K mainGlobals "is_hindered" = some (some (.ref f10)))
    (l10 : K.lookup f10 = some ⟨oc10, od10, .func (PySem.W.fnOf "is_hindered" "is_hindered" (defArgs s_is_hindered) (defBody s_is_hindered) (defScope s_is_hindered) .none kV10 dc10 pm10 an10 cd10 ct10), sl10⟩)
    (c10 : PySem.W.codeIn K cd10 "is_hindered" = true) (k10 : PySem.W.keepIn K (.ref f10) = true)
    {od11 an11 : Option Addr} {sl11 : Array (Option Value)} {oc11 kV11 dc11 pm11 cd11 ct11 : Value}
    (a11 : PySem.W.nsIn K mainGlobals "done" = some (some (.ref f11)))
    (l11 : K.lookup f11 = some ⟨oc11, od11, .func (PySem.W.fnOf "done" "done" (defArgs s_done) (defBody s_done) (defScope s_done) .none kV11 dc11 pm11 an11 cd11 ct11), sl11⟩)
    (c11 : PySem.W.codeIn K cd11 "done" = true) (k11 : PySem.W.keepIn K (.ref f11) = true)
    {od12 an12 : Option Addr} {sl12 : Array (Option Value)} {oc12 kV12 dc12 pm12 cd12 ct12 : Value}
    (a12 : PySem.W.nsIn K mainGlobals "changed" = some (some (.ref f12)))
    (l12 : K.lookup f12 = some ⟨oc12, od12, .func (PySem.W.fnOf "changed" "changed" (defArgs s_changed) (defBody s_changed) (defScope s_changed) .none kV12 dc12 pm12 an12 cd12 ct12), sl12⟩)
    (c12 : PySem.W.codeIn K cd12 "changed" = true) (k12 : PySem.W.keepIn K (.ref f12) = true)
    {od13 an13 : Option Addr} {sl13 : Array (Option Value)} {oc13 kV13 dc13 pm13 cd13 ct13 : Value}
    (a13 : PySem.W.nsIn K mainGlobals "_law_word_of" = some (some (.ref f13)))
    (l13 : K.lookup f13 = some ⟨oc13, od13, .func (PySem.W.fnOf "_law_word_of" "_law_word_of" (defArgs s_L_word_of) (defBody s_L_word_of) (defScope s_L_word_of) .none kV13 dc13 pm13 an13 cd13 ct13), sl13⟩)
    (c13 : PySem.W.codeIn K cd13 "_law_word_of" = true) (k13 : PySem.W.keepIn K (.ref f13) = true)
    {od14 an14 : Option Addr} {sl14 : Array (Option Value)} {oc14 kV14 dc14 pm14 cd14 ct14 : Value}
    (a14 : PySem.W.nsIn K mainGlobals "_law_deeds_by" = some (some (.ref f14)))
    (l14 : K.lookup f14 = some ⟨oc14, od14, .func (PySem.W.fnOf "_law_deeds_by" "_law_deeds_by" (defArgs s_L_deeds_by) (defBody s_L_deeds_by) (defScope s_L_deeds_by) .none kV14 dc14 pm14 an14 cd14 ct14), sl14⟩)
    (c14 : PySem.W.codeIn K cd14 "_law_deeds_by" = true) (k14 : PySem.W.keepIn K (.ref f14) = true)
    {od15 an15 : Option Addr} {sl15 : Array (Option Value)} {oc15 kV15 dc15 pm15 cd15 ct15 : Value}
    (a15 : PySem.W.nsIn K mainGlobals "all_paths" = some (some (.ref f15)))
    (l15 : K.lookup f15 = some ⟨oc15, od15, .func (PySem.W.fnOf "all_paths" "all_paths" (defArgs s_all_paths) (defBody s_all_paths) (defScope s_all_paths) .none kV15 dc15 pm15 an15 cd15 ct15), sl15⟩)
    (c15 : PySem.W.codeIn K cd15 "all_paths" = true) (k15 : PySem.W.keepIn K (.ref f15) = true)
    {od16 an16 : Option Addr} {sl16 : Array (Option Value)} {oc16 kV16 dc16 pm16 cd16 ct16 : Value}
    (a16 : PySem.W.nsIn K mainGlobals "mark" = some (some (.ref f16)))
    (l16 : K.lookup f16 = some ⟨oc16, od16, .func (PySem.W.fnOf "mark" "mark" (defArgs s_mark) (defBody s_mark) (defScope s_mark) .none kV16 dc16 pm16 an16 cd16 ct16), sl16⟩)
    (c16 : PySem.W.codeIn K cd16 "mark" = true) (k16 : PySem.W.keepIn K (.ref f16) = true)
    {od17 an17 : Option Addr} {sl17 : Array (Option Value)} {oc17 kV17 dc17 pm17 cd17 ct17 : Value}
    (a17 : PySem.W.nsIn K mainGlobals "put_together" = some (some (.ref f17)))
    (l17 : K.lookup f17 = some ⟨oc17, od17, .func (PySem.W.fnOf "put_together" "put_together" (defArgs s_put_together) (defBody s_put_together) (defScope s_put_together) .none kV17 dc17 pm17 an17 cd17 ct17), sl17⟩)
    (c17 : PySem.W.codeIn K cd17 "put_together" = true) (k17 : PySem.W.keepIn K (.ref f17) = true)
    {od18 an18 : Option Addr} {sl18 : Array (Option Value)} {oc18 kV18 dc18 pm18 cd18 ct18 : Value}
    (a18 : PySem.W.nsIn K mainGlobals "clashes" = some (some (.ref f18)))
    (l18 : K.lookup f18 = some ⟨oc18, od18, .func (PySem.W.fnOf "clashes" "clashes" (defArgs s_clashes) (defBody s_clashes) (defScope s_clashes) .none kV18 dc18 pm18 an18 cd18 ct18), sl18⟩)
    (c18 : PySem.W.codeIn K cd18 "clashes" = true) (k18 : PySem.W.keepIn K (.ref f18) = true)
    {od19 an19 : Option Addr} {sl19 : Array (Option Value)} {oc19 kV19 dc19 pm19 cd19 ct19 : Value}
    (a19 : PySem.W.nsIn K mainGlobals "joined" = some (some (.ref f19)))
    (l19 : K.lookup f19 = some ⟨oc19, od19, .func (PySem.W.fnOf "joined" "joined" (defArgs s_joined) (defBody s_joined) (defScope s_joined) .none kV19 dc19 pm19 an19 cd19 ct19), sl19⟩)
    (c19 : PySem.W.codeIn K cd19 "joined" = true) (k19 : PySem.W.keepIn K (.ref f19) = true)
    {od20 an20 : Option Addr} {sl20 : Array (Option Value)} {oc20 kV20 dc20 pm20 cd20 ct20 : Value}
    (a20 : PySem.W.findIn K (.ref C_Book) "__init__" = some (some (.ref f20)))
    (i20 : PySem.W.isFn K (.ref f20) = true)
    (l20 : K.lookup f20 = some ⟨oc20, od20, .func (PySem.W.fnOf "__init__" "Book.__init__" (defArgs s_Book___init__) (defBody s_Book___init__) (defScope s_Book___init__) .none kV20 dc20 pm20 an20 cd20 ct20), sl20⟩)
    (c20 : PySem.W.codeIn K cd20 "Book.__init__" = true) (k20 : PySem.W.keepIn K (.ref f20) = true)
    {od21 an21 : Option Addr} {sl21 : Array (Option Value)} {oc21 kV21 dc21 pm21 cd21 ct21 : Value}
    (a21 : PySem.W.findIn K (.ref C_Book) "many" = some (some (.ref f21)))
    (i21 : PySem.W.isFn K (.ref f21) = true)
    (l21 : K.lookup f21 = some ⟨oc21, od21, .func (PySem.W.fnOf "many" "Book.many" (defArgs s_Book_many) (defBody s_Book_many) (defScope s_Book_many) .none kV21 dc21 pm21 an21 cd21 ct21), sl21⟩)
    (c21 : PySem.W.codeIn K cd21 "Book.many" = true) (k21 : PySem.W.keepIn K (.ref f21) = true)
    {od22 an22 : Option Addr} {sl22 : Array (Option Value)} {oc22 kV22 dc22 pm22 cd22 ct22 : Value}
    (a22 : PySem.W.findIn K (.ref C_Book) "need" = some (some (.ref f22)))
    (i22 : PySem.W.isFn K (.ref f22) = true)
    (l22 : K.lookup f22 = some ⟨oc22, od22, .func (PySem.W.fnOf "need" "Book.need" (defArgs s_Book_need) (defBody s_Book_need) (defScope s_Book_need) .none kV22 dc22 pm22 an22 cd22 ct22), sl22⟩)
    (c22 : PySem.W.codeIn K cd22 "Book.need" = true) (k22 : PySem.W.keepIn K (.ref f22) = true)
    {od23 an23 : Option Addr} {sl23 : Array (Option Value)} {oc23 kV23 dc23 pm23 cd23 ct23 : Value}
    (a23 : PySem.W.findIn K (.ref C_Book) "parents" = some (some (.ref f23)))
    (i23 : PySem.W.isFn K (.ref f23) = true)
    (l23 : K.lookup f23 = some ⟨oc23, od23, .func (PySem.W.fnOf "parents" "Book.parents" (defArgs s_Book_parents) (defBody s_Book_parents) (defScope s_Book_parents) .none kV23 dc23 pm23 an23 cd23 ct23), sl23⟩)
    (c23 : PySem.W.codeIn K cd23 "Book.parents" = true) (k23 : PySem.W.keepIn K (.ref f23) = true)
    {od24 an24 : Option Addr} {sl24 : Array (Option Value)} {oc24 kV24 dc24 pm24 cd24 ct24 : Value}
    (a24 : PySem.W.findIn K (.ref C_Book) "made" = some (some (.ref f24)))
    (i24 : PySem.W.isFn K (.ref f24) = true)
    (l24 : K.lookup f24 = some ⟨oc24, od24, .func (PySem.W.fnOf "made" "Book.made" (defArgs s_Book_made) (defBody s_Book_made) (defScope s_Book_made) .none kV24 dc24 pm24 an24 cd24 ct24), sl24⟩)
    (c24 : PySem.W.codeIn K cd24 "Book.made" = true) (k24 : PySem.W.keepIn K (.ref f24) = true)
    {od25 an25 : Option Addr} {sl25 : Array (Option Value)} {oc25 kV25 dc25 pm25 cd25 ct25 : Value}
    (a25 : PySem.W.findIn K (.ref C_Book) "elders" = some (some (.ref f25)))
    (i25 : PySem.W.isFn K (.ref f25) = true)
    (l25 : K.lookup f25 = some ⟨oc25, od25, .func (PySem.W.fnOf "elders" "Book.elders" (defArgs s_Book_elders) (defBody s_Book_elders) (defScope s_Book_elders) .none kV25 dc25 pm25 an25 cd25 ct25), sl25⟩)
    (c25 : PySem.W.codeIn K cd25 "Book.elders" = true) (k25 : PySem.W.keepIn K (.ref f25) = true)
    {od26 an26 : Option Addr} {sl26 : Array (Option Value)} {oc26 kV26 dc26 pm26 cd26 ct26 : Value}
    (a26 : PySem.W.findIn K (.ref C_Book) "nearest" = some (some (.ref f26)))
    (i26 : PySem.W.isFn K (.ref f26) = true)
    (l26 : K.lookup f26 = some ⟨oc26, od26, .func (PySem.W.fnOf "nearest" "Book.nearest" (defArgs s_Book_nearest) (defBody s_Book_nearest) (defScope s_Book_nearest) .none kV26 dc26 pm26 an26 cd26 ct26), sl26⟩)
    (c26 : PySem.W.codeIn K cd26 "Book.nearest" = true) (k26 : PySem.W.keepIn K (.ref f26) = true)
    {od27 an27 : Option Addr} {sl27 : Array (Option Value)} {oc27 kV27 dc27 pm27 cd27 ct27 : Value}
    (a27 : PySem.W.findIn K (.ref C_Book) "grow" = some (some (.ref f27)))
    (i27 : PySem.W.isFn K (.ref f27) = true)
    (l27 : K.lookup f27 = some ⟨oc27, od27, .func (PySem.W.fnOf "grow" "Book.grow" (defArgs s_Book_grow) (defBody s_Book_grow) (defScope s_Book_grow) .none kV27 dc27 pm27 an27 cd27 ct27), sl27⟩)
    (c27 : PySem.W.codeIn K cd27 "Book.grow" = true) (k27 : PySem.W.keepIn K (.ref f27) = true)
    {od28 an28 : Option Addr} {sl28 : Array (Option Value)} {oc28 kV28 dc28 pm28 cd28 ct28 : Value}
    (a28 : PySem.W.findIn K (.ref C_Book) "merge" = some (some (.ref f28)))
    (i28 : PySem.W.isFn K (.ref f28) = true)
    (l28 : K.lookup f28 = some ⟨oc28, od28, .func (PySem.W.fnOf "merge" "Book.merge" (defArgs s_Book_merge) (defBody s_Book_merge) (defScope s_Book_merge) .none kV28 dc28 pm28 an28 cd28 ct28), sl28⟩)
    (c28 : PySem.W.codeIn K cd28 "Book.merge" = true) (k28 : PySem.W.keepIn K (.ref f28) = true)
    {od29 an29 : Option Addr} {sl29 : Array (Option Value)} {oc29 kV29 dc29 pm29 cd29 ct29 : Value}
    (a29 : PySem.W.findIn K (.ref C_Book) "tree" = some (some (.ref f29)))
    (i29 : PySem.W.isFn K (.ref f29) = true)
    (l29 : K.lookup f29 = some ⟨oc29, od29, .func (PySem.W.fnOf "tree" "Book.tree" (defArgs s_Book_tree) (defBody s_Book_tree) (defScope s_Book_tree) .none kV29 dc29 pm29 an29 cd29 ct29), sl29⟩)
    (c29 : PySem.W.codeIn K cd29 "Book.tree" = true) (k29 : PySem.W.keepIn K (.ref f29) = true)
    {od30 an30 : Option Addr} {sl30 : Array (Option Value)} {oc30 kV30 dc30 pm30 cd30 ct30 : Value}
    (a30 : PySem.W.nsIn K mainGlobals "_law_nearest_by" = some (some (.ref f30)))
    (l30 : K.lookup f30 = some ⟨oc30, od30, .func (PySem.W.fnOf "_law_nearest_by" "_law_nearest_by" (defArgs s_L_nearest_by) (defBody s_L_nearest_by) (defScope s_L_nearest_by) .none kV30 dc30 pm30 an30 cd30 ct30), sl30⟩)
    (c30 : PySem.W.codeIn K cd30 "_law_nearest_by" = true) (k30 : PySem.W.keepIn K (.ref f30) = true)
    {od31 an31 : Option Addr} {sl31 : Array (Option Value)} {oc31 kV31 dc31 pm31 cd31 ct31 : Value}
    (a31 : PySem.W.nsIn K mainGlobals "_law_grew" = some (some (.ref f31)))
    (l31 : K.lookup f31 = some ⟨oc31, od31, .func (PySem.W.fnOf "_law_grew" "_law_grew" (defArgs s_L_grew) (defBody s_L_grew) (defScope s_L_grew) .none kV31 dc31 pm31 an31 cd31 ct31), sl31⟩)
    (c31 : PySem.W.codeIn K cd31 "_law_grew" = true) (k31 : PySem.W.keepIn K (.ref f31) = true)
    {od32 an32 : Option Addr} {sl32 : Array (Option Value)} {oc32 kV32 dc32 pm32 cd32 ct32 : Value}
    (a32 : PySem.W.nsIn K mainGlobals "_law_joined" = some (some (.ref f32)))
    (l32 : K.lookup f32 = some ⟨oc32, od32, .func (PySem.W.fnOf "_law_joined" "_law_joined" (defArgs s_L_joined) (defBody s_L_joined) (defScope s_L_joined) .none kV32 dc32 pm32 an32 cd32 ct32), sl32⟩)
    (c32 : PySem.W.codeIn K cd32 "_law_joined" = true) (k32 : PySem.W.keepIn K (.ref f32) = true)
    {od33 an33 : Option Addr} {sl33 : Array (Option Value)} {oc33 kV33 dc33 pm33 cd33 ct33 : Value}
    (a33 : PySem.W.nsIn K mainGlobals "_law_joined_by" = some (some (.ref f33)))
    (l33 : K.lookup f33 = some ⟨oc33, od33, .func (PySem.W.fnOf "_law_joined_by" "_law_joined_by" (defArgs s_L_joined_by) (defBody s_L_joined_by) (defScope s_L_joined_by) .none kV33 dc33 pm33 an33 cd33 ct33), sl33⟩)
    (c33 : PySem.W.codeIn K cd33 "_law_joined_by" = true) (k33 : PySem.W.keepIn K (.ref f33) = true)
    {od34 an34 : Option Addr} {sl34 : Array (Option Value)} {oc34 kV34 dc34 pm34 cd34 ct34 : Value}
    (a34 : PySem.W.nsIn K mainGlobals "_law_reads" = some (some (.ref f34)))
    (l34 : K.lookup f34 = some ⟨oc34, od34, .func (PySem.W.fnOf "_law_reads" "_law_reads" (defArgs s_L_reads) (defBody s_L_reads) (defScope s_L_reads) .none kV34 dc34 pm34 an34 cd34 ct34), sl34⟩)
    (c34 : PySem.W.codeIn K cd34 "_law_reads" = true) (k34 : PySem.W.keepIn K (.ref f34) = true)
    {od35 an35 : Option Addr} {sl35 : Array (Option Value)} {oc35 kV35 dc35 pm35 cd35 ct35 : Value}
    (a35 : PySem.W.nsIn K mainGlobals "_law_grows" = some (some (.ref f35)))
    (l35 : K.lookup f35 = some ⟨oc35, od35, .func (PySem.W.fnOf "_law_grows" "_law_grows" (defArgs s_L_grows) (defBody s_L_grows) (defScope s_L_grows) .none kV35 dc35 pm35 an35 cd35 ct35), sl35⟩)
    (c35 : PySem.W.codeIn K cd35 "_law_grows" = true) (k35 : PySem.W.keepIn K (.ref f35) = true)
    {od36 an36 : Option Addr} {sl36 : Array (Option Value)} {oc36 kV36 dc36 pm36 cd36 ct36 : Value}
    (a36 : PySem.W.nsIn K mainGlobals "_law_joins" = some (some (.ref f36)))
    (l36 : K.lookup f36 = some ⟨oc36, od36, .func (PySem.W.fnOf "_law_joins" "_law_joins" (defArgs s_L_joins) (defBody s_L_joins) (defScope s_L_joins) .none kV36 dc36 pm36 an36 cd36 ct36), sl36⟩)
    (c36 : PySem.W.codeIn K cd36 "_law_joins" = true) (k36 : PySem.W.keepIn K (.ref f36) = true)
    {od37 an37 : Option Addr} {sl37 : Array (Option Value)} {oc37 kV37 dc37 pm37 cd37 ct37 : Value}
    (a37 : PySem.W.nsIn K mainGlobals "_law_turn" = some (some (.ref f37)))
    (l37 : K.lookup f37 = some ⟨oc37, od37, .func (PySem.W.fnOf "_law_turn" "_law_turn" (defArgs s_L_turn) (defBody s_L_turn) (defScope s_L_turn) .none kV37 dc37 pm37 an37 cd37 ct37), sl37⟩)
    (c37 : PySem.W.codeIn K cd37 "_law_turn" = true) (k37 : PySem.W.keepIn K (.ref f37) = true)
    {od38 an38 : Option Addr} {sl38 : Array (Option Value)} {oc38 kV38 dc38 pm38 cd38 ct38 : Value}
    (a38 : PySem.W.nsIn K mainGlobals "law" = some (some (.ref f38)))
    (l38 : K.lookup f38 = some ⟨oc38, od38, .func (PySem.W.fnOf "law" "law" (defArgs s_law) (defBody s_law) (defScope s_law) .none kV38 dc38 pm38 an38 cd38 ct38), sl38⟩)
    (c38 : PySem.W.codeIn K cd38 "law" = true) (k38 : PySem.W.keepIn K (.ref f38) = true)
    (z_all : PySem.W.nsIn K mainGlobals "all" = some none)
    (z_any : PySem.W.nsIn K mainGlobals "any" = some none)
    (z_bool : PySem.W.nsIn K mainGlobals "bool" = some none)
    (z_dict : PySem.W.nsIn K mainGlobals "dict" = some none)
    (z_int : PySem.W.nsIn K mainGlobals "int" = some none)
    (z_isinstance : PySem.W.nsIn K mainGlobals "isinstance" = some none)
    (z_len : PySem.W.nsIn K mainGlobals "len" = some none)
    (z_list : PySem.W.nsIn K mainGlobals "list" = some none)
    (z_max : PySem.W.nsIn K mainGlobals "max" = some none)
    (z_min : PySem.W.nsIn K mainGlobals "min" = some none)
    (z_range : PySem.W.nsIn K mainGlobals "range" = some none)
    (z_set : PySem.W.nsIn K mainGlobals "set" = some none)
    (z_sorted : PySem.W.nsIn K mainGlobals "sorted" = some none)
    (z_str : PySem.W.nsIn K mainGlobals "str" = some none)
    {t_MOST_PARTS : Tok} (v_MOST_PARTS : PySem.W.nsIn K mainGlobals "MOST_PARTS" = some (some (.int 8 t_MOST_PARTS)))
    {t_MOST_SIGNS : Tok} (v_MOST_SIGNS : PySem.W.nsIn K mainGlobals "MOST_SIGNS" = some (some (.int 12 t_MOST_SIGNS)))
    {t_SIGNS : Tok} (v_SIGNS : PySem.W.nsIn K mainGlobals "SIGNS" = some (some (.str "abcdefghijklmnopqrstuvwxyzABCDEFGHIJKLMNOPQRSTUVWXYZ0123456789.-_" t_SIGNS)))
    (aB : PySem.W.nsIn K mainGlobals "Book" = some (some (.ref C_Book))) (pg : PySem.W.plainGet K C_Book Str.empty = true) (hdB : PySem.W.hasDictIn K C_Book = true) (poB : PySem.W.plainOver K C_Book = true) (saB : PySem.W.findIn K (.ref C_Book) "__setattr__" = some (some (.builtin "object.__setattr__"))) (nT : PySem.W.findIn K (.ref C_Book) "trees" = some none) (nO : PySem.W.findIn K (.ref C_Book) "older" = some none)
    (mkB : PySem.W.makesIn K C_Book = true) (kcB : PySem.W.keepIn K (.ref C_Book) = true)
    (xg_Clashed : PySem.W.nsIn K mainGlobals "Clashed" = some (some (.ref C_Clashed)))
    (xx_Clashed : PySem.W.excIn K C_Clashed EXCB "ValueError.__new__" = true)
    (xk_Clashed : PySem.W.keepIn K (.ref C_Clashed) = true)
    (xb_Clashed : PySem.W.subIn K (.ref C_Clashed) (.type "BaseException") = some true)
    (xt_Clashed : PySem.W.typeIn K (.ref C_Clashed) = some (.type "type"))
    (xg_InTheWay : PySem.W.nsIn K mainGlobals "InTheWay" = some (some (.ref C_InTheWay)))
    (xx_InTheWay : PySem.W.excIn K C_InTheWay EXCB "ValueError.__new__" = true)
    (xk_InTheWay : PySem.W.keepIn K (.ref C_InTheWay) = true)
    (xb_InTheWay : PySem.W.subIn K (.ref C_InTheWay) (.type "BaseException") = some true)
    (xt_InTheWay : PySem.W.typeIn K (.ref C_InTheWay) = some (.type "type"))
    (xg_NoClash : PySem.W.nsIn K mainGlobals "NoClash" = some (some (.ref C_NoClash)))
    (xx_NoClash : PySem.W.excIn K C_NoClash EXCB "ValueError.__new__" = true)
    (xk_NoClash : PySem.W.keepIn K (.ref C_NoClash) = true)
    (xb_NoClash : PySem.W.subIn K (.ref C_NoClash) (.type "BaseException") = some true)
    (xt_NoClash : PySem.W.typeIn K (.ref C_NoClash) = some (.type "type"))
    (xg_NoFile : PySem.W.nsIn K mainGlobals "NoFile" = some (some (.ref C_NoFile)))
    (xx_NoFile : PySem.W.excIn K C_NoFile EXCB "ValueError.__new__" = true)
    (xk_NoFile : PySem.W.keepIn K (.ref C_NoFile) = true)
    (xb_NoFile : PySem.W.subIn K (.ref C_NoFile) (.type "BaseException") = some true)
    (xt_NoFile : PySem.W.typeIn K (.ref C_NoFile) = some (.type "type"))
    (xg_NoPath : PySem.W.nsIn K mainGlobals "NoPath" = some (some (.ref C_NoPath)))
    (xx_NoPath : PySem.W.excIn K C_NoPath EXCB "ValueError.__new__" = true)
    (xk_NoPath : PySem.W.keepIn K (.ref C_NoPath) = true)
    (xb_NoPath : PySem.W.subIn K (.ref C_NoPath) (.type "BaseException") = some true)
    (xt_NoPath : PySem.W.typeIn K (.ref C_NoPath) = some (.type "type"))
    (xg_NoVersion : PySem.W.nsIn K mainGlobals "NoVersion" = some (some (.ref C_NoVersion)))
    (xx_NoVersion : PySem.W.excIn K C_NoVersion EXCB "ValueError.__new__" = true)
    (xk_NoVersion : PySem.W.keepIn K (.ref C_NoVersion) = true)
    (xb_NoVersion : PySem.W.subIn K (.ref C_NoVersion) (.type "BaseException") = some true)
    (xt_NoVersion : PySem.W.typeIn K (.ref C_NoVersion) = some (.type "type"))
    (xg_RoadError : PySem.W.nsIn K mainGlobals "RoadError" = some (some (.ref C_RoadError)))
    (xx_RoadError : PySem.W.excIn K C_RoadError EXCB "ValueError.__new__" = true)
    (xk_RoadError : PySem.W.keepIn K (.ref C_RoadError) = true)
    (xb_RoadError : PySem.W.subIn K (.ref C_RoadError) (.type "BaseException") = some true)
    (xt_RoadError : PySem.W.typeIn K (.ref C_RoadError) = some (.type "type"))
    (xg_SameVersion : PySem.W.nsIn K mainGlobals "SameVersion" = some (some (.ref C_SameVersion)))
    (xx_SameVersion : PySem.W.excIn K C_SameVersion EXCB "ValueError.__new__" = true)
    (xk_SameVersion : PySem.W.keepIn K (.ref C_SameVersion) = true)
    (xb_SameVersion : PySem.W.subIn K (.ref C_SameVersion) (.type "BaseException") = some true)
    (xt_SameVersion : PySem.W.typeIn K (.ref C_SameVersion) = some (.type "type"))
    (y0_NoPath : PySem.W.findIn K (.ref C_NoPath) "__getattribute__" = some (some (.builtin "BaseException.__getattribute__")))
    (y1_NoPath : PySem.W.findIn K (.ref C_NoPath) "__getattr__" = some none)
    (y2_NoPath : PySem.W.subIn K (.ref C_NoPath) (.type "BaseException") = some true)
    (y3_NoPath : PySem.W.hasDictIn K C_NoPath = true)
    (y4_NoPath : PySem.W.findIn K (.ref C_NoPath) "__class__" = some (some (.builtin "object.__class__")))
    (y5_NoPath : PySem.W.specialIn K (.builtin "object.__class__") "__get__" = some (some (.builtin "getset_descriptor.__get__")))
    (y6_NoPath : PySem.W.takesIn K (.builtin "object.__class__") = some true)
    (y7_NoPath : PySem.W.mroIn K C_NoPath (.type "object") = some true)
    (m_NoPath_RoadError : PySem.W.exmOne K (.ref C_NoPath) (.ref C_RoadError) = some true)
    (q_NoPath_NoPath : PySem.W.kitOne K (.ref C_NoPath) (.ref C_NoPath) = some true)
    (q_NoPath_NoFile : PySem.W.kitOne K (.ref C_NoPath) (.ref C_NoFile) = some false)
    (q_NoPath_InTheWay : PySem.W.kitOne K (.ref C_NoPath) (.ref C_InTheWay) = some false)
    (q_NoPath_SameVersion : PySem.W.kitOne K (.ref C_NoPath) (.ref C_SameVersion) = some false)
    (q_NoPath_NoClash : PySem.W.kitOne K (.ref C_NoPath) (.ref C_NoClash) = some false)
    (q_NoPath_Clashed : PySem.W.kitOne K (.ref C_NoPath) (.ref C_Clashed) = some false)
    (y0_NoFile : PySem.W.findIn K (.ref C_NoFile) "__getattribute__" = some (some (.builtin "BaseException.__getattribute__")))
    (y1_NoFile : PySem.W.findIn K (.ref C_NoFile) "__getattr__" = some none)
    (y2_NoFile : PySem.W.subIn K (.ref C_NoFile) (.type "BaseException") = some true)
    (y3_NoFile : PySem.W.hasDictIn K C_NoFile = true)
    (y4_NoFile : PySem.W.findIn K (.ref C_NoFile) "__class__" = some (some (.builtin "object.__class__")))
    (y5_NoFile : PySem.W.specialIn K (.builtin "object.__class__") "__get__" = some (some (.builtin "getset_descriptor.__get__")))
    (y6_NoFile : PySem.W.takesIn K (.builtin "object.__class__") = some true)
    (y7_NoFile : PySem.W.mroIn K C_NoFile (.type "object") = some true)
    (m_NoFile_RoadError : PySem.W.exmOne K (.ref C_NoFile) (.ref C_RoadError) = some true)
    (q_NoFile_NoPath : PySem.W.kitOne K (.ref C_NoFile) (.ref C_NoPath) = some false)
    (q_NoFile_NoFile : PySem.W.kitOne K (.ref C_NoFile) (.ref C_NoFile) = some true)
    (q_NoFile_InTheWay : PySem.W.kitOne K (.ref C_NoFile) (.ref C_InTheWay) = some false)
    (q_NoFile_SameVersion : PySem.W.kitOne K (.ref C_NoFile) (.ref C_SameVersion) = some false)
    (q_NoFile_NoClash : PySem.W.kitOne K (.ref C_NoFile) (.ref C_NoClash) = some false)
    (q_NoFile_Clashed : PySem.W.kitOne K (.ref C_NoFile) (.ref C_Clashed) = some false)
    (y0_InTheWay : PySem.W.findIn K (.ref C_InTheWay) "__getattribute__" = some (some (.builtin "BaseException.__getattribute__")))
    (y1_InTheWay : PySem.W.findIn K (.ref C_InTheWay) "__getattr__" = some none)
    (y2_InTheWay : PySem.W.subIn K (.ref C_InTheWay) (.type "BaseException") = some true)
    (y3_InTheWay : PySem.W.hasDictIn K C_InTheWay = true)
    (y4_InTheWay : PySem.W.findIn K (.ref C_InTheWay) "__class__" = some (some (.builtin "object.__class__")))
    (y5_InTheWay : PySem.W.specialIn K (.builtin "object.__class__") "__get__" = some (some (.builtin "getset_descriptor.__get__")))
    (y6_InTheWay : PySem.W.takesIn K (.builtin "object.__class__") = some true)
    (y7_InTheWay : PySem.W.mroIn K C_InTheWay (.type "object") = some true)
    (m_InTheWay_RoadError : PySem.W.exmOne K (.ref C_InTheWay) (.ref C_RoadError) = some true)
    (q_InTheWay_NoPath : PySem.W.kitOne K (.ref C_InTheWay) (.ref C_NoPath) = some false)
    (q_InTheWay_NoFile : PySem.W.kitOne K (.ref C_InTheWay) (.ref C_NoFile) = some false)
    (q_InTheWay_InTheWay : PySem.W.kitOne K (.ref C_InTheWay) (.ref C_InTheWay) = some true)
    (q_InTheWay_SameVersion : PySem.W.kitOne K (.ref C_InTheWay) (.ref C_SameVersion) = some false)
    (q_InTheWay_NoClash : PySem.W.kitOne K (.ref C_InTheWay) (.ref C_NoClash) = some false)
    (q_InTheWay_Clashed : PySem.W.kitOne K (.ref C_InTheWay) (.ref C_Clashed) = some false)
    (y0_NoClash : PySem.W.findIn K (.ref C_NoClash) "__getattribute__" = some (some (.builtin "BaseException.__getattribute__")))
    (y1_NoClash : PySem.W.findIn K (.ref C_NoClash) "__getattr__" = some none)
    (y2_NoClash : PySem.W.subIn K (.ref C_NoClash) (.type "BaseException") = some true)
    (y3_NoClash : PySem.W.hasDictIn K C_NoClash = true)
    (y4_NoClash : PySem.W.findIn K (.ref C_NoClash) "__class__" = some (some (.builtin "object.__class__")))
    (y5_NoClash : PySem.W.specialIn K (.builtin "object.__class__") "__get__" = some (some (.builtin "getset_descriptor.__get__")))
    (y6_NoClash : PySem.W.takesIn K (.builtin "object.__class__") = some true)
    (y7_NoClash : PySem.W.mroIn K C_NoClash (.type "object") = some true)
    (m_NoClash_RoadError : PySem.W.exmOne K (.ref C_NoClash) (.ref C_RoadError) = some true)
    (q_NoClash_NoPath : PySem.W.kitOne K (.ref C_NoClash) (.ref C_NoPath) = some false)
    (q_NoClash_NoFile : PySem.W.kitOne K (.ref C_NoClash) (.ref C_NoFile) = some false)
    (q_NoClash_InTheWay : PySem.W.kitOne K (.ref C_NoClash) (.ref C_InTheWay) = some false)
    (q_NoClash_SameVersion : PySem.W.kitOne K (.ref C_NoClash) (.ref C_SameVersion) = some false)
    (q_NoClash_NoClash : PySem.W.kitOne K (.ref C_NoClash) (.ref C_NoClash) = some true)
    (q_NoClash_Clashed : PySem.W.kitOne K (.ref C_NoClash) (.ref C_Clashed) = some false)
    (y0_Clashed : PySem.W.findIn K (.ref C_Clashed) "__getattribute__" = some (some (.builtin "BaseException.__getattribute__")))
    (y1_Clashed : PySem.W.findIn K (.ref C_Clashed) "__getattr__" = some none)
    (y2_Clashed : PySem.W.subIn K (.ref C_Clashed) (.type "BaseException") = some true)
    (y3_Clashed : PySem.W.hasDictIn K C_Clashed = true)
    (y4_Clashed : PySem.W.findIn K (.ref C_Clashed) "__class__" = some (some (.builtin "object.__class__")))
    (y5_Clashed : PySem.W.specialIn K (.builtin "object.__class__") "__get__" = some (some (.builtin "getset_descriptor.__get__")))
    (y6_Clashed : PySem.W.takesIn K (.builtin "object.__class__") = some true)
    (y7_Clashed : PySem.W.mroIn K C_Clashed (.type "object") = some true)
    (m_Clashed_RoadError : PySem.W.exmOne K (.ref C_Clashed) (.ref C_RoadError) = some true)
    (q_Clashed_NoPath : PySem.W.kitOne K (.ref C_Clashed) (.ref C_NoPath) = some false)
    (q_Clashed_NoFile : PySem.W.kitOne K (.ref C_Clashed) (.ref C_NoFile) = some false)
    (q_Clashed_InTheWay : PySem.W.kitOne K (.ref C_Clashed) (.ref C_InTheWay) = some false)
    (q_Clashed_SameVersion : PySem.W.kitOne K (.ref C_Clashed) (.ref C_SameVersion) = some false)
    (q_Clashed_NoClash : PySem.W.kitOne K (.ref C_Clashed) (.ref C_NoClash) = some false)
    (q_Clashed_Clashed : PySem.W.kitOne K (.ref C_Clashed) (.ref C_Clashed) = some true)
    (y0_NoVersion : PySem.W.findIn K (.ref C_NoVersion) "__getattribute__" = some (some (.builtin "BaseException.__getattribute__")))
    (y1_NoVersion : PySem.W.findIn K (.ref C_NoVersion) "__getattr__" = some none)
    (y2_NoVersion : PySem.W.subIn K (.ref C_NoVersion) (.type "BaseException") = some true)
    (y3_NoVersion : PySem.W.hasDictIn K C_NoVersion = true)
    (y4_NoVersion : PySem.W.findIn K (.ref C_NoVersion) "__class__" = some (some (.builtin "object.__class__")))
    (y5_NoVersion : PySem.W.specialIn K (.builtin "object.__class__") "__get__" = some (some (.builtin "getset_descriptor.__get__")))
    (y6_NoVersion : PySem.W.takesIn K (.builtin "object.__class__") = some true)
    (y7_NoVersion : PySem.W.mroIn K C_NoVersion (.type "object") = some true)
    (m_NoVersion_RoadError : PySem.W.exmOne K (.ref C_NoVersion) (.ref C_RoadError) = some true)
    (q_NoVersion_NoPath : PySem.W.kitOne K (.ref C_NoVersion) (.ref C_NoPath) = some false)
    (q_NoVersion_NoFile : PySem.W.kitOne K (.ref C_NoVersion) (.ref C_NoFile) = some false)
    (q_NoVersion_InTheWay : PySem.W.kitOne K (.ref C_NoVersion) (.ref C_InTheWay) = some false)
    (q_NoVersion_SameVersion : PySem.W.kitOne K (.ref C_NoVersion) (.ref C_SameVersion) = some false)
    (q_NoVersion_NoClash : PySem.W.kitOne K (.ref C_NoVersion) (.ref C_NoClash) = some false)
    (q_NoVersion_Clashed : PySem.W.kitOne K (.ref C_NoVersion) (.ref C_Clashed) = some false)
    (y0_SameVersion : PySem.W.findIn K (.ref C_SameVersion) "__getattribute__" = some (some (.builtin "BaseException.__getattribute__")))
    (y1_SameVersion : PySem.W.findIn K (.ref C_SameVersion) "__getattr__" = some none)
    (y2_SameVersion : PySem.W.subIn K (.ref C_SameVersion) (.type "BaseException") = some true)
    (y3_SameVersion : PySem.W.hasDictIn K C_SameVersion = true)
    (y4_SameVersion : PySem.W.findIn K (.ref C_SameVersion) "__class__" = some (some (.builtin "object.__class__")))
    (y5_SameVersion : PySem.W.specialIn K (.builtin "object.__class__") "__get__" = some (some (.builtin "getset_descriptor.__get__")))
    (y6_SameVersion : PySem.W.takesIn K (.builtin "object.__class__") = some true)
    (y7_SameVersion : PySem.W.mroIn K C_SameVersion (.type "object") = some true)
    (m_SameVersion_RoadError : PySem.W.exmOne K (.ref C_SameVersion) (.ref C_RoadError) = some true)
    (q_SameVersion_NoPath : PySem.W.kitOne K (.ref C_SameVersion) (.ref C_NoPath) = some false)
    (q_SameVersion_NoFile : PySem.W.kitOne K (.ref C_SameVersion) (.ref C_NoFile) = some false)
    (q_SameVersion_InTheWay : PySem.W.kitOne K (.ref C_SameVersion) (.ref C_InTheWay) = some false)
    (q_SameVersion_SameVersion : PySem.W.kitOne K (.ref C_SameVersion) (.ref C_SameVersion) = some true)
    (q_SameVersion_NoClash : PySem.W.kitOne K (.ref C_SameVersion) (.ref C_NoClash) = some false)
    (q_SameVersion_Clashed : PySem.W.kitOne K (.ref C_SameVersion) (.ref C_Clashed) = some false) :
    ∃ fd : FuncData, (∀ (s : Shared) (v : Value), BindsTo s fd ⟨[v], []⟩ [("_law_script", v)]) ∧ ∀ base : Heap, K.In base → base.Ns mainGlobals mg → FnOk P w K mg base CX0 9 fa fd ["_law_script"] (spLaw K) := by
  have T : Txt K mg C_Book C_Clashed C_InTheWay C_NoClash C_NoFile C_NoPath C_NoVersion C_RoadError C_SameVersion := {
    d_L_sign_by := ⟨_, _, fun_mk (st := s_L_sign_by) l0 c0 k0, PySem.W.mg_of X G a0, (fun_mk (st := s_L_sign_by) l0 c0 k0).binds (ps := ps_L_sign_by) (fun _ _ _ _ _ _ us hl => match us, hl with | [_], _ => rfl)⟩,
    d_is_part := ⟨_, _, fun_mk (st := s_is_part) l1 c1 k1, PySem.W.mg_of X G a1, (fun_mk (st := s_is_part) l1 c1 k1).binds (ps := ps_is_part) (fun _ _ _ _ _ _ us hl => match us, hl with | [_], _ => rfl)⟩,
    d_is_path := ⟨_, _, fun_mk (st := s_is_path) l2 c2 k2, PySem.W.mg_of X G a2, (fun_mk (st := s_is_path) l2 c2 k2).binds (ps := ps_is_path) (fun _ _ _ _ _ _ us hl => match us, hl with | [_], _ => rfl)⟩,
    d_above := ⟨_, _, fun_mk (st := s_above) l3 c3 k3, PySem.W.mg_of X G a3, (fun_mk (st := s_above) l3 c3 k3).binds (ps := ps_above) (fun _ _ _ _ _ _ us hl => match us, hl with | [_], _ => rfl)⟩,
    d_L_name_by := ⟨_, _, fun_mk (st := s_L_name_by) l4 c4 k4, PySem.W.mg_of X G a4, (fun_mk (st := s_L_name_by) l4 c4 k4).binds (ps := ps_L_name_by) (fun _ _ _ _ _ _ us hl => match us, hl with | [_, _], _ => rfl)⟩,
    d_L_path_by := ⟨_, _, fun_mk (st := s_L_path_by) l5 c5 k5, PySem.W.mg_of X G a5, (fun_mk (st := s_L_path_by) l5 c5 k5).binds (ps := ps_L_path_by) (fun _ _ _ _ _ _ us hl => match us, hl with | [_, _], _ => rfl)⟩,
    d_L_line_by := ⟨_, _, fun_mk (st := s_L_line_by) l6 c6 k6, PySem.W.mg_of X G a6, (fun_mk (st := s_L_line_by) l6 c6 k6).binds (ps := ps_L_line_by) (fun _ _ _ _ _ _ us hl => match us, hl with | [_, _], _ => rfl)⟩,
    d_L_is_free := ⟨_, _, fun_mk (st := s_L_is_free) l7 c7 k7, PySem.W.mg_of X G a7, (fun_mk (st := s_L_is_free) l7 c7 k7).binds (ps := ps_L_is_free) (fun _ _ _ _ _ _ us hl => match us, hl with | [_, _], _ => rfl)⟩,
    d_is_tree := ⟨_, _, fun_mk (st := s_is_tree) l8 c8 k8, PySem.W.mg_of X G a8, (fun_mk (st := s_is_tree) l8 c8 k8).binds (ps := ps_is_tree) (fun _ _ _ _ _ _ us hl => match us, hl with | [_], _ => rfl)⟩,
    d_is_beneath := ⟨_, _, fun_mk (st := s_is_beneath) l9 c9 k9, PySem.W.mg_of X G a9, (fun_mk (st := s_is_beneath) l9 c9 k9).binds (ps := ps_is_beneath) (fun _ _ _ _ _ _ us hl => match us, hl with | [_, _], _ => rfl)⟩,
    d_is_hindered := ⟨_, _, fun_mk (st := s_is_hindered) l10 c10 k10, PySem.W.mg_of X G a10, (fun_mk (st := s_is_hindered) l10 c10 k10).binds (ps := ps_is_hindered) (fun _ _ _ _ _ _ us hl => match us, hl with | [_, _], _ => rfl)⟩,
    d_done := ⟨_, _, fun_mk (st := s_done) l11 c11 k11, PySem.W.mg_of X G a11, (fun_mk (st := s_done) l11 c11 k11).binds (ps := ps_done) (fun _ _ _ _ _ _ us hl => match us, hl with | [_, _], _ => rfl)⟩,
    d_changed := ⟨_, _, fun_mk (st := s_changed) l12 c12 k12, PySem.W.mg_of X G a12, (fun_mk (st := s_changed) l12 c12 k12).binds (ps := ps_changed) (fun _ _ _ _ _ _ us hl => match us, hl with | [_, _], _ => rfl)⟩,
    d_L_word_of := ⟨_, _, fun_mk (st := s_L_word_of) l13 c13 k13, PySem.W.mg_of X G a13, (fun_mk (st := s_L_word_of) l13 c13 k13).binds (ps := ps_L_word_of) (fun _ _ _ _ _ _ us hl => match us, hl with | [_, _], _ => rfl)⟩,
    d_L_deeds_by := ⟨_, _, fun_mk (st := s_L_deeds_by) l14 c14 k14, PySem.W.mg_of X G a14, (fun_mk (st := s_L_deeds_by) l14 c14 k14).binds (ps := ps_L_deeds_by) (fun _ _ _ _ _ _ us hl => match us, hl with | [_, _, _], _ => rfl)⟩,
    d_all_paths := ⟨_, _, fun_mk (st := s_all_paths) l15 c15 k15, PySem.W.mg_of X G a15, (fun_mk (st := s_all_paths) l15 c15 k15).binds (ps := ps_all_paths) (fun _ _ _ _ _ _ us hl => match us, hl with | [_, _, _], _ => rfl)⟩,
    d_mark := ⟨_, _, fun_mk (st := s_mark) l16 c16 k16, PySem.W.mg_of X G a16, (fun_mk (st := s_mark) l16 c16 k16).binds (ps := ps_mark) (fun _ _ _ _ _ _ us hl => match us, hl with | [_, _, _], _ => rfl)⟩,
    d_put_together := ⟨_, _, fun_mk (st := s_put_together) l17 c17 k17, PySem.W.mg_of X G a17, (fun_mk (st := s_put_together) l17 c17 k17).binds (ps := ps_put_together) (fun _ _ _ _ _ _ us hl => match us, hl with | [_, _, _, _], _ => rfl)⟩,
    d_clashes := ⟨_, _, fun_mk (st := s_clashes) l18 c18 k18, PySem.W.mg_of X G a18, (fun_mk (st := s_clashes) l18 c18 k18).binds (ps := ps_clashes) (fun _ _ _ _ _ _ us hl => match us, hl with | [_, _, _], _ => rfl)⟩,
    d_joined := ⟨_, _, fun_mk (st := s_joined) l19 c19 k19, PySem.W.mg_of X G a19, (fun_mk (st := s_joined) l19 c19 k19).binds (ps := ps_joined) (fun _ _ _ _ _ _ us hl => match us, hl with | [_, _, _, _], _ => rfl)⟩,
    d_Book___init__ := ⟨_, _, fun_mk (st := s_Book___init__) l20 c20 k20, ⟨a20, i20, k20⟩, (fun_mk (st := s_Book___init__) l20 c20 k20).binds (ps := ps_Book___init__) (fun _ _ _ _ _ _ us hl => match us, hl with | [_], _ => rfl)⟩,
    d_Book_many := ⟨_, _, fun_mk (st := s_Book_many) l21 c21 k21, ⟨a21, i21, k21⟩, (fun_mk (st := s_Book_many) l21 c21 k21).binds (ps := ps_Book_many) (fun _ _ _ _ _ _ us hl => match us, hl with | [_], _ => rfl)⟩,
    d_Book_need := ⟨_, _, fun_mk (st := s_Book_need) l22 c22 k22, ⟨a22, i22, k22⟩, (fun_mk (st := s_Book_need) l22 c22 k22).binds (ps := ps_Book_need) (fun _ _ _ _ _ _ us hl => match us, hl with | [_, _], _ => rfl)⟩,
    d_Book_parents := ⟨_, _, fun_mk (st := s_Book_parents) l23 c23 k23, ⟨a23, i23, k23⟩, (fun_mk (st := s_Book_parents) l23 c23 k23).binds (ps := ps_Book_parents) (fun _ _ _ _ _ _ us hl => match us, hl with | [_, _], _ => rfl)⟩,
    d_Book_made := ⟨_, _, fun_mk (st := s_Book_made) l24 c24 k24, ⟨a24, i24, k24⟩, (fun_mk (st := s_Book_made) l24 c24 k24).binds (ps := ps_Book_made) (fun _ _ _ _ _ _ us hl => match us, hl with | [_, _, _], _ => rfl)⟩,
    d_Book_elders := ⟨_, _, fun_mk (st := s_Book_elders) l25 c25 k25, ⟨a25, i25, k25⟩, (fun_mk (st := s_Book_elders) l25 c25 k25).binds (ps := ps_Book_elders) (fun _ _ _ _ _ _ us hl => match us, hl with | [_, _], _ => rfl)⟩,
    d_Book_nearest := ⟨_, _, fun_mk (st := s_Book_nearest) l26 c26 k26, ⟨a26, i26, k26⟩, (fun_mk (st := s_Book_nearest) l26 c26 k26).binds (ps := ps_Book_nearest) (fun _ _ _ _ _ _ us hl => match us, hl with | [_, _, _], _ => rfl)⟩,
    d_Book_grow := ⟨_, _, fun_mk (st := s_Book_grow) l27 c27 k27, ⟨a27, i27, k27⟩, (fun_mk (st := s_Book_grow) l27 c27 k27).binds (ps := ps_Book_grow) (fun _ _ _ _ _ _ us hl => match us, hl with | [_, _, _], _ => rfl)⟩,
    d_Book_merge := ⟨_, _, fun_mk (st := s_Book_merge) l28 c28 k28, ⟨a28, i28, k28⟩, (fun_mk (st := s_Book_merge) l28 c28 k28).binds (ps := ps_Book_merge) (fun _ _ _ _ _ _ us hl => match us, hl with | [_, _, _, _], _ => rfl)⟩,
    d_Book_tree := ⟨_, _, fun_mk (st := s_Book_tree) l29 c29 k29, ⟨a29, i29, k29⟩, (fun_mk (st := s_Book_tree) l29 c29 k29).binds (ps := ps_Book_tree) (fun _ _ _ _ _ _ us hl => match us, hl with | [_, _], _ => rfl)⟩,
    d_L_nearest_by := ⟨_, _, fun_mk (st := s_L_nearest_by) l30 c30 k30, PySem.W.mg_of X G a30, (fun_mk (st := s_L_nearest_by) l30 c30 k30).binds (ps := ps_L_nearest_by) (fun _ _ _ _ _ _ us hl => match us, hl with | [_, _, _], _ => rfl)⟩,
    d_L_grew := ⟨_, _, fun_mk (st := s_L_grew) l31 c31 k31, PySem.W.mg_of X G a31, (fun_mk (st := s_L_grew) l31 c31 k31).binds (ps := ps_L_grew) (fun _ _ _ _ _ _ us hl => match us, hl with | [_, _, _], _ => rfl)⟩,
    d_L_joined := ⟨_, _, fun_mk (st := s_L_joined) l32 c32 k32, PySem.W.mg_of X G a32, (fun_mk (st := s_L_joined) l32 c32 k32).binds (ps := ps_L_joined) (fun _ _ _ _ _ _ us hl => match us, hl with | [_, _, _, _], _ => rfl)⟩,
    d_L_joined_by := ⟨_, _, fun_mk (st := s_L_joined_by) l33 c33 k33, PySem.W.mg_of X G a33, (fun_mk (st := s_L_joined_by) l33 c33 k33).binds (ps := ps_L_joined_by) (fun _ _ _ _ _ _ us hl => match us, hl with | [_, _, _, _], _ => rfl)⟩,
    d_L_reads := ⟨_, _, fun_mk (st := s_L_reads) l34 c34 k34, PySem.W.mg_of X G a34, (fun_mk (st := s_L_reads) l34 c34 k34).binds (ps := ps_L_reads) (fun _ _ _ _ _ _ us hl => match us, hl with | [_, _, _, _], _ => rfl)⟩,
    d_L_grows := ⟨_, _, fun_mk (st := s_L_grows) l35 c35 k35, PySem.W.mg_of X G a35, (fun_mk (st := s_L_grows) l35 c35 k35).binds (ps := ps_L_grows) (fun _ _ _ _ _ _ us hl => match us, hl with | [_, _, _, _, _], _ => rfl)⟩,
    d_L_joins := ⟨_, _, fun_mk (st := s_L_joins) l36 c36 k36, PySem.W.mg_of X G a36, (fun_mk (st := s_L_joins) l36 c36 k36).binds (ps := ps_L_joins) (fun _ _ _ _ _ _ us hl => match us, hl with | [_, _, _, _, _], _ => rfl)⟩,
    d_L_turn := ⟨_, _, fun_mk (st := s_L_turn) l37 c37 k37, PySem.W.mg_of X G a37, (fun_mk (st := s_L_turn) l37 c37 k37).binds (ps := ps_L_turn) (fun _ _ _ _ _ _ us hl => match us, hl with | [_, _, _, _, _], _ => rfl)⟩,
    d_law := ⟨_, _, fun_mk (st := s_law) l38 c38 k38, PySem.W.mg_of X G a38, (fun_mk (st := s_law) l38 c38 k38).binds (ps := ps_law) (fun _ _ _ _ _ _ us hl => match us, hl with | [_], _ => rfl)⟩,
    n_all := PySem.W.mg_none_of X G z_all,
    n_any := PySem.W.mg_none_of X G z_any,
    n_bool := PySem.W.mg_none_of X G z_bool,
    n_dict := PySem.W.mg_none_of X G z_dict,
    n_int := PySem.W.mg_none_of X G z_int,
    n_isinstance := PySem.W.mg_none_of X G z_isinstance,
    n_len := PySem.W.mg_none_of X G z_len,
    n_list := PySem.W.mg_none_of X G z_list,
    n_max := PySem.W.mg_none_of X G z_max,
    n_min := PySem.W.mg_none_of X G z_min,
    n_range := PySem.W.mg_none_of X G z_range,
    n_set := PySem.W.mg_none_of X G z_set,
    n_sorted := PySem.W.mg_none_of X G z_sorted,
    n_str := PySem.W.mg_none_of X G z_str,
    c_MOST_PARTS := ⟨_, PySem.W.mg_of X G v_MOST_PARTS⟩,
    c_MOST_SIGNS := ⟨_, PySem.W.mg_of X G v_MOST_SIGNS⟩,
    c_SIGNS := ⟨_, PySem.W.mg_of X G v_SIGNS⟩,
    cl_Book := ⟨pg, hdB, poB, saB⟩,
    a_trees := nT,
    a_older := nO,
    g_Book := PySem.W.mg_of X G aB,
    mk_Book := ⟨mkB, kcB⟩,
    x_Clashed := ⟨PySem.W.mg_of X G xg_Clashed, xx_Clashed, xk_Clashed, xb_Clashed, xt_Clashed⟩,
    x_InTheWay := ⟨PySem.W.mg_of X G xg_InTheWay, xx_InTheWay, xk_InTheWay, xb_InTheWay, xt_InTheWay⟩,
    x_NoClash := ⟨PySem.W.mg_of X G xg_NoClash, xx_NoClash, xk_NoClash, xb_NoClash, xt_NoClash⟩,
    x_NoFile := ⟨PySem.W.mg_of X G xg_NoFile, xx_NoFile, xk_NoFile, xb_NoFile, xt_NoFile⟩,
    x_NoPath := ⟨PySem.W.mg_of X G xg_NoPath, xx_NoPath, xk_NoPath, xb_NoPath, xt_NoPath⟩,
    x_NoVersion := ⟨PySem.W.mg_of X G xg_NoVersion, xx_NoVersion, xk_NoVersion, xb_NoVersion, xt_NoVersion⟩,
    x_RoadError := ⟨PySem.W.mg_of X G xg_RoadError, xx_RoadError, xk_RoadError, xb_RoadError, xt_RoadError⟩,
    x_SameVersion := ⟨PySem.W.mg_of X G xg_SameVersion, xx_SameVersion, xk_SameVersion, xb_SameVersion, xt_SameVersion⟩,
    e_NoPath := ⟨y0_NoPath, y1_NoPath, y2_NoPath, y3_NoPath, y4_NoPath, y5_NoPath, y6_NoPath, y7_NoPath⟩,
    m_NoPath_RoadError := m_NoPath_RoadError,
    q_NoPath_NoPath := q_NoPath_NoPath,
    q_NoPath_NoFile := q_NoPath_NoFile,
    q_NoPath_InTheWay := q_NoPath_InTheWay,
    q_NoPath_SameVersion := q_NoPath_SameVersion,
    q_NoPath_NoClash := q_NoPath_NoClash,
    q_NoPath_Clashed := q_NoPath_Clashed,
    e_NoFile := ⟨y0_NoFile, y1_NoFile, y2_NoFile, y3_NoFile, y4_NoFile, y5_NoFile, y6_NoFile, y7_NoFile⟩,
    m_NoFile_RoadError := m_NoFile_RoadError,
    q_NoFile_NoPath := q_NoFile_NoPath,
    q_NoFile_NoFile := q_NoFile_NoFile,
    q_NoFile_InTheWay := q_NoFile_InTheWay,
    q_NoFile_SameVersion := q_NoFile_SameVersion,
    q_NoFile_NoClash := q_NoFile_NoClash,
    q_NoFile_Clashed := q_NoFile_Clashed,
    e_InTheWay := ⟨y0_InTheWay, y1_InTheWay, y2_InTheWay, y3_InTheWay, y4_InTheWay, y5_InTheWay, y6_InTheWay, y7_InTheWay⟩,
    m_InTheWay_RoadError := m_InTheWay_RoadError,
    q_InTheWay_NoPath := q_InTheWay_NoPath,
    q_InTheWay_NoFile := q_InTheWay_NoFile,
    q_InTheWay_InTheWay := q_InTheWay_InTheWay,
    q_InTheWay_SameVersion := q_InTheWay_SameVersion,
    q_InTheWay_NoClash := q_InTheWay_NoClash,
    q_InTheWay_Clashed := q_InTheWay_Clashed,
    e_NoClash := ⟨y0_NoClash, y1_NoClash, y2_NoClash, y3_NoClash, y4_NoClash, y5_NoClash, y6_NoClash, y7_NoClash⟩,
    m_NoClash_RoadError := m_NoClash_RoadError,
    q_NoClash_NoPath := q_NoClash_NoPath,
    q_NoClash_NoFile := q_NoClash_NoFile,
    q_NoClash_InTheWay := q_NoClash_InTheWay,
    q_NoClash_SameVersion := q_NoClash_SameVersion,
    q_NoClash_NoClash := q_NoClash_NoClash,
    q_NoClash_Clashed := q_NoClash_Clashed,
    e_Clashed := ⟨y0_Clashed, y1_Clashed, y2_Clashed, y3_Clashed, y4_Clashed, y5_Clashed, y6_Clashed, y7_Clashed⟩,
    m_Clashed_RoadError := m_Clashed_RoadError,
    q_Clashed_NoPath := q_Clashed_NoPath,
    q_Clashed_NoFile := q_Clashed_NoFile,
    q_Clashed_InTheWay := q_Clashed_InTheWay,
    q_Clashed_SameVersion := q_Clashed_SameVersion,
    q_Clashed_NoClash := q_Clashed_NoClash,
    q_Clashed_Clashed := q_Clashed_Clashed,
    e_NoVersion := ⟨y0_NoVersion, y1_NoVersion, y2_NoVersion, y3_NoVersion, y4_NoVersion, y5_NoVersion, y6_NoVersion, y7_NoVersion⟩,
    m_NoVersion_RoadError := m_NoVersion_RoadError,
    q_NoVersion_NoPath := q_NoVersion_NoPath,
    q_NoVersion_NoFile := q_NoVersion_NoFile,
    q_NoVersion_InTheWay := q_NoVersion_InTheWay,
    q_NoVersion_SameVersion := q_NoVersion_SameVersion,
    q_NoVersion_NoClash := q_NoVersion_NoClash,
    q_NoVersion_Clashed := q_NoVersion_Clashed,
    e_SameVersion := ⟨y0_SameVersion, y1_SameVersion, y2_SameVersion, y3_SameVersion, y4_SameVersion, y5_SameVersion, y6_SameVersion, y7_SameVersion⟩,
    m_SameVersion_RoadError := m_SameVersion_RoadError,
    q_SameVersion_NoPath := q_SameVersion_NoPath,
    q_SameVersion_NoFile := q_SameVersion_NoFile,
    q_SameVersion_InTheWay := q_SameVersion_InTheWay,
    q_SameVersion_SameVersion := q_SameVersion_SameVersion,
    q_SameVersion_NoClash := q_SameVersion_NoClash,
    q_SameVersion_Clashed := q_SameVersion_Clashed }
  have e := hfa.symm.trans (PySem.W.mg_of X G a38)
  cases e
  refine ⟨PySem.W.fnOf "law" "law" (defArgs s_law) (defBody s_law) (defScope s_law) .none kV38 dc38 pm38 an38 cd38 ct38, fun s v => .of_eq rfl, fun base hb1 hb2 => ?_⟩
  obtain ⟨f, fd, F, g, kp, b, oc, od, osl, lk⟩ := (oklaw (P := P) (w := w) (base := base) T).ex
  have e2 := hfa.symm.trans g
  cases e2
  have e3 := lk.symm.trans l38
  cases e3
  exact F
theorem walk {l : PySem.W.OpenLaw} {q : Program} {loose : List Str} {XP : (Str → Option Value) → Heap → Prop} {YP : World → Heap → Prop} {d : DefRec} {K : Params → PySem.W.Frag} (hn : l.most = some 63) (hdf : d.params.defaults = [])
    (hY : ∀ (w : World) (h : Heap), YP w h → (K w.params).In h)
    (F : ∀ (w : World) (mg : Str → Option Value) (fa : Addr) (h : Heap), (K w.params).In h → h.Ns mainGlobals mg → mg d.name = some (.ref fa) →
      ∃ fd : FuncData, (∀ (s : Shared) (u : Value), BindsTo s fd ⟨[u], []⟩ [("_law_script", u)]) ∧ ∀ base : Heap, (K w.params).In base → base.Ns mainGlobals mg → FnOk l.prog w (K w.params) mg base CX0 9 fa fd ["_law_script"] (spLaw (K w.params))) :
    PySem.W.WalkO q loose XP YP l.row.toRowW d [] (fun f vs => PySem.call f vs) :=
  L2.walk_ofB (n := 63) (k := 9) (x := "_law_script") (CX := fun _ => CX0) (sp := fun w => spLaw (K w.params)) hn (by decide) hdf ⟨rfl, by decide, by decide⟩ hY F (fun _ _ a ns hl hb _ hS => ⟨a, ns, rfl, hS, hl, bits_of hb, fun _ => rfl⟩) fun _ _ _ _ _ z => z
end T
open PySem PySem.W PyProof.Rows
set_option maxRecDepth 100000 in
set_option maxHeartbeats 0 in
theorem PySem.Challenge.cw_threeroad_k11_whole_every_version_stands_holds : PySem.Challenge.rw_threeroad_k11_whole_every_version_stands.Holds := by
  w_on; o_law; k_head; (case hw => w_witness2)
  k_fill
  refine T.walk (l := PySem.Challenge.rw_threeroad_k11_whole_every_version_stands) rfl rfl (fun w h Y => PySem.W.kIn_of Y) ?F
  case F =>
    intro w mg fa h KX G hmg
    refine' T.all_mk KX G hmg ?a0 ?l0 ?c0 ?k0 ?a1 ?l1 ?c1 ?k1 ?a2 ?l2 ?c2 ?k2 ?a3 ?l3 ?c3 ?k3 ?a4 ?l4 ?c4 ?k4 ?a5 ?l5 ?c5 ?k5 ?a6 ?l6 ?c6 ?k6 ?a7 ?l7 ?c7 ?k7 ?a8 ?l8 ?c8 ?k8 ?a9 ?l9 ?c9 ?k9 ?a10 ?l10 ?c10 ?k10 ?a11 ?l11 ?c11 ?k11 ?a12 ?l12 ?c12 ?k12 ?a13 ?l13 ?c13 ?k13 ?a14 ?l14 ?c14 ?k14 ?a15 ?l15 ?c15 ?k15 ?a16 ?l16 ?c16 ?k16 ?a17 ?l17 ?c17 ?k17 ?a18 ?l18 ?c18 ?k18 ?a19 ?l19 ?c19 ?k19 ?a20 ?i20 ?l20 ?c20 ?k20 ?a21 ?i21 ?l21 ?c21 ?k21 ?a22 ?i22 ?l22 ?c22 ?k22 ?a23 ?i23 ?l23 ?c23 ?k23 ?a24 ?i24 ?l24 ?c24 ?k24 ?a25 ?i25 ?l25 ?c25 ?k25 ?a26 ?i26 ?l26 ?c26 ?k26 ?a27 ?i27 ?l27 ?c27 ?k27 ?a28 ?i28 ?l28 ?c28 ?k28 ?a29 ?i29 ?l29 ?c29 ?k29 ?a30 ?l30 ?c30 ?k30 ?a31 ?l31 ?c31 ?k31 ?a32 ?l32 ?c32 ?k32 ?a33 ?l33 ?c33 ?k33 ?a34 ?l34 ?c34 ?k34 ?a35 ?l35 ?c35 ?k35 ?a36 ?l36 ?c36 ?k36 ?a37 ?l37 ?c37 ?k37 ?a38 ?l38 ?c38 ?k38 ?z_all ?z_any ?z_bool ?z_dict ?z_int ?z_isinstance ?z_len ?z_list ?z_max ?z_min ?z_range ?z_set ?z_sorted ?z_str ?v_MOST_PARTS ?v_MOST_SIGNS ?v_SIGNS ?aB ?pg ?hdB ?poB ?saB ?nT ?nO ?mkB ?kcB ?xg_Clashed ?xx_Clashed ?xk_Clashed ?xb_Clashed ?xt_Clashed ?xg_InTheWay ?xx_InTheWay ?xk_InTheWay ?xb_InTheWay ?xt_InTheWay ?xg_NoClash ?xx_NoClash ?xk_NoClash ?xb_NoClash ?xt_NoClash ?xg_NoFile ?xx_NoFile ?xk_NoFile ?xb_NoFile ?xt_NoFile ?xg_NoPath ?xx_NoPath ?xk_NoPath ?xb_NoPath ?xt_NoPath ?xg_NoVersion ?xx_NoVersion ?xk_NoVersion ?xb_NoVersion ?xt_NoVersion ?xg_RoadError ?xx_RoadError ?xk_RoadError ?xb_RoadError ?xt_RoadError ?xg_SameVersion ?xx_SameVersion ?xk_SameVersion ?xb_SameVersion ?xt_SameVersion ?y0_NoPath ?y1_NoPath ?y2_NoPath ?y3_NoPath ?y4_NoPath ?y5_NoPath ?y6_NoPath ?y7_NoPath ?m_NoPath_RoadError ?q_NoPath_NoPath ?q_NoPath_NoFile ?q_NoPath_InTheWay ?q_NoPath_SameVersion ?q_NoPath_NoClash ?q_NoPath_Clashed ?y0_NoFile ?y1_NoFile ?y2_NoFile ?y3_NoFile ?y4_NoFile ?y5_NoFile ?y6_NoFile ?y7_NoFile ?m_NoFile_RoadError ?q_NoFile_NoPath ?q_NoFile_NoFile ?q_NoFile_InTheWay ?q_NoFile_SameVersion ?q_NoFile_NoClash ?q_NoFile_Clashed ?y0_InTheWay ?y1_InTheWay ?y2_InTheWay ?y3_InTheWay ?y4_InTheWay ?y5_InTheWay ?y6_InTheWay ?y7_InTheWay ?m_InTheWay_RoadError ?q_InTheWay_NoPath ?q_InTheWay_NoFile ?q_InTheWay_InTheWay ?q_InTheWay_SameVersion ?q_InTheWay_NoClash ?q_InTheWay_Clashed ?y0_NoClash ?y1_NoClash ?y2_NoClash ?y3_NoClash ?y4_NoClash ?y5_NoClash ?y6_NoClash ?y7_NoClash ?m_NoClash_RoadError ?q_NoClash_NoPath ?q_NoClash_NoFile ?q_NoClash_InTheWay ?q_NoClash_SameVersion ?q_NoClash_NoClash ?q_NoClash_Clashed ?y0_Clashed ?y1_Clashed ?y2_Clashed ?y3_Clashed ?y4_Clashed ?y5_Clashed ?y6_Clashed ?y7_Clashed ?m_Clashed_RoadError ?q_Clashed_NoPath ?q_Clashed_NoFile ?q_Clashed_InTheWay ?q_Clashed_SameVersion ?q_Clashed_NoClash ?q_Clashed_Clashed ?y0_NoVersion ?y1_NoVersion ?y2_NoVersion ?y3_NoVersion ?y4_NoVersion ?y5_NoVersion ?y6_NoVersion ?y7_NoVersion ?m_NoVersion_RoadError ?q_NoVersion_NoPath ?q_NoVersion_NoFile ?q_NoVersion_InTheWay ?q_NoVersion_SameVersion ?q_NoVersion_NoClash ?q_NoVersion_Clashed ?y0_SameVersion ?y1_SameVersion ?y2_SameVersion ?y3_SameVersion ?y4_SameVersion ?y5_SameVersion ?y6_SameVersion ?y7_SameVersion ?m_SameVersion_RoadError ?q_SameVersion_NoPath ?q_SameVersion_NoFile ?q_SameVersion_InTheWay ?q_SameVersion_SameVersion ?q_SameVersion_NoClash ?q_SameVersion_Clashed
    (case aB => first | k_is | k_exc | rfl)
    (case a0 => first | k_is | k_exc | rfl)
    (case l0 => first | k_is | k_exc | rfl)
    (case c0 => first | k_is | k_exc | rfl)
    (case k0 => first | k_is | k_exc | rfl)
    (case a1 => first | k_is | k_exc | rfl)
    (case l1 => first | k_is | k_exc | rfl)
    (case c1 => first | k_is | k_exc | rfl)
    (case k1 => first | k_is | k_exc | rfl)
    (case a2 => first | k_is | k_exc | rfl)
    (case l2 => first | k_is | k_exc | rfl)
    (case c2 => first | k_is | k_exc | rfl)
    (case k2 => first | k_is | k_exc | rfl)
    (case a3 => first | k_is | k_exc | rfl)
    (case l3 => first | k_is | k_exc | rfl)
    (case c3 => first | k_is | k_exc | rfl)
    (case k3 => first | k_is | k_exc | rfl)
    (case a4 => first | k_is | k_exc | rfl)
    (case l4 => first | k_is | k_exc | rfl)
    (case c4 => first | k_is | k_exc | rfl)
    (case k4 => first | k_is | k_exc | rfl)
    (case a5 => first | k_is | k_exc | rfl)
    (case l5 => first | k_is | k_exc | rfl)
    (case c5 => first | k_is | k_exc | rfl)
    (case k5 => first | k_is | k_exc | rfl)
    (case a6 => first | k_is | k_exc | rfl)
    (case l6 => first | k_is | k_exc | rfl)
    (case c6 => first | k_is | k_exc | rfl)
    (case k6 => first | k_is | k_exc | rfl)
    (case a7 => first | k_is | k_exc | rfl)
    (case l7 => first | k_is | k_exc | rfl)
    (case c7 => first | k_is | k_exc | rfl)
    (case k7 => first | k_is | k_exc | rfl)
    (case a8 => first | k_is | k_exc | rfl)
    (case l8 => first | k_is | k_exc | rfl)
    (case c8 => first | k_is | k_exc | rfl)
    (case k8 => first | k_is | k_exc | rfl)
    (case a9 => first | k_is | k_exc | rfl)
    (case l9 => first | k_is | k_exc | rfl)
    (case c9 => first | k_is | k_exc | rfl)
    (case k9 => first | k_is | k_exc | rfl)
    (case a10 => first | k_is | k_exc | rfl)
    (case l10 => first | k_is | k_exc | rfl)
    (case c10 => first | k_is | k_exc | rfl)
    (case k10 => first | k_is | k_exc | rfl)
    (case a11 => first | k_is | k_exc | rfl)
    (case l11 => first | k_is | k_exc | rfl)
    (case c11 => first | k_is | k_exc | rfl)
    (case k11 => first | k_is | k_exc | rfl)
    (case a12 => first | k_is | k_exc | rfl)
    (case l12 => first | k_is | k_exc | rfl)
    (case c12 => first | k_is | k_exc | rfl)
    (case k12 => first | k_is | k_exc | rfl)
    (case a13 => first | k_is | k_exc | rfl)
    (case l13 => first | k_is | k_exc | rfl)
    (case c13 => first | k_is | k_exc | rfl)
    (case k13 => first | k_is | k_exc | rfl)
    (case a14 => first | k_is | k_exc | rfl)
    (case l14 => first | k_is | k_exc | rfl)
    (case c14 => first | k_is | k_exc | rfl)
    (case k14 => first | k_is | k_exc | rfl)
    (case a15 => first | k_is | k_exc | rfl)
    (case l15 => first | k_is | k_exc | rfl)
    (case c15 => first | k_is | k_exc | rfl)
    (case k15 => first | k_is | k_exc | rfl)
    (case a16 => first | k_is | k_exc | rfl)
    (case l16 => first | k_is | k_exc | rfl)
    (case c16 => first | k_is | k_exc | rfl)
    (case k16 => first | k_is | k_exc | rfl)
    (case a17 => first | k_is | k_exc | rfl)
    (case l17 => first | k_is | k_exc | rfl)
    (case c17 => first | k_is | k_exc | rfl)
    (case k17 => first | k_is | k_exc | rfl)
    (case a18 => first | k_is | k_exc | rfl)
    (case l18 => first | k_is | k_exc | rfl)
    (case c18 => first | k_is | k_exc | rfl)
    (case k18 => first | k_is | k_exc | rfl)
    (case a19 => first | k_is | k_exc | rfl)
    (case l19 => first | k_is | k_exc | rfl)
    (case c19 => first | k_is | k_exc | rfl)
    (case k19 => first | k_is | k_exc | rfl)
    (case a20 => first | k_is | k_exc | rfl)
    (case i20 => first | k_is | k_exc | rfl)
    (case l20 => first | k_is | k_exc | rfl)
    (case c20 => first | k_is | k_exc | rfl)
    (case k20 => first | k_is | k_exc | rfl)
    (case a21 => first | k_is | k_exc | rfl)
    (case i21 => first | k_is | k_exc | rfl)
    (case l21 => first | k_is | k_exc | rfl)
    (case c21 => first | k_is | k_exc | rfl)
    (case k21 => first | k_is | k_exc | rfl)
    (case a22 => first | k_is | k_exc | rfl)
    (case i22 => first | k_is | k_exc | rfl)
    (case l22 => first | k_is | k_exc | rfl)
    (case c22 => first | k_is | k_exc | rfl)
    (case k22 => first | k_is | k_exc | rfl)
    (case a23 => first | k_is | k_exc | rfl)
    (case i23 => first | k_is | k_exc | rfl)
    (case l23 => first | k_is | k_exc | rfl)
    (case c23 => first | k_is | k_exc | rfl)
    (case k23 => first | k_is | k_exc | rfl)
    (case a24 => first | k_is | k_exc | rfl)
    (case i24 => first | k_is | k_exc | rfl)
    (case l24 => first | k_is | k_exc | rfl)
    (case c24 => first | k_is | k_exc | rfl)
    (case k24 => first | k_is | k_exc | rfl)
    (case a25 => first | k_is | k_exc | rfl)
    (case i25 => first | k_is | k_exc | rfl)
    (case l25 => first | k_is | k_exc | rfl)
    (case c25 => first | k_is | k_exc | rfl)
    (case k25 => first | k_is | k_exc | rfl)
    (case a26 => first | k_is | k_exc | rfl)
    (case i26 => first | k_is | k_exc | rfl)
    (case l26 => first | k_is | k_exc | rfl)
    (case c26 => first | k_is | k_exc | rfl)
    (case k26 => first | k_is | k_exc | rfl)
    (case a27 => first | k_is | k_exc | rfl)
    (case i27 => first | k_is | k_exc | rfl)
    (case l27 => first | k_is | k_exc | rfl)
    (case c27 => first | k_is | k_exc | rfl)
    (case k27 => first | k_is | k_exc | rfl)
    (case a28 => first | k_is | k_exc | rfl)
    (case i28 => first | k_is | k_exc | rfl)
    (case l28 => first | k_is | k_exc | rfl)
    (case c28 => first | k_is | k_exc | rfl)
    (case k28 => first | k_is | k_exc | rfl)
    (case a29 => first | k_is | k_exc | rfl)
    (case i29 => first | k_is | k_exc | rfl)
    (case l29 => first | k_is | k_exc | rfl)
    (case c29 => first | k_is | k_exc | rfl)
    (case k29 => first | k_is | k_exc | rfl)
    (case a30 => first | k_is | k_exc | rfl)
    (case l30 => first | k_is | k_exc | rfl)
    (case c30 => first | k_is | k_exc | rfl)
    (case k30 => first | k_is | k_exc | rfl)
    (case a31 => first | k_is | k_exc | rfl)
    (case l31 => first | k_is | k_exc | rfl)
    (case c31 => first | k_is | k_exc | rfl)
    (case k31 => first | k_is | k_exc | rfl)
    (case a32 => first | k_is | k_exc | rfl)
    (case l32 => first | k_is | k_exc | rfl)
    (case c32 => first | k_is | k_exc | rfl)
    (case k32 => first | k_is | k_exc | rfl)
    (case a33 => first | k_is | k_exc | rfl)
    (case l33 => first | k_is | k_exc | rfl)
    (case c33 => first | k_is | k_exc | rfl)
    (case k33 => first | k_is | k_exc | rfl)
    (case a34 => first | k_is | k_exc | rfl)
    (case l34 => first | k_is | k_exc | rfl)
    (case c34 => first | k_is | k_exc | rfl)
    (case k34 => first | k_is | k_exc | rfl)
    (case a35 => first | k_is | k_exc | rfl)
    (case l35 => first | k_is | k_exc | rfl)
    (case c35 => first | k_is | k_exc | rfl)
    (case k35 => first | k_is | k_exc | rfl)
    (case a36 => first | k_is | k_exc | rfl)
    (case l36 => first | k_is | k_exc | rfl)
    (case c36 => first | k_is | k_exc | rfl)
    (case k36 => first | k_is | k_exc | rfl)
    (case a37 => first | k_is | k_exc | rfl)
    (case l37 => first | k_is | k_exc | rfl)
    (case c37 => first | k_is | k_exc | rfl)
    (case k37 => first | k_is | k_exc | rfl)
    (case a38 => first | k_is | k_exc | rfl)
    (case l38 => first | k_is | k_exc | rfl)
    (case c38 => first | k_is | k_exc | rfl)
    (case k38 => first | k_is | k_exc | rfl)
    (case z_all => first | k_is | k_exc | rfl)
    (case z_any => first | k_is | k_exc | rfl)
    (case z_bool => first | k_is | k_exc | rfl)
    (case z_dict => first | k_is | k_exc | rfl)
    (case z_int => first | k_is | k_exc | rfl)
    (case z_isinstance => first | k_is | k_exc | rfl)
    (case z_len => first | k_is | k_exc | rfl)
    (case z_list => first | k_is | k_exc | rfl)
    (case z_max => first | k_is | k_exc | rfl)
    (case z_min => first | k_is | k_exc | rfl)
    (case z_range => first | k_is | k_exc | rfl)
    (case z_set => first | k_is | k_exc | rfl)
    (case z_sorted => first | k_is | k_exc | rfl)
    (case z_str => first | k_is | k_exc | rfl)
    (case v_MOST_PARTS => first | k_is | k_exc | rfl)
    (case v_MOST_SIGNS => first | k_is | k_exc | rfl)
    (case v_SIGNS => first | k_is | k_exc | rfl)
    (case pg => first | k_is | k_exc | rfl)
    (case hdB => first | k_is | k_exc | rfl)
    (case poB => first | k_is | k_exc | rfl)
    (case saB => first | k_is | k_exc | rfl)
    (case nT => first | k_is | k_exc | rfl)
    (case nO => first | k_is | k_exc | rfl)
    (case mkB => first | k_is | k_exc | rfl)
    (case kcB => first | k_is | k_exc | rfl)
    (case xg_Clashed => first | k_is | k_exc | rfl)
    (case xx_Clashed => first | k_is | k_exc | rfl)
    (case xk_Clashed => first | k_is | k_exc | rfl)
    (case xb_Clashed => first | k_is | k_exc | rfl)
    (case xt_Clashed => first | k_is | k_exc | rfl)
    (case xg_InTheWay => first | k_is | k_exc | rfl)
    (case xx_InTheWay => first | k_is | k_exc | rfl)
    (case xk_InTheWay => first | k_is | k_exc | rfl)
    (case xb_InTheWay => first | k_is | k_exc | rfl)
    (case xt_InTheWay => first | k_is | k_exc | rfl)
    (case xg_NoClash => first | k_is | k_exc | rfl)
    (case xx_NoClash => first | k_is | k_exc | rfl)
    (case xk_NoClash => first | k_is | k_exc | rfl)
    (case xb_NoClash => first | k_is | k_exc | rfl)
    (case xt_NoClash => first | k_is | k_exc | rfl)
    (case xg_NoFile => first | k_is | k_exc | rfl)
    (case xx_NoFile => first | k_is | k_exc | rfl)
    (case xk_NoFile => first | k_is | k_exc | rfl)
    (case xb_NoFile => first | k_is | k_exc | rfl)
    (case xt_NoFile => first | k_is | k_exc | rfl)
    (case xg_NoPath => first | k_is | k_exc | rfl)
    (case xx_NoPath => first | k_is | k_exc | rfl)
    (case xk_NoPath => first | k_is | k_exc | rfl)
    (case xb_NoPath => first | k_is | k_exc | rfl)
    (case xt_NoPath => first | k_is | k_exc | rfl)
    (case xg_NoVersion => first | k_is | k_exc | rfl)
    (case xx_NoVersion => first | k_is | k_exc | rfl)
    (case xk_NoVersion => first | k_is | k_exc | rfl)
    (case xb_NoVersion => first | k_is | k_exc | rfl)
    (case xt_NoVersion => first | k_is | k_exc | rfl)
    (case xg_RoadError => first | k_is | k_exc | rfl)
    (case xx_RoadError => first | k_is | k_exc | rfl)
    (case xk_RoadError => first | k_is | k_exc | rfl)
    (case xb_RoadError => first | k_is | k_exc | rfl)
    (case xt_RoadError => first | k_is | k_exc | rfl)
    (case xg_SameVersion => first | k_is | k_exc | rfl)
    (case xx_SameVersion => first | k_is | k_exc | rfl)
    (case xk_SameVersion => first | k_is | k_exc | rfl)
    (case xb_SameVersion => first | k_is | k_exc | rfl)
    (case xt_SameVersion => first | k_is | k_exc | rfl)
    (case y0_NoPath => first | k_is | k_exc | rfl)
    (case y1_NoPath => first | k_is | k_exc | rfl)
    (case y2_NoPath => first | k_is | k_exc | rfl)
    (case y3_NoPath => first | k_is | k_exc | rfl)
    (case y4_NoPath => first | k_is | k_exc | rfl)
    (case y5_NoPath => first | k_is | k_exc | rfl)
    (case y6_NoPath => first | k_is | k_exc | rfl)
    (case y7_NoPath => first | k_is | k_exc | rfl)
    (case m_NoPath_RoadError => first | k_is | k_exc | rfl)
    (case q_NoPath_NoPath => first | k_is | k_exc | rfl)
    (case q_NoPath_NoFile => first | k_is | k_exc | rfl)
    (case q_NoPath_InTheWay => first | k_is | k_exc | rfl)
    (case q_NoPath_SameVersion => first | k_is | k_exc | rfl)
    (case q_NoPath_NoClash => first | k_is | k_exc | rfl)
    (case q_NoPath_Clashed => first | k_is | k_exc | rfl)
    (case y0_NoFile => first | k_is | k_exc | rfl)
    (case y1_NoFile => first | k_is | k_exc | rfl)
    (case y2_NoFile => first | k_is | k_exc | rfl)
    (case y3_NoFile => first | k_is | k_exc | rfl)
    (case y4_NoFile => first | k_is | k_exc | rfl)
    (case y5_NoFile => first | k_is | k_exc | rfl)
    (case y6_NoFile => first | k_is | k_exc | rfl)
    (case y7_NoFile => first | k_is | k_exc | rfl)
    (case m_NoFile_RoadError => first | k_is | k_exc | rfl)
    (case q_NoFile_NoPath => first | k_is | k_exc | rfl)
    (case q_NoFile_NoFile => first | k_is | k_exc | rfl)
    (case q_NoFile_InTheWay => first | k_is | k_exc | rfl)
    (case q_NoFile_SameVersion => first | k_is | k_exc | rfl)
    (case q_NoFile_NoClash => first | k_is | k_exc | rfl)
    (case q_NoFile_Clashed => first | k_is | k_exc | rfl)
    (case y0_InTheWay => first | k_is | k_exc | rfl)
    (case y1_InTheWay => first | k_is | k_exc | rfl)
    (case y2_InTheWay => first | k_is | k_exc | rfl)
    (case y3_InTheWay => first | k_is | k_exc | rfl)
    (case y4_InTheWay => first | k_is | k_exc | rfl)
    (case y5_InTheWay => first | k_is | k_exc | rfl)
    (case y6_InTheWay => first | k_is | k_exc | rfl)
    (case y7_InTheWay => first | k_is | k_exc | rfl)
    (case m_InTheWay_RoadError => first | k_is | k_exc | rfl)
    (case q_InTheWay_NoPath => first | k_is | k_exc | rfl)
    (case q_InTheWay_NoFile => first | k_is | k_exc | rfl)
    (case q_InTheWay_InTheWay => first | k_is | k_exc | rfl)
    (case q_InTheWay_SameVersion => first | k_is | k_exc | rfl)
    (case q_InTheWay_NoClash => first | k_is | k_exc | rfl)
    (case q_InTheWay_Clashed => first | k_is | k_exc | rfl)
    (case y0_NoClash => first | k_is | k_exc | rfl)
    (case y1_NoClash => first | k_is | k_exc | rfl)
    (case y2_NoClash => first | k_is | k_exc | rfl)
    (case y3_NoClash => first | k_is | k_exc | rfl)
    (case y4_NoClash => first | k_is | k_exc | rfl)
    (case y5_NoClash => first | k_is | k_exc | rfl)
    (case y6_NoClash => first | k_is | k_exc | rfl)
    (case y7_NoClash => first | k_is | k_exc | rfl)
    (case m_NoClash_RoadError => first | k_is | k_exc | rfl)
    (case q_NoClash_NoPath => first | k_is | k_exc | rfl)
    (case q_NoClash_NoFile => first | k_is | k_exc | rfl)
    (case q_NoClash_InTheWay => first | k_is | k_exc | rfl)
    (case q_NoClash_SameVersion => first | k_is | k_exc | rfl)
    (case q_NoClash_NoClash => first | k_is | k_exc | rfl)
    (case q_NoClash_Clashed => first | k_is | k_exc | rfl)
    (case y0_Clashed => first | k_is | k_exc | rfl)
    (case y1_Clashed => first | k_is | k_exc | rfl)
    (case y2_Clashed => first | k_is | k_exc | rfl)
    (case y3_Clashed => first | k_is | k_exc | rfl)
    (case y4_Clashed => first | k_is | k_exc | rfl)
    (case y5_Clashed => first | k_is | k_exc | rfl)
    (case y6_Clashed => first | k_is | k_exc | rfl)
    (case y7_Clashed => first | k_is | k_exc | rfl)
    (case m_Clashed_RoadError => first | k_is | k_exc | rfl)
    (case q_Clashed_NoPath => first | k_is | k_exc | rfl)
    (case q_Clashed_NoFile => first | k_is | k_exc | rfl)
    (case q_Clashed_InTheWay => first | k_is | k_exc | rfl)
    (case q_Clashed_SameVersion => first | k_is | k_exc | rfl)
    (case q_Clashed_NoClash => first | k_is | k_exc | rfl)
    (case q_Clashed_Clashed => first | k_is | k_exc | rfl)
    (case y0_NoVersion => first | k_is | k_exc | rfl)
    (case y1_NoVersion => first | k_is | k_exc | rfl)
    (case y2_NoVersion => first | k_is | k_exc | rfl)
    (case y3_NoVersion => first | k_is | k_exc | rfl)
    (case y4_NoVersion => first | k_is | k_exc | rfl)
    (case y5_NoVersion => first | k_is | k_exc | rfl)
    (case y6_NoVersion => first | k_is | k_exc | rfl)
    (case y7_NoVersion => first | k_is | k_exc | rfl)
    (case m_NoVersion_RoadError => first | k_is | k_exc | rfl)
    (case q_NoVersion_NoPath => first | k_is | k_exc | rfl)
    (case q_NoVersion_NoFile => first | k_is | k_exc | rfl)
    (case q_NoVersion_InTheWay => first | k_is | k_exc | rfl)
    (case q_NoVersion_SameVersion => first | k_is | k_exc | rfl)
    (case q_NoVersion_NoClash => first | k_is | k_exc | rfl)
    (case q_NoVersion_Clashed => first | k_is | k_exc | rfl)
    (case y0_SameVersion => first | k_is | k_exc | rfl)
    (case y1_SameVersion => first | k_is | k_exc | rfl)
    (case y2_SameVersion => first | k_is | k_exc | rfl)
    (case y3_SameVersion => first | k_is | k_exc | rfl)
    (case y4_SameVersion => first | k_is | k_exc | rfl)
    (case y5_SameVersion => first | k_is | k_exc | rfl)
    (case y6_SameVersion => first | k_is | k_exc | rfl)
    (case y7_SameVersion => first | k_is | k_exc | rfl)
    (case m_SameVersion_RoadError => first | k_is | k_exc | rfl)
    (case q_SameVersion_NoPath => first | k_is | k_exc | rfl)
    (case q_SameVersion_NoFile => first | k_is | k_exc | rfl)
    (case q_SameVersion_InTheWay => first | k_is | k_exc | rfl)
    (case q_SameVersion_SameVersion => first | k_is | k_exc | rfl)
    (case q_SameVersion_NoClash => first | k_is | k_exc | rfl)
    (case q_SameVersion_Clashed => first | k_is | k_exc | rfl)
#print axioms PySem.Challenge.cw_threeroad_k11_whole_every_version_stands_holds
