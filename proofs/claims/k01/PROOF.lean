import PyProof.Rows.All
import Wide.All
import OpenK.AllK
import Wide.FinOn
import PyProof.StrBlock2
import HandS.ForMost
import HandS.Evl
import HandS.Walk
import HandS.Codes
import HandS.IsInst
import HandS.Exc
import HandS.ExcOwn
import HandS.TryOnly
import HandS.WordsExc
import KE.KStateDown
import HandS.Defaults
import HandS.Head0
import HandS.Head1
import HandS.Head2
import HandS.HeadEnd
import HandS.HeadHook1
import HandS.HeadHook2
import PySem.Challenge.RW_chunkshelf_k01_weights
set_option Elab.async false
set_option linter.all false
set_option maxRecDepth 100000
set_option maxHeartbeats 4000000
namespace Ck
open PySem L2 Evl

/-! text times int -/
def rMulS : R2 := fun x y H Q => ∃ (l : List Nat) (k : Int), x = .str (SX.S l) ∧ y = .int k ∧ -100000 < k ∧ k < 100000 ∧ l.length * k.toNat ≤ 4000000 ∧ Q (.str (SX.S (List.replicate k.toNat l).flatten)) H
theorem foldl_cat (a : Array Nat) : ∀ (n : Nat) (acc : Array Nat), (List.replicate n a).foldl (· ++ ·) acc = (acc.toList ++ (List.replicate n a.toList).flatten).toArray
  | 0, acc => by simp
  | n + 1, acc => by
    rw [List.replicate_succ, List.foldl_cons, foldl_cat a n, List.replicate_succ, List.flatten_cons]
    simp
theorem mul_S (l : List Nat) (k : Int) : Txt.mul (SX.S l) k = SX.S (List.replicate k.toNat l).flatten := by
  unfold Txt.mul
  by_cases h1 : k < 1
  · rw [if_pos h1]
    have e : k.toNat = 0 := by omega
    rw [e]; rfl
  · rw [if_neg h1]
    by_cases h2 : (k == 1 || (SX.S l).length == 0) = true
    · rw [if_pos h2]
      rw [Bool.or_eq_true, beq_iff_eq, beq_iff_eq] at h2
      rcases h2 with h2 | h2
      · subst h2
        show SX.S l = SX.S (List.replicate 1 l).flatten
        simp
      · rw [SX.S_len] at h2
        have e : l = [] := List.length_eq_zero_iff.mp h2
        subst e
        simp
    · rw [if_neg h2, foldl_cat]
      simp
section
variable {X : Cx}
theorem op_mulS : OpR X (binaryOp .Mult) rMulS := by
  intro pins s σ H x y v u Q I rx ry h
  obtain ⟨l, k, rfl, rfl, hk0, hk, hz, q⟩ := h
  obtain ⟨t, rfl⟩ := rx
  obtain ⟨t', rfl⟩ := ry
  refine SB.mul ⟨?_, fun h1 h2 => ?_, fun h1 h2 => ?_⟩ (fun t2 k2 => ⟨.str (Txt.mul (SX.S l) k), H, I.tok _, ⟨_, rfl⟩, ?_⟩)
  · rw [Bool.or_eq_false_iff]
    exact ⟨decide_eq_false (by omega), decide_eq_false (by omega)⟩
  · rw [SX.S_len]
    have hl : l.length ≤ 4000000 := by
      have h3 : 1 ≤ k.toNat := by omega
      have := Nat.le_mul_of_pos_right l.length h3
      omega
    have h4 : (100000000 : Int) ≤ (2 ^ 63 - 1) / k := by
      rw [Int.le_ediv_iff_mul_le (by omega)]
      omega
    omega
  · rw [SX.S_len]
    unfold Builtin.Str.tooLong
    exact decide_eq_false (by rw [sizeLine_eq]; omega)
  · rw [mul_S]; exact q
end

/-! values evaluated, with a base heap -/
section
variable {K : PySem.W.Frag} {σ : L2.St} {H H' : Hp} {ta tb te tx : TE} {t u : TT} {x y z v : V} {D : Ends} {tu tw tz : TS} {g : TG}
theorem rv_eqI {i j : Int} : RV rEq (.int i) (.int j) H (.bl (decide (i = j))) := by
  refine rv_val fun H1 e Q q => ⟨rfl, ?_⟩
  have e : decide (V.int i = V.int j) = decide (i = j) := by simp
  rw [e]; exact q
theorem rv_neI {i j : Int} : RV rNe (.int i) (.int j) H (.bl (!decide (i = j))) := by
  refine rv_val fun H1 e Q q => ⟨rfl, ?_⟩
  have e : decide (V.int i = V.int j) = decide (i = j) := by simp
  rw [e]; exact q
theorem rv_eqS {i j : List Nat} : RV rEq (.str (SX.S i)) (.str (SX.S j)) H (.bl (decide (i = j))) := by
  refine rv_val fun H1 e Q q => ⟨rfl, ?_⟩
  have e : decide (V.str (SX.S i) = V.str (SX.S j)) = decide (i = j) := by
    rw [decide_eq_decide]
    exact ⟨fun h => SX.S_inj (V.str.inj h), fun h => by rw [h]⟩
  rw [e]; exact q
theorem rv_addS {i j : List Nat} (h : i.length + j.length ≤ 1000000) : RV (fun x y H Q => ∃ i j, x = .str i ∧ y = .str j ∧ i.length + j.length ≤ sizeLine ∧ Q (.str (i ++ j)) H) (.str (SX.S i)) (.str (SX.S j)) H (.str (SX.S (i ++ j))) := by
  refine rv_val fun H1 e Q q => ⟨SX.S i, SX.S j, rfl, rfl, ?_, ?_⟩
  · rw [SX.S_len, SX.S_len, sizeLine_eq]; omega
  · rw [SX.S_cat]; exact q
theorem rv_mulS {l : List Nat} {k : Int} (h1 : -100000 < k) (h2 : k < 100000) (h3 : l.length * k.toNat ≤ 4000000) : RV rMulS (.str (SX.S l)) (.int k) H (.str (SX.S (List.replicate k.toNat l).flatten)) :=
  rv_val fun _ _ _ q => ⟨l, k, rfl, rfl, h1, h2, h3, q⟩
theorem rv_ixS' {l : List Nat} {i : Int} {c : Nat} (h : l.length ≤ 100000) (h0 : 0 ≤ i) (hc : l[i.toNat]? = some c) : RV rIxS (.str (SX.S l)) (.int i) H (.str (SX.S [c])) := by
  refine rv_ixS (by rw [SX.S_len]; exact h) ?_
  have e : ((i.toNat : Nat) : Int) = i := by omega
  rw [← e]
  exact atI_nat hc
theorem rv_ixL' {p : Addr} {xs : List V} {i : Int} (h : SqL K H p xs) (h0 : 0 ≤ i) (ha : xs[i.toNat]? = some v) : RV (rIxL K) (.ref p) (.int i) H v := by
  refine rv_ixL h ?_
  have e : ((i.toNat : Nat) : Int) = i := by omega
  rw [← e]
  exact atI_nat ha
theorem ev_ord {c : Nat} (ha : Ev ta σ H (.str (SX.S [c]))) : Ev (tCB (fun xs H Q => ∃ x, xs = [.str x] ∧ x.length = 1 ∧ Q (.int (x.cps.getD 0 0 : Nat)) H) (tCons ta tNil)) σ H (.int (c : Int)) := fun H1 e Q q =>
  ha H1 e _ fun H2 e2 => ⟨SX.S [c], rfl, rfl, q H2 e2⟩
theorem ev_lenS {l : List Nat} (ha : Ev ta σ H (.str (SX.S l))) (hl : l.length ≤ 1000000) : Ev (tCB (fun xs H Q => ∃ z, xs = [.str z] ∧ z.length ≤ sizeLine ∧ Q (.int z.length) H) (tCons ta tNil)) σ H (.int (l.length : Int)) := fun H1 e Q q =>
  ha H1 e _ fun H2 e2 => ⟨SX.S l, rfl, by rw [SX.S_len, sizeLine_eq]; omega, by rw [SX.S_len]; exact q H2 e2⟩
theorem ev_sliceS {l : List Nat} {tl th : TO} {lo hi : Option Int} (h : Ev te σ H (.str (SX.S l))) (hl : l.length ≤ 4000000) (h1 : EvO tl σ H lo) (h2 : EvO th σ H hi) : Ev (tSl rSlS te tl th) σ H (.str (cutS (SX.S l) lo hi)) := fun H1 e Q q =>
  h H1 e _ fun H2 e2 => h1 H2 (e.trans e2) _ fun H3 e3 => h2 H3 ((e.trans e2).trans e3) _ fun H4 e4 => ⟨SX.S l, rfl, by rw [SX.S_len, sizeLine_eq]; omega, q H4 ((e2.trans e3).trans e4)⟩
theorem cut_S (l : List Nat) (lo hi : Option Int) : cutS (SX.S l) lo hi = SX.S ((l.drop (HT.sIx l.length 0 lo)).take (HT.sIx l.length l.length hi - HT.sIx l.length 0 lo)) := by
  unfold cutS
  rw [SX.S_len]
theorem cut_to {l : List Nat} {i : Int} (h : 0 ≤ i) : cutS (SX.S l) none (some i) = SX.S (l.take i.toNat) := by
  rw [C8.cutS_slice, SX.slice_to h]
theorem cut_from {l : List Nat} {i : Int} (h : 0 ≤ i) : cutS (SX.S l) (some i) none = SX.S (l.drop i.toNat) := by
  rw [C8.cutS_slice, SX.slice_from h]
theorem cut_mid {l : List Nat} {i j : Int} (h : 0 ≤ i) (hj : 0 ≤ j) : cutS (SX.S l) (some i) (some j) = SX.S ((l.drop i.toNat).take (j.toNat - i.toNat)) := by
  rw [cut_S]
  have e1 : HT.sIx l.length 0 (some i) = min i.toNat l.length := by
    have := HT.sIx_nat l.length 0 i.toNat
    rwa [show ((i.toNat : Nat) : Int) = i by omega] at this
  have e2 : HT.sIx l.length l.length (some j) = min j.toNat l.length := by
    have := HT.sIx_nat l.length l.length j.toNat
    rwa [show ((j.toNat : Nat) : Int) = j by omega] at this
  rw [e1, e2]
  congr 1
  by_cases hl : i.toNat ≤ l.length
  · rw [Nat.min_eq_left hl]
    by_cases hl2 : j.toNat ≤ l.length
    · rw [Nat.min_eq_left hl2]
    · rw [Nat.min_eq_right (by omega)]
      rw [List.take_of_length_le (by rw [List.length_drop]; omega), List.take_of_length_le (by rw [List.length_drop]; omega)]
  · rw [List.drop_eq_nil_of_le (show l.length ≤ i.toNat by omega), List.drop_eq_nil_of_le (by omega)]
    simp
end
/-! kinds of values -/
inductive TN (H : Hp) : V → String → Prop where
  | non : TN H .non "NoneType"
  | bl (b : Bool) : TN H (.bl b) "bool"
  | int (i : Int) : TN H (.int i) "int"
  | str (x : Str) : TN H (.str x) "str"
  | lst {a : Addr} {xs : List V} (e : H a = some (.lst xs)) : TN H (.ref a) "list"
  | tup {a : Addr} {xs : List V} (e : H a = some (.tup xs)) : TN H (.ref a) "tuple"
  | dK {a : Addr} {kvs : List (Key × V)} (e : H a = some (.dK kvs)) : TN H (.ref a) "dict"
  | dT {a : Addr} {kvs : List (List Key × V)} (e : H a = some (.dT kvs)) : TN H (.ref a) "dict"
theorem TN.ex {H H' : Hp} {x : V} {n : String} (t : TN H x n) (e : Ex H H') : TN H' x n := by
  cases t with
  | non => exact .non
  | bl b => exact .bl b
  | int i => exact .int i
  | str x => exact .str x
  | lst h => exact .lst (e _ _ h)
  | tup h => exact .tup (e _ _ h)
  | dK h => exact .dK (e _ _ h)
  | dT h => exact .dT (e _ _ h)
theorem TN.ty {K : PySem.W.Frag} {H : Hp} {x : V} {n : String} (t : TN H x n) : TyX K H x (.type n) := by
  cases t with
  | non => exact .base .non
  | bl b => exact .base (.bl b)
  | int i => exact .base (.int i)
  | str x => exact .base (.str x)
  | lst h => exact .base (.lst h)
  | tup h => exact .base (.tup h)
  | dK h => exact .base (.dK h)
  | dT h => exact .base (.dT h)
section
variable {K : PySem.W.Frag} {σ : L2.St} {H H' : Hp} {ta tb te tx : TE} {t u : TT} {x y z v : V}
theorem ev_isi {n c : String} {b : Bool} (ha : Ev ta σ H x) (ht : TN H x n) (hk : kitB n c = some b) : Ev (tCB (rIsi K) (tCons ta (tCons (tC (.ty c)) tNil))) σ H (.bl b) := fun H1 e Q q =>
  ha H1 e _ fun H2 e2 => ⟨x, .ty c, .type n, .type c, b, rfl, .ty c, (ht.ex (e.trans e2)).ty, kit_ty hk, q H2 e2⟩
/-- is it a whole number -/
def isW : V → Bool
  | .int _ => true
  | _ => false
theorem isW_tn {n : String} (ht : TN H x n) : kitB n "int" = some (isW x || (n == "bool")) ∧ kitB n "bool" = some (n == "bool") ∧ (isW x && (n == "bool")) = false := by
  cases ht with
  | non => exact ⟨by show kitB "NoneType" "int" = some false; decide +kernel, by show kitB "NoneType" "bool" = some false; decide +kernel, rfl⟩
  | bl b => exact ⟨by show kitB "bool" "int" = some true; decide +kernel, by show kitB "bool" "bool" = some true; decide +kernel, rfl⟩
  | int i => exact ⟨by show kitB "int" "int" = some true; decide +kernel, by show kitB "int" "bool" = some false; decide +kernel, rfl⟩
  | str x => exact ⟨by show kitB "str" "int" = some false; decide +kernel, by show kitB "str" "bool" = some false; decide +kernel, rfl⟩
  | lst h => exact ⟨by show kitB "list" "int" = some false; decide +kernel, by show kitB "list" "bool" = some false; decide +kernel, rfl⟩
  | tup h => exact ⟨by show kitB "tuple" "int" = some false; decide +kernel, by show kitB "tuple" "bool" = some false; decide +kernel, rfl⟩
  | dK h => exact ⟨by show kitB "dict" "int" = some false; decide +kernel, by show kitB "dict" "bool" = some false; decide +kernel, rfl⟩
  | dT h => exact ⟨by show kitB "dict" "int" = some false; decide +kernel, by show kitB "dict" "bool" = some false; decide +kernel, rfl⟩
theorem isW_and {n : String} (ht : TN H x n) : ((isW x || (n == "bool")) && !(n == "bool")) = isW x := by
  have h := (isW_tn ht).2.2
  cases e : isW x <;> cases e2 : (n == "bool") <;> simp_all
/-- a written text by its codes -/
def cd (s : String) : List Nat := s.toList.map Char.toNat
theorem lit (s : String) : Str.ofString s = SX.S (cd s) := Str.ofString_eq_toList s
theorem ev_str {s : String} : Ev (tC (.str (Str.ofString s))) σ H (.str (SX.S (cd s))) := by
  rw [← lit s]
  exact ev_c
theorem ev_min {i j : Int} (ha : Ev ta σ H (.int i)) (hb : Ev tb σ H (.int j)) : Ev (tCB (fun xs H Q => ∃ i j, xs = [.int i, .int j] ∧ Q (.int (if j < i then j else i)) H) (tCons ta (tCons tb tNil))) σ H (.int (if j < i then j else i)) := fun H1 e Q q =>
  ha H1 e _ fun H2 e2 => hb H2 (e.trans e2) _ fun H3 e3 => ⟨i, j, rfl, q H3 (e2.trans e3)⟩
theorem ev_max {i j : Int} (ha : Ev ta σ H (.int i)) (hb : Ev tb σ H (.int j)) : Ev (tCB (fun xs H Q => ∃ i j, xs = [.int i, .int j] ∧ Q (.int (if j > i then j else i)) H) (tCons ta (tCons tb tNil))) σ H (.int (if j > i then j else i)) := fun H1 e Q q =>
  ha H1 e _ fun H2 e2 => hb H2 (e.trans e2) _ fun H3 e3 => ⟨i, j, rfl, q H3 (e2.trans e3)⟩
/-- int(flag), int(n) -/
theorem ev_intB {b : Bool} (ha : Ev ta σ H (.bl b)) : Ev (tCB (fun xs H Q => (∃ i, xs = [.int i] ∧ Q (.int i) H) ∨ ∃ k, xs = [.bl k] ∧ Q (.int (if k then 1 else 0)) H) (tCons ta tNil)) σ H (.int (if b then 1 else 0)) := fun H1 e Q q =>
  ha H1 e _ fun H2 e2 => .inr ⟨b, rfl, q H2 e2⟩
theorem RetV.mono {Q : VK} (e : Ex H H') (k : RetV v H Q) : RetV v H' Q := fun H2 e2 => k H2 (e.trans e2)
/-- [a, b, ..][i] -/
theorem ev_pick {ta : TA} {vs : List V} {i : Int} (ha : EvA ta σ H vs) (hb : ∀ H1, Ex H H1 → Ev tb σ H1 (.int i)) (h0 : 0 ≤ i) (hi : vs[i.toNat]? = some z) (hl : vs.length ≤ 100000 := by decide) : Ev (tOp (rIxL K) (tLst ta) tb) σ H z :=
  ev_opL1 (el_lst ha hl) hb fun _ _ hp _ => rv_ixL' (sq_of hp) h0 hi
theorem EvA.one {te : TE} (h : Ev te σ H v) : EvA (tCons te tNil) σ H [v] := ea_cons h ea_nil
end

/-! defs, called -/
/-- the def at f keeps its promise, by at most level k -/
def junk : FuncData := PySem.W.fnOf "x" "x" (defArgs (.Pass ⟨0, 0, 0, 0⟩)) [] (defScope (.Pass ⟨0, 0, 0, 0⟩)) .none .none .none .none none .none .none
def fdOf (K : PySem.W.Frag) (f : Addr) : FuncData := match K.lookup f with
  | some o => (match o.data with
    | .func fd => fd
    | _ => junk)
  | none => junk
theorem fdOf_eq {K : PySem.W.Frag} {f : Addr} {fd : FuncData} {oc : Value} {od : Option Addr} {osl : Array (Option Value)} (h : K.lookup f = some ⟨oc, od, .func fd, osl⟩) : fdOf K f = fd := by
  unfold fdOf
  rw [h]
def Def (P : Program) (w : World) (K : PySem.W.Frag) (mg : Str → Option Value) (base : Heap) (k : Nat) (f : Addr) (ps : List Str) (sp : Sp) : Prop :=
  FnOk P w K mg base (L2.CX P w) k f (fdOf K f) ps sp ∧ (∀ us : List Value, us.length = ps.length → bindArgs (fdOf K f) ⟨us, []⟩ = pure (ps.zip us)) ∧ PySem.W.keepIn K (.ref f) = true
section
variable {P : Program} {w : World} {K : PySem.W.Frag} {mg : Str → Option Value} {base : Heap} {f : Addr} {x qual : Str} {st : Stmt} {N ps : List Str} {k : Nat} {sp : Sp}
abbrev BindsTx (x qual : Str) (st : Stmt) (ps : List Str) : Prop :=
  ∀ (kV doc pm : Value) (an : Option Addr) (cdv ct : Value) (us : List Value), us.length = ps.length → bindArgs (PySem.W.fnOf x qual (defArgs st) (defBody st) (defScope st) .none kV doc pm an cdv ct) ⟨us, []⟩ = pure (ps.zip us)
/-- a def that may raise -/
theorem def_mkX (F : ∃ fd, Fun K x qual st f fd) (S : FnScope N ps (defScope st)) (hb : BindsTx x qual st ps) (len : ∀ vs H Q E, sp vs H Q E → vs.length = ps.length)
    (hbody : ∀ (cdv : Value) (A : Around) (outer : List Env) (s : Shared) (H : Hp) (vs : List V) (Q : VK) (E : XK), Room k (A.deeper (PyProof.Rows.envOfC qual (defScope st) s.heap.objs.size f cdv)) → sp vs H Q E →
      ∃ t, PSs (cxOf (L2.CX P w) P w K mg base N qual (defScope st) f cdv A outer s H E) (defBody st) t ∧ t { nx := fun _ H' => Q .non H', rt := Q } (start N vs) H) : Def P w K mg base (k + 1) f ps sp := by
  obtain ⟨fd, F⟩ := F
  have e : fdOf K f = fd := by
    obtain ⟨_, _, _, _, _, _, _, _, _, _, h, _⟩ := F.ex
    exact fdOf_eq h
  unfold Def
  rw [e]
  refine ⟨F.okX S len hbody, ?_, F.kp⟩
  obtain ⟨oc, od, kV, doc, pm, an, cdv, ct, osl, rfl, lk, hcd⟩ := F.ex
  exact hb kV doc pm an cdv ct
/-- a def out of which nothing is raised -/
theorem def_mk (F : ∃ fd, Fun K x qual st f fd) (S : FnScope N ps (defScope st)) (hb : BindsTx x qual st ps) (len : ∀ vs H Q E, sp vs H Q E → vs.length = ps.length)
    (hbody : ∀ (cdv : Value) (A : Around) (outer : List Env) (s : Shared) (H : Hp) (vs : List V) (Q : VK) (E : XK), Room k (A.deeper (PyProof.Rows.envOfC qual (defScope st) s.heap.objs.size f cdv)) → sp vs H Q E →
      ∃ t, PSs (cxOf (L2.CX P w) P w K mg base N qual (defScope st) f cdv A outer s H E).nox (defBody st) t ∧ t { nx := fun _ H' => Q .non H', rt := Q } (start N vs) H) : Def P w K mg base (k + 1) f ps sp :=
  def_mkX F S hb len fun cdv A outer s H vs Q E hr h => by
    obtain ⟨t, h1, h2⟩ := hbody cdv A outer s H vs Q E hr h
    exact ⟨t, h1.nox, h2⟩
theorem Def.imp {sp' : Sp} (D : Def P w K mg base k f ps sp) (h : ∀ vs H Q E, sp' vs H Q E → sp vs H Q E) : Def P w K mg base k f ps sp' := by
  obtain ⟨F, b, kp⟩ := D
  exact ⟨F.imp h, b, kp⟩
theorem Def.mono {j : Nat} (D : Def P w K mg base j f ps sp) (h : j ≤ k) : Def P w K mg base k f ps sp := by
  obtain ⟨F, b, kp⟩ := D
  exact ⟨F.mono h, b, kp⟩
end
section
variable {X : Cx} {k n : Nat} {f C : Addr} {ps : List Str} {sp : Sp} {E : XK} {x m : Str} {p pos apos : Pos} {e o : Expr} {es : List Expr} {ta : TE} {t : TA}
/-- f(e, ..), what it raises being wished for by E -/
theorem pcX (D : Def X.prog X.w X.K X.mg X.base k f ps sp) (hr : Room n X.A) (hm : X.mg x = some (.ref f)) (hx : Passes (L2.CX X.prog X.w) X E) (ha : PA X (e :: es) t) (hg : Gl X x := by rfl) (hk : k ≤ n := by decide)
    (hdb : (x == ("__debug__" : Str)) = false := by decide) (he : starEach (e :: es) X.env = (false, eval e X.env) :: starEach es X.env := by rfl) (hpl : (backTo pos (starEach es X.env)).any (·.1) = false := by rfl) :
    PE X (.Call (.Name x p) (e :: es) [] pos) (tCall sp [] E t) := by
  obtain ⟨F, b0, kp⟩ := D
  have b := Binds.all (K := X.K) b0
  exact pe_call F (hr.mono hk) hg hm kp b .nil hx ha hdb he hpl
theorem pc (D : Def X.prog X.w X.K X.mg X.base k f ps sp) (hr : Room n X.A) (hm : X.mg x = some (.ref f)) (ha : PA X (e :: es) t) (hg : Gl X x := by rfl) (hk : k ≤ n := by decide)
    (hdb : (x == ("__debug__" : Str)) = false := by decide) (he : starEach (e :: es) X.env = (false, eval e X.env) :: starEach es X.env := by rfl) (hpl : (backTo pos (starEach es X.env)).any (·.1) = false := by rfl) :
    PE X (.Call (.Name x p) (e :: es) [] pos) (tCall sp [] E0 t) := pcX D hr hm passL ha hg hk hdb he hpl
/-- o.m(e, ..) -/
theorem pmX {pl : Sem Bool} (he : PE X o ta) (c : Cls X.K C) (hm : Meth X.K C m f) (D : Def X.prog X.w X.K X.mg X.base k f ps sp) (hr : Room n X.A) (hx : Passes (L2.CX X.prog X.w) X E) (ha : PA X (e :: es) t) (hk : k ≤ n := by decide)
    (hst : starEach (e :: es) X.env = (false, eval e X.env) :: starEach es X.env := by rfl) (hpl : (backTo pos (starEach es X.env)).any (·.1) = false := by rfl)
    (ht : eval (.Call (.Attribute o m apos) (e :: es) [] pos) X.env = (do
      let ov ← eval o X.env
      standAt apos.atName
      let (f, first) ← holding [ov] (getMethod ov m pl)
      callWith pos f first (backTo pos (starEach (e :: es) X.env)) (backToKw pos (keywordEach [] X.env))) := by rfl) :
    PE X (.Call (.Attribute o m apos) (e :: es) [] pos) (tMeth C m sp [] E ta t) := by
  obtain ⟨F, b0, kp⟩ := D
  have b := Binds.all (K := X.K) b0
  exact pe_meth he c hm F (hr.mono hk) b .nil hx ha hst hpl ht
theorem pm {pl : Sem Bool} (he : PE X o ta) (c : Cls X.K C) (hm : Meth X.K C m f) (D : Def X.prog X.w X.K X.mg X.base k f ps sp) (hr : Room n X.A) (ha : PA X (e :: es) t) (hk : k ≤ n := by decide)
    (hst : starEach (e :: es) X.env = (false, eval e X.env) :: starEach es X.env := by rfl) (hpl : (backTo pos (starEach es X.env)).any (·.1) = false := by rfl)
    (ht : eval (.Call (.Attribute o m apos) (e :: es) [] pos) X.env = (do
      let ov ← eval o X.env
      standAt apos.atName
      let (f, first) ← holding [ov] (getMethod ov m pl)
      callWith pos f first (backTo pos (starEach (e :: es) X.env)) (backToKw pos (keywordEach [] X.env))) := by rfl) :
    PE X (.Call (.Attribute o m apos) (e :: es) [] pos) (tMeth C m sp [] E0 ta t) := pmX he c hm D hr passL ha hk hst hpl ht
/-- o.m() -/
theorem pm0X {pl : Sem Bool} (he : PE X o ta) (c : Cls X.K C) (hm : Meth X.K C m f) (D : Def X.prog X.w X.K X.mg X.base k f ps sp) (hr : Room n X.A) (hx : Passes (L2.CX X.prog X.w) X E) (hk : k ≤ n := by decide)
    (ht : eval (.Call (.Attribute o m apos) [] [] pos) X.env = (do
      let ov ← eval o X.env
      standAt apos.atName
      let (f, first) ← holding [ov] (getMethod ov m pl)
      callWith pos f first (backTo pos (starEach [] X.env)) (backToKw pos (keywordEach [] X.env))) := by rfl) :
    PE X (.Call (.Attribute o m apos) [] [] pos) (tMeth C m sp [] E ta tNil) := by
  obtain ⟨F, b0, kp⟩ := D
  have b := Binds.all (K := X.K) b0
  exact pe_meth0 he c hm F (hr.mono hk) b .nil hx ht
theorem pm0 {pl : Sem Bool} (he : PE X o ta) (c : Cls X.K C) (hm : Meth X.K C m f) (D : Def X.prog X.w X.K X.mg X.base k f ps sp) (hr : Room n X.A) (hk : k ≤ n := by decide)
    (ht : eval (.Call (.Attribute o m apos) [] [] pos) X.env = (do
      let ov ← eval o X.env
      standAt apos.atName
      let (f, first) ← holding [ov] (getMethod ov m pl)
      callWith pos f first (backTo pos (starEach [] X.env)) (backToKw pos (keywordEach [] X.env))) := by rfl) :
    PE X (.Call (.Attribute o m apos) [] [] pos) (tMeth C m sp [] E0 ta tNil) := pm0X he c hm D hr passL hk ht
/-- C(e, ..) -/
theorem pmkX (M : Mk X.K C f) (D : Def X.prog X.w X.K X.mg X.base k f ps sp) (hr : Room n X.A) (hm : X.mg x = some (.ref C)) (hx : Passes (L2.CX X.prog X.w) X E) (ha : PA X (e :: es) t) (hg : Gl X x := by rfl) (hk : k + 1 ≤ n := by decide)
    (hdb : (x == ("__debug__" : Str)) = false := by decide) (he : starEach (e :: es) X.env = (false, eval e X.env) :: starEach es X.env := by rfl) (hpl : (backTo pos (starEach es X.env)).any (·.1) = false := by rfl) :
    PE X (.Call (.Name x p) (e :: es) [] pos) (tMake C sp [] E t) := by
  obtain ⟨F, b0, kp⟩ := D
  have b := Binds.all (K := X.K) b0
  exact pe_make M F (hr.mono hk) hg hm b .nil hx ha hdb he hpl
theorem pmk0 (M : Mk X.K C f) (D : Def X.prog X.w X.K X.mg X.base k f ps sp) (hr : Room n X.A) (hm : X.mg x = some (.ref C)) (hg : Gl X x := by rfl) (hk : k + 1 ≤ n := by decide)
    (hdb : (x == ("__debug__" : Str)) = false := by decide) : PE X (.Call (.Name x p) [] [] pos) (tMake C sp [] E0 tNil) := by
  obtain ⟨F, b0, kp⟩ := D
  have b := Binds.all (K := X.K) b0
  exact pe_make0 M F (hr.mono hk) hg hm b .nil passL hdb
end
section
variable {K : PySem.W.Frag} {σ : L2.St} {H H' : Hp} {ta tb te tx : TE} {t u : TT} {x y z v : V}
/-- o.m(..) as a value -/
theorem ev_meth {C a dx : Addr} {m : Str} {sp : Sp} {E : XK} {fs : List (Str × V)} {tas : TA} {vs : List V} (ha : Ev ta σ H (.ref a)) (hi : H a = some (.ins C dx fs)) (hl : fs.lookup m = none) (h : EvA tas σ H vs) (hs : SpV sp (.ref a :: (vs ++ [])) H z) :
    Ev (tMeth C m sp [] E ta tas) σ H z := fun H1 e Q q =>
  ha H1 e _ fun H2 e2 => ⟨a, dx, fs, rfl, (e.trans e2) _ _ hi, hl, h H2 (e.trans e2) _ fun H3 e3 => hs H3 ((e.trans e2).trans e3) Q (fun H4 e4 => q H4 ((e2.trans e3).trans e4)) E⟩
/-- o.f -/
theorem ev_fld {C a dx : Addr} {f : Str} {fs : List (Str × V)} (ha : Ev ta σ H (.ref a)) (hi : H a = some (.ins C dx fs)) (c : Cls K C) (n : NoAttr K C f) (hl : fs.lookup f = some v) : Ev (tFld K ta f) σ H v := fun H1 e Q q =>
  ha H1 e _ fun H2 e2 => ⟨a, C, dx, fs, v, rfl, (e.trans e2) _ _ hi, c, n, hl, q H2 e2⟩
end

section
variable {P : Program} {w : World} {K : PySem.W.Frag} {mg : Str → Option Value} {base : Heap} {f : Addr} {ps : List Str} {k : Nat} {sp : Sp}
theorem cx_no {outer : List Env} {H : Hp} {s : Shared} {u : Value} {s' : Shared} (h : L2.CX P w outer H s E0 u s') : False := by
  obtain ⟨_, _, _, _, _, _, _, _, _, _, _, _, z⟩ := h
  exact z
/-- a def out of which nothing comes, at the law's end -/
theorem fnok_law {fd : FuncData} (F : FnOk P w K mg base (L2.CX P w) k f fd ps sp) (h : ∀ vs H Q E, sp vs H Q E → sp vs H Q E0) : FnOk P w K mg base CX0 k f fd ps sp := by
  refine ⟨F.len, fun A outer s H args us vs Q E hr e0 hb r hsp => ?_⟩
  refine codeAny_mono (F.run A outer s H args us vs Q E0 hr e0 hb r (h _ _ _ _ hsp)) fun x s' q => ?_
  cases x with
  | error e => exact (cx_no q).elim
  | ok fl => cases fl <;> exact q
theorem Def.law (D : ∀ base : Heap, K.In base → base.Ns mainGlobals mg → Def P w K mg base k f ps sp) (h : ∀ vs H Q E, sp vs H Q E → sp vs H Q E0) (base : Heap) (hb : K.In base) (hn : base.Ns mainGlobals mg) : FnOk P w K mg base CX0 k f (fdOf K f) ps sp := fnok_law (D base hb hn).1 h
end
end Ck

namespace CkH
open PySem PySem.Spec PyProof.Rows L2 He
/-! the head's hook: facts by names, and one Bool more -/
abbrev AlC : Type := AlD × Bool
def obsC (n : Nat) (fa : List Fa) (fn : List DefD) (ex : PySem.W.Frag → Bool) (g : Addr → Option Obj) : AlC := (obsD fa fn (frG g (asD g n)), ex (frG g (asD g n)))
def SaysC (fa : List Fa) (fn : List DefD) (ex : PySem.W.Frag → Bool) (K : PySem.W.Frag) : Prop := SaysD fa fn K ∧ ex K = true
def hookC (n : Nat) (fa : List Fa) (fn : List DefD) (ex : PySem.W.Frag → Bool) : PySem.W.Hook where
  α := AlC
  obs := fun s => obsC n fa fn ex s.heap.get?
  val := fun _ => (valD fn, true)
  says := fun _ h => ∃ K : PySem.W.Frag, K.In h ∧ SaysC fa fn ex K
  of := fun _ _ e => ⟨_, frG_in, congrArg (fun z : AlC => z.1) e, congrArg (fun z : AlC => z.2) e⟩
  keeps := fun _ _ _ ⟨K, hK, c⟩ k => ⟨K, PySem.W.Frag.In.keeps hK k, c⟩
theorem obsC_eq {n : Nat} {fa : List Fa} {fn : List DefD} {ex : PySem.W.Frag → Bool} {g : Addr → Option Obj} {s : Shared} (h : ∀ a, g a = s.heap.get? a) : obsC n fa fn ex g = (hookC n fa fn ex).obs s := by
  have e : g = s.heap.get? := funext h
  rw [e] <;> rfl
/-- a def by its hook's datum as HandS.Words has it -/
theorem fun_of {K : PySem.W.Frag} {x qual : Str} {st : Stmt} {f : Addr} {fd : FuncData} (F : FunD K x qual (defArgs st) (defBody st) (defScope st) [] [] f fd) : Fun K x qual st f fd := by
  obtain ⟨oc, od, dV, kV, doc, pm, an, cdv, ct, osl, rfl, lk, hcd, hd, _⟩ := F.ex
  have e : dV = .none := by
    rcases hd with ⟨_, h⟩ | ⟨h, _⟩
    · exact h
    · exact absurd rfl h
  subst e
  exact ⟨⟨oc, od, kV, doc, pm, an, cdv, ct, osl, rfl, lk, hcd⟩, F.kp⟩
end CkH

namespace Ck
open PySem L2 Evl
def top (i : Nat) : Stmt := PySem.Challenge.pw_chunkshelf_k01_weights.main.body.getD i (.Pass ⟨0, 0, 0, 0⟩)
abbrev s_weight : Stmt := top 1
abbrev s__law_cell_at : Stmt := top 3
abbrev s__law_whole : Stmt := top 4
abbrev s__law_sign_by : Stmt := top 5
abbrev s__law_text_by : Stmt := top 6
abbrev s__law_size_by : Stmt := top 7
abbrev s_law : Stmt := top 8
structure Txt (K : PySem.W.Frag) (mg : Str → Option Value) : Prop where
  b_bool : mg "bool" = none
  b_int : mg "int" = none
  b_isinstance : mg "isinstance" = none
  b_len : mg "len" = none
  b_min : mg "min" = none
  b_ord : mg "ord" = none
  b_range : mg "range" = none
  m_weight : mg "weight" = some (.ref (He.ga K "weight"))
  F_weight : ∃ fd, Fun K "weight" "weight" s_weight (He.ga K "weight") fd
  m__law_cell_at : mg "_law_cell_at" = some (.ref (He.ga K "_law_cell_at"))
  F__law_cell_at : ∃ fd, Fun K "_law_cell_at" "_law_cell_at" s__law_cell_at (He.ga K "_law_cell_at") fd
  m__law_whole : mg "_law_whole" = some (.ref (He.ga K "_law_whole"))
  F__law_whole : ∃ fd, Fun K "_law_whole" "_law_whole" s__law_whole (He.ga K "_law_whole") fd
  m__law_sign_by : mg "_law_sign_by" = some (.ref (He.ga K "_law_sign_by"))
  F__law_sign_by : ∃ fd, Fun K "_law_sign_by" "_law_sign_by" s__law_sign_by (He.ga K "_law_sign_by") fd
  m__law_text_by : mg "_law_text_by" = some (.ref (He.ga K "_law_text_by"))
  F__law_text_by : ∃ fd, Fun K "_law_text_by" "_law_text_by" s__law_text_by (He.ga K "_law_text_by") fd
  m__law_size_by : mg "_law_size_by" = some (.ref (He.ga K "_law_size_by"))
  F__law_size_by : ∃ fd, Fun K "_law_size_by" "_law_size_by" s__law_size_by (He.ga K "_law_size_by") fd
  m_law : mg "law" = some (.ref (He.ga K "law"))
  F_law : ∃ fd, Fun K "law" "law" s_law (He.ga K "law") fd
/-! the reckoning of values by itself -/
local macro_rules | `(tactic| walk_at "rv") => `(tactic| first
  | with_reducible exact rv_I0
  | ((with_reducible apply rv_I); first | (show (0 : Int) < _; decide) | exact Or.inr ⟨by decide, by decide⟩ | exact Or.inl ⟨by decide, by decide⟩ | exact ⟨by decide, by decide⟩ | assumption)
  | with_reducible exact rv_eqI
  | with_reducible exact rv_neI
  | with_reducible exact rv_eqS)
local macro_rules | `(tactic| walk_at "ea") => `(tactic| first
  | with_reducible exact ea_nil
  | ((with_reducible apply ea_cons); (walk_at "ev"); (walk_at "ea")))
local macro_rules | `(tactic| walk_at "ev") => `(tactic| first
  | with_reducible exact ev_str
  | with_reducible exact ev_c
  | ((with_reducible apply ev_var); rfl)
  | ((with_reducible apply ev_op); (walk_at "ev"); (walk_at "ev"); (walk_at "rv"))
  | ((with_reducible apply ev_call); (walk_at "ea"); (walk_at "sv"))
  | ((with_reducible apply ev_andV); (walk_at "ev"); (intro _; walk_at "ev"))
  | ((with_reducible apply ev_orV); (walk_at "ev"); (intro _; walk_at "ev"))
  | ((with_reducible apply ev_notV); (walk_at "ev"))
  | ((with_reducible apply ev_ord); (walk_at "ev"))
  | ((with_reducible apply ev_lenS); (walk_at "ev"); (first | omega | assumption))
  | ((with_reducible apply ev_min); (walk_at "ev"); (walk_at "ev"))
  | ((with_reducible apply ev_max); (walk_at "ev"); (walk_at "ev"))
  | ((with_reducible apply ev_intB); (walk_at "ev")))
local macro_rules | `(tactic| walk_at "et") => `(tactic| first
  | ((with_reducible apply et_test); walk_at "ev")
  | ((with_reducible apply et_B); walk_at "ev")
  | ((with_reducible apply et_not); walk_at "et"))


/-! the weight of some signs -/
def wt (l : List Nat) : Int := l.foldl (fun (n : Int) (c : Nat) => (n * 131 + (c : Int)) % 65521) 7
theorem wt_take {l : List Nat} {i c : Nat} (h : l[i]? = some c) : wt (l.take (i + 1)) = (wt (l.take i) * 131 + (c : Int)) % 65521 := by
  have e : l.take (i + 1) = l.take i ++ [c] := by
    obtain ⟨hi, rfl⟩ := List.getElem?_eq_some_iff.mp h
    exact (List.take_append_getElem hi).symm
  unfold wt
  rw [e, List.foldl_append]
  rfl
def sp_weight : Sp := fun vs H Q _ => ∃ l : List Nat, vs = [.str (SX.S l)] ∧ RetV (.int (wt l)) H Q
theorem sv_weight {H : Hp} {l : List Nat} : SpV sp_weight ([.str (SX.S l)] ++ []) H (.int (wt l)) := fun H1 e Q q E => ⟨l, rfl, q⟩


/-! ### weight -/
theorem sc_weight : FnScope ["signs", "number", "sign"] ["signs"] (defScope s_weight) := ⟨rfl, rfl, rfl, by decide +kernel, rfl, by decide +kernel, by decide +kernel⟩
section
variable {P : Program} {w : World} {K : PySem.W.Frag} {mg : Str → Option Value} {base : Heap}
theorem ok_weight (T : Txt K mg) : Def P w K mg base 1 (He.ga K "weight") ["signs"] sp_weight := by
  refine def_mk T.F_weight sc_weight (fun _ _ _ _ _ _ us hl => match us, hl with | [_], _ => rfl) (fun vs H Q E h => ?_) (fun cdv A outer s H vs Q E hr h => ?_)
  · obtain ⟨l, rfl, _⟩ := h
    rfl
  · obtain ⟨l, rfl, k⟩ := h
    refine ⟨_, pss_cons (ps_set (i := 1) sc_weight.nd rfl (.inl rfl) pe_int)
      (pss_cons (ps_for PassesOwn.never rfl (pi_str (pv 0)) (pg_name (i := 2) sc_weight.nd rfl (.inl rfl))
        (pss_one (ps_set (i := 1) sc_weight.nd rfl (.inl rfl) (pe_op op_mod (pe_op op_add (pe_op op_mul (pv 1) pe_int) (pe_callB call_ord (by rfl) T.b_ord (by decide +kernel) (pa_cons (pv 2) pa_nil))) pe_int))))
      (pss_one (ps_ret (pv 1)))), ?_⟩
    refine ⟨_, rfl, _, rfl, for_it walk_str (fun i σ H' => ∃ v, σ = [some (.str (SX.S l)), some (.int (wt (l.take i))), v] ∧ Ex H H') ⟨none, rfl, Ex.refl H⟩ (fun _ _ _ _ _ => trivial) ?_ ?_⟩
    · rintro i x σ H1 H2 hi ⟨v, rfl, e⟩ ⟨rfl, c, hc, rfl⟩
      have hc' : l[i]? = some c := by simpa using hc
      refine s_asg (D := { nx := _, rt := _, bk := _, ct := _}) (v := .int ((wt (l.take i) * 131 + (c : Int)) % 65521)) (by walk_at "ev") (fun H3 e3 => ?_)
      exact ⟨_, by rw [wt_take hc']; rfl, e.trans e3⟩
    · rintro σ H1 ⟨v, rfl, e⟩
      refine ⟨_, rfl, ?_⟩
      have e2 : l.take (SX.S l).cps.size = l := List.take_of_length_le (by simp)
      rw [e2]
      exact k _ e
end


/-! the law helpers' values -/
def cellAt (ns : List Int) (k : Nat) : Int := ns.getD k 0
def sp_cell_at (K : PySem.W.Frag) : Sp := fun vs H Q _ => ∃ (a : Addr) (ns : List Int) (k : Int), vs = [.ref a, .int k] ∧ 0 ≤ k ∧ SqL K H a (ns.map V.int) ∧ RetV (.int (cellAt ns k.toNat)) H Q
theorem sv_cell_at {K : PySem.W.Frag} {H : Hp} {a : Addr} {ns : List Int} {k : Int} (hS : SqL K H a (ns.map V.int)) (h0 : 0 ≤ k) : SpV (sp_cell_at K) ([.ref a, .int k] ++ []) H (.int (cellAt ns k.toNat)) :=
  fun H1 e Q q E => ⟨a, ns, k, rfl, h0, ex_l e hS, q⟩
def sp_whole : Sp := fun vs H Q _ => ∃ (x : V) (n : String), vs = [x] ∧ TN H x n ∧ RetV (.bl (isW x)) H Q
theorem sv_whole {H : Hp} {x : V} {n : String} (h : TN H x n) : SpV sp_whole ([x] ++ []) H (.bl (isW x)) := fun H1 e Q q E => ⟨x, n, rfl, h.ex e, q⟩
def signs95 : List Nat := cd " !\"#$&'()*+,-./0123456789:;<=>?@ABCDEFGHIJKLMNOPQRSTUVWXYZ[\\]^_`" ++ cd "abcdefghijklmnopqrstuvwxyz{|}~\n"
theorem signs95_len : signs95.length = 95 := by decide +kernel
def okc (c : Nat) : Bool := c == 10 || (32 ≤ c && c ≤ 126 && c != 37)
theorem signs95_ok : signs95.all okc = true := by decide +kernel
def signBy (x : Int) : Nat := signs95.getD (x % 95).toNat 10
theorem signBy_get (x : Int) : signs95[(x % 95).toNat]? = some (signBy x) := by
  have h : (x % 95).toNat < signs95.length := by rw [signs95_len]; omega
  unfold signBy
  rw [List.getD_eq_getElem?_getD, List.getElem?_eq_getElem h]
  rfl
theorem signBy_ok (x : Int) : okc (signBy x) = true := List.all_eq_true.mp signs95_ok _ (List.mem_of_getElem? (signBy_get x))
def sp_sign_by : Sp := fun vs H Q _ => ∃ c : Int, vs = [.int c] ∧ RetV (.str (SX.S [signBy c])) H Q
theorem sv_sign_by {H : Hp} {c : Int} : SpV sp_sign_by ([.int c] ++ []) H (.str (SX.S [signBy c])) := fun H1 e Q q E => ⟨c, rfl, q⟩
def sizeBy (c : Int) : Int := if c % 8 = 7 then c / 8 % 300 else c / 8 % 60
theorem sizeBy_lo (c : Int) : 0 ≤ sizeBy c ∧ sizeBy c ≤ 299 := by
  unfold sizeBy
  split <;> omega
def sp_size_by : Sp := fun vs H Q _ => ∃ c : Int, vs = [.int c] ∧ RetV (.int (sizeBy c)) H Q
theorem sv_size_by {H : Hp} {c : Int} : SpV sp_size_by ([.int c] ++ []) H (.int (sizeBy c)) := fun H1 e Q q E => ⟨c, rfl, q⟩
def tbl4 (c : Int) : Int := ([2, 95, 95, 1] : List Int).getD (c % 4).toNat 1
theorem tbl4_pos (c : Int) : 0 < tbl4 c := by
  have h : c % 4 = 0 ∨ c % 4 = 1 ∨ c % 4 = 2 ∨ c % 4 = 3 := by omega
  unfold tbl4
  rcases h with h | h | h | h <;> rw [h] <;> decide
theorem tbl4_get (c : Int) : ([V.int 2, V.int 95, V.int 95, V.int 1] : List V)[(c % 4).toNat]? = some (V.int (tbl4 c)) := by
  have h : c % 4 = 0 ∨ c % 4 = 1 ∨ c % 4 = 2 ∨ c % 4 = 3 := by omega
  unfold tbl4
  rcases h with h | h | h | h <;> rw [h] <;> rfl
def blockBy (c n : Int) : Int := if c % 4 = 2 then (if 1 + c / 4 % 50 < n then 1 + c / 4 % 50 else n) else n
theorem blockBy_le (c : Int) {n : Int} (h : 0 ≤ n) : 0 ≤ blockBy c n ∧ blockBy c n ≤ n ∧ (blockBy c n = 0 → n = 0) := by
  unfold blockBy
  split
  · split <;> omega
  · omega
def numAt (c : Int) : Nat → Int
  | 0 => c
  | i + 1 => (numAt c i * 48271 + 11) % 2147483647
def gotAt (c : Int) (i : Nat) : List Nat := (List.range i).map fun j => signBy (65 + numAt c (j + 1) / 7 % tbl4 c)
theorem gotAt_succ (c : Int) (i : Nat) : gotAt c (i + 1) = gotAt c i ++ [signBy (65 + numAt c (i + 1) / 7 % tbl4 c)] := by
  unfold gotAt
  rw [List.range_succ, List.map_append]
  rfl
theorem gotAt_len (c : Int) (i : Nat) : (gotAt c i).length = i := by
  unfold gotAt
  rw [List.length_map, List.length_range]
theorem gotAt_ok (c : Int) (i : Nat) : ∀ x ∈ gotAt c i, okc x = true := by
  intro x hx
  obtain ⟨j, _, rfl⟩ := List.mem_map.mp hx
  exact signBy_ok _
def textBy (c n : Int) : List Nat := if blockBy c n = 0 then [] else ((List.replicate (n / blockBy c n + 1).toNat (gotAt c (blockBy c n).toNat)).flatten).take n.toNat
theorem flat_len (n : Nat) (l : List Nat) : (List.replicate n l).flatten.length = n * l.length := by
  induction n with
  | zero => simp
  | succ n ih => rw [List.replicate_succ, List.flatten_cons, List.length_append, ih, Nat.succ_mul, Nat.add_comm]
theorem textBy_len (c : Int) {n : Int} (h : 0 ≤ n) : (textBy c n).length = n.toNat := by
  obtain ⟨h1, h2, h3⟩ := blockBy_le c h
  unfold textBy
  split
  · rename_i h0
    rw [h3 h0]; rfl
  · rename_i h0
    rw [List.length_take, flat_len, gotAt_len]
    have hb : 0 < blockBy c n := by omega
    have h4 : n < (n / blockBy c n + 1) * blockBy c n := by
      have := Int.lt_ediv_add_one_mul_self n hb
      omega
    have h5 : 0 ≤ n / blockBy c n := Int.ediv_nonneg h h1
    have h6 : (((n / blockBy c n + 1).toNat * (blockBy c n).toNat : Nat) : Int) = (n / blockBy c n + 1) * blockBy c n := by
      rw [Int.natCast_mul, Int.toNat_of_nonneg (by omega), Int.toNat_of_nonneg h1]
    omega
theorem textBy_ok (c n : Int) : ∀ x ∈ textBy c n, okc x = true := by
  intro x hx
  unfold textBy at hx
  split at hx
  · cases hx
  · have h1 := List.mem_of_mem_take hx
    obtain ⟨l, hl, hx2⟩ := List.mem_flatten.mp h1
    rw [List.eq_of_mem_replicate hl] at hx2
    exact gotAt_ok _ _ x hx2
def sp_text_by : Sp := fun vs H Q _ => ∃ c n : Int, vs = [.int c, .int n] ∧ 0 ≤ n ∧ n ≤ 1000 ∧ RetV (.str (SX.S (textBy c n))) H Q
theorem sv_text_by {H : Hp} {c n : Int} (h : 0 ≤ n) (h1 : n ≤ 1000) : SpV sp_text_by ([.int c, .int n] ++ []) H (.str (SX.S (textBy c n))) := fun H1 e Q q E => ⟨c, n, rfl, h, h1, q⟩


/-! ### the law's own helpers -/
theorem sc_cell_at : FnScope ["_law_script", "_law_k"] ["_law_script", "_law_k"] (defScope s__law_cell_at) := ⟨rfl, rfl, rfl, by decide +kernel, rfl, by decide +kernel, by decide +kernel⟩
theorem sc_whole : FnScope ["_law_got"] ["_law_got"] (defScope s__law_whole) := ⟨rfl, rfl, rfl, by decide +kernel, rfl, by decide +kernel, by decide +kernel⟩
theorem sc_sign_by : FnScope ["_law_cell", "_law_some"] ["_law_cell"] (defScope s__law_sign_by) := ⟨rfl, rfl, rfl, by decide +kernel, rfl, by decide +kernel, by decide +kernel⟩
theorem sc_text_by : FnScope ["_law_cell", "_law_size", "_law_signs", "_law_block", "_law_got", "_law_number", "_law_k"] ["_law_cell", "_law_size"] (defScope s__law_text_by) := ⟨rfl, rfl, rfl, by decide +kernel, rfl, by decide +kernel, by decide +kernel⟩
section
variable {P : Program} {w : World} {K : PySem.W.Frag} {mg : Str → Option Value} {base : Heap}
theorem ok_cell_at (T : Txt K mg) : Def P w K mg base 1 (He.ga K "_law_cell_at") ["_law_script", "_law_k"] (sp_cell_at K) := by
  refine def_mk T.F__law_cell_at sc_cell_at (fun _ _ _ _ _ _ us hl => match us, hl with | [_, _], _ => rfl) (fun vs H Q E h => ?_) (fun cdv A outer s H vs Q E hr h => ?_)
  · obtain ⟨a, ns, k, rfl, _⟩ := h
    rfl
  · obtain ⟨a, ns, k, rfl, h0, hS, q⟩ := h
    refine ⟨_, pss_cons (ps_if (pt_cmpR op_lt (pv 1) (pe_callB call_len_seq (by rfl) T.b_len PySem.boot_len (pa_cons (pv 0) pa_nil)) (nomark _)) (pss_one (ps_ret (pe_ix ix_list (pv 0) (pv 1) (fun _ _ => rfl)))) pss_nil) (pss_one (ps_ret pe_int)), ?_⟩
    refine q_when (b := decide (k < (ns.length : Int))) ?_ (fun hb H1 e1 => ?_) (fun hb H1 e1 => ?_)
    · have el : (ns.map V.int).length = ns.length := List.length_map _
      rw [← el]
      exact et_test (ev_op (ev_var rfl) (ev_len (ev_var rfl) hS) rv_I0)
    · have hk : k.toNat < ns.length := by have := of_decide_eq_true hb; omega
      refine s_ret (v := .int (cellAt ns k.toNat)) (ev_op (ev_var rfl) (ev_var rfl) (rv_ixL' (ex_l e1 hS) h0 ?_)) (fun H2 e2 => q _ (e1.trans e2))
      rw [List.getElem?_map, List.getElem?_eq_getElem hk]
      unfold cellAt
      rw [List.getD_eq_getElem?_getD, List.getElem?_eq_getElem hk]
      rfl
    · have hk : ns.length ≤ k.toNat := by have := of_decide_eq_false hb; omega
      have e0 : cellAt ns k.toNat = 0 := by
        unfold cellAt
        rw [List.getD_eq_getElem?_getD, List.getElem?_eq_none_iff.mpr hk]
        rfl
      rw [e0] at q
      exact s_ret ev_c (fun H2 e2 => q _ (e1.trans e2))
theorem ok_whole (T : Txt K mg) : Def P w K mg base 1 (He.ga K "_law_whole") ["_law_got"] sp_whole := by
  refine def_mk T.F__law_whole sc_whole (fun _ _ _ _ _ _ us hl => match us, hl with | [_], _ => rfl) (fun vs H Q E h => ?_) (fun cdv A outer s H vs Q E hr h => ?_)
  · obtain ⟨x, n, rfl, _⟩ := h
    rfl
  · obtain ⟨x, n, rfl, ht, q⟩ := h
    refine ⟨_, pss_one (ps_ret (pe_and (pe_callB call_isi (by rfl) T.b_isinstance (by decide +kernel) (pa_cons (pv 0) (pa_cons (pe_bltn (v := .ty "int") (by rfl) T.b_int (by decide +kernel) rfl) pa_nil)))
      (pe_one (pe_not (pe_callB call_isi (by rfl) T.b_isinstance (by decide +kernel) (pa_cons (pv 0) (pa_cons (pe_bltn (v := .ty "bool") (by rfl) T.b_bool (by decide +kernel) rfl) pa_nil))))))), ?_⟩
    rw [← isW_and ht] at q
    exact s_ret (ev_andV (ev_isi (ev_var rfl) ht (isW_tn ht).1) fun _ => ev_notV (ev_isi (ev_var rfl) ht (isW_tn ht).2.1)) q
theorem ok_sign_by (T : Txt K mg) : Def P w K mg base 1 (He.ga K "_law_sign_by") ["_law_cell"] sp_sign_by := by
  refine def_mk T.F__law_sign_by sc_sign_by (fun _ _ _ _ _ _ us hl => match us, hl with | [_], _ => rfl) (fun vs H Q E h => ?_) (fun cdv A outer s H vs Q E hr h => ?_)
  · obtain ⟨c, rfl, _⟩ := h
    rfl
  · obtain ⟨c, rfl, q⟩ := h
    refine ⟨_, pss_cons (ps_set (i := 1) sc_sign_by.nd rfl (.inl rfl) pe_str) (pss_cons (ps_set (i := 1) sc_sign_by.nd rfl (.inl rfl) (pe_op op_add_str (pv 1) pe_str)) (pss_one (ps_ret (pe_ix ix_str (pv 1) (pe_op op_mod (pv 0) pe_int) (fun _ _ => rfl))))), ?_⟩
    refine q_asg ev_str fun H1 e1 => q_asg (ev_op (ev_var rfl) ev_str (rv_addS (by decide +kernel))) fun H2 e2 => ?_
    have hm : 0 ≤ c % 95 := Int.emod_nonneg _ (by decide)
    exact s_ret (ev_op (ev_var rfl) (ev_op (ev_var rfl) ev_c (rv_I (by show (0 : Int) < 95; decide))) (rv_ixS' (by decide +kernel) hm (signBy_get c))) fun H3 e3 => q _ (e1.trans (e2.trans e3))
theorem ok_text_by (T : Txt K mg) : Def P w K mg base 2 (He.ga K "_law_text_by") ["_law_cell", "_law_size"] sp_text_by := by
  refine def_mk T.F__law_text_by sc_text_by (fun _ _ _ _ _ _ us hl => match us, hl with | [_, _], _ => rfl) (fun vs H Q E h => ?_) (fun cdv A outer s H vs Q E hr h => ?_)
  · obtain ⟨c, n, rfl, _⟩ := h
    rfl
  · obtain ⟨c, n, rfl, h0, hn, q⟩ := h
    obtain ⟨hb1, hb2, hb3⟩ := blockBy_le c h0
    refine ⟨_, pss_cons (ps_set (i := 2) sc_text_by.nd rfl (.inl rfl) (pe_ix ix_list (pe_lst (pa_cons pe_int (pa_cons pe_int (pa_cons pe_int (pa_cons pe_int pa_nil))))) (pe_op op_mod (pv 0) pe_int) (fun _ _ => rfl)))
      (pss_cons (ps_set (i := 3) sc_text_by.nd rfl (.inl rfl) (pv 1))
      (pss_cons (ps_if (pt_cmpR op_eq (pe_op op_mod (pv 0) pe_int) pe_int (nomark _)) (pss_one (ps_set (i := 3) sc_text_by.nd rfl (.inl rfl) (pe_callB (call_min2 rfl) (by rfl) T.b_min (by decide +kernel) (pa_cons (pv 1) (pa_cons (pe_op op_add pe_int (pe_op op_mod (pe_op op_fdiv (pv 0) pe_int) pe_int)) pa_nil))))) pss_nil)
      (pss_cons (ps_if (pt_cmpR op_eq (pv 3) pe_int (nomark _)) (pss_one (ps_ret pe_str)) pss_nil)
      (pss_cons (ps_set (i := 4) sc_text_by.nd rfl (.inl rfl) pe_str)
      (pss_cons (ps_set (i := 5) sc_text_by.nd rfl (.inl rfl) (pv 0))
      (pss_cons (ps_for PassesOwn.never rfl (pi_range1 rfl T.b_range (pa_cons (pv 3) pa_nil)) (pg_name (i := 6) sc_text_by.nd rfl (.inl rfl))
        (pss_cons (ps_set (i := 5) sc_text_by.nd rfl (.inl rfl) (pe_op op_mod (pe_op op_add (pe_op op_mul (pv 5) pe_int) pe_int) pe_int))
        (pss_one (ps_set (i := 4) sc_text_by.nd rfl (.inl rfl) (pe_op op_add_str (pv 4) (pc (ok_sign_by T) hr T.m__law_sign_by (pa_cons (pe_op op_add pe_int (pe_op op_mod (pe_op op_fdiv (pv 5) pe_int) (pv 2))) pa_nil)))))))
      (pss_one (ps_ret (pe_slice sl_str (pe_op op_mulS (pv 4) (pe_op op_add (pe_op op_fdiv (pv 1) (pv 3)) pe_int)) po_none (po_some (pv 1))))))))))), ?_⟩
    have hm : 0 ≤ c % 4 := Int.emod_nonneg _ (by decide)
    refine q_asg (ev_pick (by walk_at "ea") (fun H1 e1 => by walk_at "ev") hm (tbl4_get c)) fun H1 e1 => q_asg (ev_var rfl) fun H2 e2 => ?_
    have e12 := e1.trans e2
    refine q_ifAsg (b := decide (c % 4 = 2)) (v := .int (blockBy c n)) (by walk_at "et") (fun hb => ?_) (fun hb => ?_) fun H3 e3 => ?_
    · unfold blockBy
      rw [if_pos (of_decide_eq_true hb)]
      with_reducible apply ev_min
      · walk_at "ev"
      · walk_at "ev"
    · unfold blockBy
      rw [if_neg (of_decide_eq_false hb)]
      rfl
    refine q_when (b := decide (blockBy c n = 0)) (by walk_at "et") (fun hb H4 e4 => ?_) (fun hb H4 e4 => ?_)
    · unfold textBy at q
      rw [if_pos (of_decide_eq_true hb)] at q
      exact s_ret (v := .str (SX.S [])) ev_str fun H5 e5 => q _ (e12.trans (e3.trans (e4.trans e5)))
    · have hb0 := of_decide_eq_false hb
      refine q_asg ev_str fun H5 e5 => q_asg (by walk_at "ev") fun H6 e6 => ?_
      have e16 := e12.trans (e3.trans (e4.trans (e5.trans e6)))
      refine q_forR1 (n := blockBy c n) (EvA.one (ev_var rfl)) ⟨hb1, by omega⟩ (fun i σ H' => ∃ v, σ = [some (.int c), some (.int n), some (.int (tbl4 c)), some (.int (blockBy c n)), some (.str (SX.S (gotAt c i))), some (.int (numAt c i)), v] ∧ Ex H H') (fun H7 e7 => ⟨none, rfl, e16.trans e7⟩) ?_ ?_
      · rintro i σ H7 hi ⟨v, rfl, e7⟩
        refine q_asg (v := .int ((numAt c i * 48271 + 11) % 2147483647)) (by walk_at "ev") fun H8 e8 => ?_
        have ht := tbl4_pos c
        refine s_asg (D := { nx := _, rt := _, bk := _, ct := _ }) (ev_op (ev_var rfl) (ev_call (EvA.one (by walk_at "ev")) sv_sign_by) (rv_addS (by rw [gotAt_len, List.length_singleton]; omega))) fun H9 e9 => ?_
        exact ⟨_, by rw [gotAt_succ]; rfl, e7.trans (e8.trans e9)⟩
      · rintro σ H7 ⟨v, rfl, e7⟩
        have hd : 0 < blockBy c n := by omega
        have hz : (gotAt c (blockBy c n).toNat).length * (n / blockBy c n + 1).toNat ≤ 4000000 := by
          rw [gotAt_len]
          have h5 : n / blockBy c n ≤ n := Int.ediv_le_self _ h0
          have h6 : (n / blockBy c n + 1).toNat ≤ 1001 := by omega
          have h7 : (blockBy c n).toNat ≤ 1000 := by omega
          have := Nat.mul_le_mul h7 h6
          omega
        have h5 : n / blockBy c n ≤ n := Int.ediv_le_self _ h0
        have h8 : 0 ≤ n / blockBy c n := Int.ediv_nonneg h0 hb1
        refine s_ret (ev_sliceS (ev_op (ev_var rfl) (ev_op (ev_op (ev_var rfl) (ev_var rfl) (rv_I ⟨hd, by omega⟩)) ev_c rv_I0) (rv_mulS (by omega) (by omega) hz)) (by rw [flat_len, Nat.mul_comm]; exact hz) eo_none (eo_some (ev_var rfl))) fun H8 e8 => ?_
        rw [cut_to h0]
        have q2 := q _ (e7.trans e8)
        unfold textBy at q2
        rw [if_neg hb0] at q2
        exact q2
end


theorem sc_size_by : FnScope ["_law_cell"] ["_law_cell"] (defScope s__law_size_by) := ⟨rfl, rfl, rfl, by decide +kernel, rfl, by decide +kernel, by decide +kernel⟩
section
variable {P : Program} {w : World} {K : PySem.W.Frag} {mg : Str → Option Value} {base : Heap}
theorem ok_size_by (T : Txt K mg) : Def P w K mg base 1 (He.ga K "_law_size_by") ["_law_cell"] sp_size_by := by
  refine def_mk T.F__law_size_by sc_size_by (fun _ _ _ _ _ _ us hl => match us, hl with | [_], _ => rfl) (fun vs H Q E h => ?_) (fun cdv A outer s H vs Q E hr h => ?_)
  · obtain ⟨c, rfl, _⟩ := h
    rfl
  · obtain ⟨c, rfl, q⟩ := h
    refine ⟨_, pss_cons (ps_if (pt_cmpR op_eq (pe_op op_mod (pv 0) pe_int) pe_int (nomark _)) (pss_one (ps_ret (pe_op op_mod (pe_op op_fdiv (pv 0) pe_int) pe_int))) pss_nil) (pss_one (ps_ret (pe_op op_mod (pe_op op_fdiv (pv 0) pe_int) pe_int))), ?_⟩
    refine q_when (b := decide (c % 8 = 7)) (by walk_at "et") (fun hb H1 e1 => ?_) (fun hb H1 e1 => ?_)
    · have hc := of_decide_eq_true hb
      unfold sizeBy at q
      rw [if_pos hc] at q
      exact s_ret (by walk_at "ev") fun H2 e2 => q _ (e1.trans e2)
    · have hc := of_decide_eq_false hb
      unfold sizeBy at q
      rw [if_neg hc] at q
      exact s_ret (by walk_at "ev") fun H2 e2 => q _ (e1.trans e2)

end


/-! a weight from the last sign on -/
def wfold (x : Int) (l : List Nat) : Int := l.foldl (fun (n : Int) (c : Nat) => (n * 131 + (c : Int)) % 65521) x
/-- the tail of l from place n - i on, as a function of what stands ahead of it -/
def Tells (l : List Nat) (i : Nat) (t p : Int) : Prop := ∀ x : Int, wfold x (l.drop (l.length - i)) % 65521 = (t + x * p) % 65521
theorem tells_zero (l : List Nat) : Tells l 0 0 1 := fun x => by
  rw [Nat.sub_zero, List.drop_length]
  show x % 65521 = _
  congr 1
  omega
theorem tells_succ {l : List Nat} {i c : Nat} {t p : Int} (h : Tells l i t p) (hi : i < l.length) (hc : l[l.length - 1 - i]? = some c) : Tells l (i + 1) ((t + (c : Int) * p) % 65521) (p * 131 % 65521) := fun x => by
  have hj : l.length - (i + 1) < l.length := by omega
  have e : l.drop (l.length - (i + 1)) = c :: l.drop (l.length - i) := by
    rw [List.drop_eq_getElem_cons hj]
    have e1 : l.length - (i + 1) + 1 = l.length - i := by omega
    rw [e1]
    congr 1
    have e2 : l.length - 1 - i = l.length - (i + 1) := by omega
    rw [e2, List.getElem?_eq_getElem hj] at hc
    exact Option.some.inj hc
  rw [e]
  show wfold ((x * 131 + (c : Int)) % 65521) (l.drop (l.length - i)) % 65521 = _
  rw [h]
  have e3 : ((x * 131 + (c : Int)) % 65521 * p) % 65521 = ((x * 131 + (c : Int)) * p) % 65521 := by rw [Int.mul_emod, Int.emod_emod, ← Int.mul_emod]
  rw [Int.add_emod, e3, ← Int.add_emod]
  have e4 : (x * (p * 131 % 65521)) % 65521 = (x * (p * 131)) % 65521 := by rw [Int.mul_emod, Int.emod_emod, ← Int.mul_emod]
  rw [Int.add_emod ((t + (c : Int) * p) % 65521), Int.emod_emod, e4, ← Int.add_emod]
  congr 1
  rw [Int.add_mul, Int.mul_assoc, Int.mul_comm 131 p, Int.add_assoc, Int.add_comm ((c : Int) * p)]
theorem wt_range (l : List Nat) : wt l % 65521 = wt l := by
  rcases List.eq_nil_or_concat l with e | ⟨r, c, e⟩
  · subst e
    rfl
  · subst e
    unfold wt
    rw [List.concat_eq_append, List.foldl_append]
    exact Int.emod_emod _ _
theorem tells_all {l : List Nat} {t p : Int} (h : Tells l l.length t p) : wt l = (t + 7 * p) % 65521 := by
  have q := h 7
  rw [Nat.sub_self, List.drop_zero] at q
  exact (wt_range l).symm.trans q


/-! ### the law -/
theorem sc_law : FnScope ["_law_script", "_law_text", "_law_power", "_law_total", "_law_k", "_law_got"] ["_law_script"] (defScope s_law) := ⟨rfl, rfl, rfl, by decide +kernel, rfl, by decide +kernel, by decide +kernel⟩
local macro_rules | `(tactic| walk_at "sv") => `(tactic| first
  | exact sv_cell_at (by assumption) (by omega)
  | with_reducible exact sv_size_by
  | with_reducible exact sv_weight)
section
variable {P : Program} {w : World} {K : PySem.W.Frag} {mg : Str → Option Value} {base : Heap}
def sp_law (K : PySem.W.Frag) : Sp := fun vs H Q _ => ∃ (a : Addr) (ns : List Int), vs = [.ref a] ∧ SqL K H a (ns.map V.int) ∧ ns.length ≤ 63 ∧ RetV (.bl true) H Q
theorem ok_law (T : Txt K mg) : Def P w K mg base 3 (He.ga K "law") ["_law_script"] (sp_law K) := by
  refine def_mk T.F_law sc_law (fun _ _ _ _ _ _ us hl => match us, hl with | [_], _ => rfl) (fun vs H Q E h => ?_) (fun cdv A outer s H vs Q E hr h => ?_)
  · obtain ⟨a, ns, rfl, _⟩ := h
    rfl
  · obtain ⟨a, ns, rfl, hS, hlen, q⟩ := h
    refine ⟨_, pss_cons (ps_set (i := 1) sc_law.nd rfl (.inl rfl) (pc (ok_text_by T) hr T.m__law_text_by (pa_cons (pc (ok_cell_at T) hr T.m__law_cell_at (pa_cons (pv 0) (pa_cons pe_int pa_nil))) (pa_cons (pc (ok_size_by T) hr T.m__law_size_by (pa_cons (pc (ok_cell_at T) hr T.m__law_cell_at (pa_cons (pv 0) (pa_cons pe_int pa_nil))) pa_nil)) pa_nil))))
      (pss_cons (ps_set (i := 2) sc_law.nd rfl (.inl rfl) pe_int)
      (pss_cons (ps_set (i := 3) sc_law.nd rfl (.inl rfl) pe_int)
      (pss_cons (ps_for PassesOwn.never rfl (pi_range1 rfl T.b_range (pa_cons (pe_callB call_len_str (by rfl) T.b_len PySem.boot_len (pa_cons (pv 1) pa_nil)) pa_nil)) (pg_name (i := 4) sc_law.nd rfl (.inl rfl))
        (pss_cons (ps_set (i := 3) sc_law.nd rfl (.inl rfl) (pe_op op_mod (pe_op op_add (pv 3) (pe_op op_mul (pe_callB call_ord (by rfl) T.b_ord (by decide +kernel) (pa_cons (pe_ix ix_str (pv 1) (pe_op op_sub (pe_op op_sub (pe_callB call_len_str (by rfl) T.b_len PySem.boot_len (pa_cons (pv 1) pa_nil)) pe_int) (pv 4)) (fun _ _ => rfl)) pa_nil)) (pv 2))) pe_int))
        (pss_one (ps_set (i := 2) sc_law.nd rfl (.inl rfl) (pe_op op_mod (pe_op op_mul (pv 2) pe_int) pe_int)))))
      (pss_cons (ps_set (i := 5) sc_law.nd rfl (.inl rfl) (pc (ok_weight T) hr T.m_weight (pa_cons (pv 1) pa_nil)))
      (pss_one (ps_ret (pe_and (pc (ok_whole T) hr T.m__law_whole (pa_cons (pv 5) pa_nil)) (pe_one (pe_cmpR op_eq (pv 5) (pe_op op_mod (pe_op op_add (pv 3) (pe_op op_mul pe_int (pv 2))) pe_int) (nomark _)))))))))), ?_⟩
    obtain ⟨c1, hc1⟩ : ∃ c, c = cellAt ns (1 : Int).toNat := ⟨_, rfl⟩
    obtain ⟨hz0, hz1⟩ := sizeBy_lo c1
    obtain ⟨l, hl⟩ : ∃ l, l = textBy (cellAt ns (0 : Int).toNat) (sizeBy c1) := ⟨_, rfl⟩
    have hln : l.length ≤ 299 := by
      rw [hl, textBy_len _ hz0]
      omega
    have hok : ∀ x ∈ l, okc x = true := by
      rw [hl]
      exact textBy_ok _ _
    refine q_asg (v := .str (SX.S l)) (ev_call (vs := [.int (cellAt ns (0 : Int).toNat), .int (sizeBy c1)]) (by rw [hc1]; walk_at "ea") (by rw [hl]; exact sv_text_by hz0 (by omega))) fun H1 e1 => q_asg (by walk_at "ev") fun H2 e2 => q_asg (by walk_at "ev") fun H3 e3 => ?_
    refine q_forR1 (n := (l.length : Int)) (EvA.one (ev_lenS (ev_var rfl) (by omega))) ⟨by omega, by omega⟩ (fun i σ H' => ∃ t p v, σ = [some (.ref a), some (.str (SX.S l)), some (.int p), some (.int t), v, none] ∧ Tells l i t p ∧ 0 ≤ p ∧ p < 65521 ∧ Ex H H') (fun H4 e4 => ⟨0, 1, none, rfl, tells_zero l, by decide, by decide, (e1.trans e2).trans (e3.trans e4)⟩) ?_ ?_
    · rintro i σ H4 hi ⟨t, p, v, rfl, ht, hp0, hp1, e4⟩
      have hi' : i < l.length := by omega
      have hj : l.length - 1 - i < l.length := by omega
      have hc : l[l.length - 1 - i]? = some l[l.length - 1 - i] := List.getElem?_eq_getElem hj
      have ej : ((l.length : Int) - 1 - (i : Int)).toNat = l.length - 1 - i := by omega
      refine q_asg (v := .int ((t + ((l[l.length - 1 - i] : Nat) : Int) * p) % 65521)) ?_ fun H5 e5 => s_asg (D := { nx := _, rt := _, bk := _, ct := _ }) (by walk_at "ev") fun H6 e6 => ?_
      · refine ev_op (ev_op (ev_var rfl) (ev_op (ev_ord (ev_op (ev_var rfl) (ev_op (ev_op (ev_lenS (ev_var rfl) (by omega)) ev_c rv_I0) (ev_var rfl) rv_I0) (rv_ixS' (by omega) (by omega) (by rw [ej]; exact hc)))) (ev_var rfl) (rv_I (Or.inr ⟨by omega, by omega⟩))) rv_I0) ev_c (rv_I (by show (0 : Int) < 65521; decide))
      · exact ⟨_, _, _, rfl, tells_succ ht hi' hc, Int.emod_nonneg _ (by decide), Int.emod_lt_of_pos _ (by decide), e4.trans (e5.trans e6)⟩
    · rintro σ H4 ⟨t, p, v, rfl, ht, hp0, hp1, e4⟩
      have ht' : Tells l l.length t p := by simpa using ht
      refine q_asg (by walk_at "ev") fun H5 e5 => s_ret (v := .bl true) ?_ fun H6 e6 => q _ (e4.trans (e5.trans e6))
      refine ev_is (ev_andV (a := true) (b := true) (ev_call (EvA.one (ev_var rfl)) (sv_whole (.int _))) fun _ => ev_is (ev_op (ev_var rfl) (by walk_at "ev") rv_eqI) ?_) rfl
      exact congrArg V.bl (decide_eq_true (tells_all ht'))
end

end Ck
set_option maxHeartbeats 0
namespace Ck
open PySem L2
def h_fa : List He.Fa := [.free "bool", .free "int", .free "isinstance", .free "len", .free "min", .free "ord", .free "range", .glo "weight", .glo "_law_cell_at", .glo "_law_whole", .glo "_law_sign_by", .glo "_law_text_by", .glo "_law_size_by", .glo "law"]
def h_fn : List He.DefD := [⟨("weight", none), "weight", "weight", defArgs s_weight, defBody s_weight, defScope s_weight, [], []⟩, ⟨("_law_cell_at", none), "_law_cell_at", "_law_cell_at", defArgs s__law_cell_at, defBody s__law_cell_at, defScope s__law_cell_at, [], []⟩, ⟨("_law_whole", none), "_law_whole", "_law_whole", defArgs s__law_whole, defBody s__law_whole, defScope s__law_whole, [], []⟩, ⟨("_law_sign_by", none), "_law_sign_by", "_law_sign_by", defArgs s__law_sign_by, defBody s__law_sign_by, defScope s__law_sign_by, [], []⟩, ⟨("_law_text_by", none), "_law_text_by", "_law_text_by", defArgs s__law_text_by, defBody s__law_text_by, defScope s__law_text_by, [], []⟩, ⟨("_law_size_by", none), "_law_size_by", "_law_size_by", defArgs s__law_size_by, defBody s__law_size_by, defScope s__law_size_by, [], []⟩, ⟨("law", none), "law", "law", defArgs s_law, defBody s_law, defScope s_law, [], []⟩]
def h_loose : List Str := [("weight" : Str), ("_law_cell_at" : Str), ("_law_whole" : Str), ("_law_sign_by" : Str), ("_law_text_by" : Str), ("_law_size_by" : Str)]
def h_ex (_ : PySem.W.Frag) : Bool := true
abbrev RR : PySem.W.OpenRow := PySem.W.OpenLaw.row PySem.Challenge.rw_chunkshelf_k01_weights
abbrev hk : PySem.W.Hook := CkH.hookC 5 h_fa h_fn h_ex
def ob (s : PySem.W.SharedT) : CkH.AlC := CkH.obsC 5 h_fa h_fn h_ex (HandSHeadRun.getT s)
theorem ob_eq (s : PySem.W.SharedT) : ob s = hk.obs s.abs := CkH.obsC_eq (HandSHeadRun.getT_eq s)
theorem head_run (w : World) : HandSHeadRun.RunEq RR (PySem.W.view RR.prog [8]) hk ob 600 h_loose w := by
  intro os
  kernel_rfl
theorem facts {K : PySem.W.Frag} {h : Heap} {mg : Str → Option Value} (X : K.In h) (G : h.Ns mainGlobals mg) (c : CkH.SaysC h_fa h_fn h_ex K) : Txt K mg := by
  have x0 : mg "bool" = none := He.free_ok X G (c.1.fact 0 (f := .free "bool") rfl)
  have x1 : mg "int" = none := He.free_ok X G (c.1.fact 1 (f := .free "int") rfl)
  have x2 : mg "isinstance" = none := He.free_ok X G (c.1.fact 2 (f := .free "isinstance") rfl)
  have x3 : mg "len" = none := He.free_ok X G (c.1.fact 3 (f := .free "len") rfl)
  have x4 : mg "min" = none := He.free_ok X G (c.1.fact 4 (f := .free "min") rfl)
  have x5 : mg "ord" = none := He.free_ok X G (c.1.fact 5 (f := .free "ord") rfl)
  have x6 : mg "range" = none := He.free_ok X G (c.1.fact 6 (f := .free "range") rfl)
  have x7 : mg "weight" = some (.ref (He.ga K "weight")) := He.glo_ok X G (c.1.fact 7 (f := .glo "weight") rfl)
  have x8 : ∃ fd, Fun K "weight" "weight" s_weight (He.ga K "weight") fd := (c.1.def_ 0 rfl).imp fun _ F => CkH.fun_of F
  have x9 : mg "_law_cell_at" = some (.ref (He.ga K "_law_cell_at")) := He.glo_ok X G (c.1.fact 8 (f := .glo "_law_cell_at") rfl)
  have x10 : ∃ fd, Fun K "_law_cell_at" "_law_cell_at" s__law_cell_at (He.ga K "_law_cell_at") fd := (c.1.def_ 1 rfl).imp fun _ F => CkH.fun_of F
  have x11 : mg "_law_whole" = some (.ref (He.ga K "_law_whole")) := He.glo_ok X G (c.1.fact 9 (f := .glo "_law_whole") rfl)
  have x12 : ∃ fd, Fun K "_law_whole" "_law_whole" s__law_whole (He.ga K "_law_whole") fd := (c.1.def_ 2 rfl).imp fun _ F => CkH.fun_of F
  have x13 : mg "_law_sign_by" = some (.ref (He.ga K "_law_sign_by")) := He.glo_ok X G (c.1.fact 10 (f := .glo "_law_sign_by") rfl)
  have x14 : ∃ fd, Fun K "_law_sign_by" "_law_sign_by" s__law_sign_by (He.ga K "_law_sign_by") fd := (c.1.def_ 3 rfl).imp fun _ F => CkH.fun_of F
  have x15 : mg "_law_text_by" = some (.ref (He.ga K "_law_text_by")) := He.glo_ok X G (c.1.fact 11 (f := .glo "_law_text_by") rfl)
  have x16 : ∃ fd, Fun K "_law_text_by" "_law_text_by" s__law_text_by (He.ga K "_law_text_by") fd := (c.1.def_ 4 rfl).imp fun _ F => CkH.fun_of F
  have x17 : mg "_law_size_by" = some (.ref (He.ga K "_law_size_by")) := He.glo_ok X G (c.1.fact 12 (f := .glo "_law_size_by") rfl)
  have x18 : ∃ fd, Fun K "_law_size_by" "_law_size_by" s__law_size_by (He.ga K "_law_size_by") fd := (c.1.def_ 5 rfl).imp fun _ F => CkH.fun_of F
  have x19 : mg "law" = some (.ref (He.ga K "law")) := He.glo_ok X G (c.1.fact 13 (f := .glo "law") rfl)
  have x20 : ∃ fd, Fun K "law" "law" s_law (He.ga K "law") fd := (c.1.def_ 6 rfl).imp fun _ F => CkH.fun_of F
  exact {
    b_bool := x0,
    b_int := x1,
    b_isinstance := x2,
    b_len := x3,
    b_min := x4,
    b_ord := x5,
    b_range := x6,
    m_weight := x7,
    F_weight := x8,
    m__law_cell_at := x9,
    F__law_cell_at := x10,
    m__law_whole := x11,
    F__law_whole := x12,
    m__law_sign_by := x13,
    F__law_sign_by := x14,
    m__law_text_by := x15,
    F__law_text_by := x16,
    m__law_size_by := x17,
    F__law_size_by := x18,
    m_law := x19,
    F_law := x20 }
end Ck
open PySem PySem.W PySem.Calls PyProof.Rows
theorem PySem.Challenge.cw_chunkshelf_k01_weights_holds : PySem.Challenge.rw_chunkshelf_k01_weights.Holds := by
  w_on; o_law
  refine HandSHeadRun.head_any (r := OpenLaw.row PySem.Challenge.rw_chunkshelf_k01_weights) (q := view (OpenLaw.row PySem.Challenge.rw_chunkshelf_k01_weights).prog [8]) (H := Ck.hk) (ob := Ck.ob) (M := 600) (loose := Ck.h_loose) (d := HandSHeadRun.topDef (OpenLaw.row PySem.Challenge.rw_chunkshelf_k01_weights).prog 8) (kwd := []) Ck.ob_eq
    (by kernel_rfl) (fun s => by kernel_rfl) Ck.head_run (by kernel_rfl) (by kernel_rfl) (by kernel_rfl) (by rfl) (by first | assumption | decide +kernel) (by decide +kernel) ⟨rfl, rfl, rfl, rfl, rfl, by decide +kernel⟩ ?hw ?hc
  case hw => w_witness2
  case hc =>
    refine L2.walk_ofE (l := PySem.Challenge.rw_chunkshelf_k01_weights) (n := 63) (k := 3) (x := "_law_script") (CX := L2.CX0) rfl (by decide) (by kernel_rfl) ⟨rfl, by decide, by decide⟩ ?F (fun _ _ _ _ z => z)
    intro w mg fa h Y G hmg0
    obtain ⟨K, KX, c⟩ := Y
    have hmg : mg ("law" : PySem.Str) = some (.ref fa) := by
      have e : (HandSHeadRun.topDef (OpenLaw.row PySem.Challenge.rw_chunkshelf_k01_weights).prog 8).name = ("law" : PySem.Str) := by kernel_rfl
      rw [← e]
      exact hmg0
    have T := Ck.facts KX G c
    have ef := hmg.symm.trans T.m_law
    cases ef
    refine ⟨K, Ck.fdOf K _, Ck.sp_law K, KX, fun s u => .of_eq ((Ck.ok_law (P := (PySem.Challenge.rw_chunkshelf_k01_weights).prog) (w := w) (base := h) T).2.1 [u] rfl), fun H a ns hl _ hS => ⟨a, ns, rfl, hS, hl, fun _ _ => rfl⟩, fun base hb hn => ?_⟩
    exact (Ck.Def.law (fun b _ _ => (Ck.ok_law (P := (PySem.Challenge.rw_chunkshelf_k01_weights).prog) (w := w) (base := b) T)) (fun _ _ _ _ z => z) base hb hn)

