import PyProof.Rows.All
import Wide.All
import OpenK.AllK
import Wide.FinOn
import PyProof.StrBlock2
import HandS.ForMost
import HandS.Evl
import HandS.Walk
import HandS.Codes
import HandS.IsInst
import HandS.Exc
import HandS.ExcOwn
import HandS.TryOnly
import HandS.WordsExc
import KE.KStateDown
import HandS.Defaults
import HandS.Head0
import HandS.Head1
import HandS.Head2
import HandS.HeadEnd
import HandS.HeadHook1
import HandS.HeadHook2
import PySem.Challenge.RW_chunkshelf_k04_whole_few_altered
set_option Elab.async false
set_option linter.all false
set_option maxRecDepth 100000
set_option maxHeartbeats 4000000
namespace Ck
open PySem L2 Evl

/-! text times int -/
def rMulS : R2 := fun x y H Q => ∃ (l : List Nat) (k : Int), x = .str (SX.S l) ∧ y = .int k ∧ -100000 < k ∧ k < 100000 ∧ l.length * k.toNat ≤ 4000000 ∧ Q (.str (SX.S (List.replicate k.toNat l).flatten)) H
theorem foldl_cat (a : Array Nat) : ∀ (n : Nat) (acc : Array Nat), (List.replicate n a).foldl (· ++ ·) acc = (acc.toList ++ (List.replicate n a.toList).flatten).toArray
  | 0, acc => by simp
  | n + 1, acc => by
    rw [List.replicate_succ, List.foldl_cons, foldl_cat a n, List.replicate_succ, List.flatten_cons]
    simp
theorem mul_S (l : List Nat) (k : Int) : Txt.mul (SX.S l) k = SX.S (List.replicate k.toNat l).flatten := by
  unfold Txt.mul
  by_cases h1 : k < 1
  · rw [if_pos h1]
    have e : k.toNat = 0 := by omega
    rw [e]; rfl
  · rw [if_neg h1]
    by_cases h2 : (k == 1 || (SX.S l).length == 0) = true
    · rw [if_pos h2]
      rw [Bool.or_eq_true, beq_iff_eq, beq_iff_eq] at h2
      rcases h2 with h2 | h2
      · subst h2
        show SX.S l = SX.S (List.replicate 1 l).flatten
        simp
      · rw [SX.S_len] at h2
        have e : l = [] := List.length_eq_zero_iff.mp h2
        subst e
        simp
    · rw [if_neg h2, foldl_cat]
      simp
section
variable {X : Cx}
theorem op_mulS : OpR X (binaryOp .Mult) rMulS := by
  intro pins s σ H x y v u Q I rx ry h
  obtain ⟨l, k, rfl, rfl, hk0, hk, hz, q⟩ := h
  obtain ⟨t, rfl⟩ := rx
  obtain ⟨t', rfl⟩ := ry
  refine SB.mul ⟨?_, fun h1 h2 => ?_, fun h1 h2 => ?_⟩ (fun t2 k2 => ⟨.str (Txt.mul (SX.S l) k), H, I.tok _, ⟨_, rfl⟩, ?_⟩)
  · rw [Bool.or_eq_false_iff]
    exact ⟨decide_eq_false (by omega), decide_eq_false (by omega)⟩
  · rw [SX.S_len]
    have hl : l.length ≤ 4000000 := by
      have h3 : 1 ≤ k.toNat := by omega
      have := Nat.le_mul_of_pos_right l.length h3
      omega
    have h4 : (100000000 : Int) ≤ (2 ^ 63 - 1) / k := by
      rw [Int.le_ediv_iff_mul_le (by omega)]
      omega
    omega
  · rw [SX.S_len]
    unfold Builtin.Str.tooLong
    exact decide_eq_false (by rw [sizeLine_eq]; omega)
  · rw [mul_S]; exact q
end

/-! values evaluated, with a base heap -/
section
variable {K : PySem.W.Frag} {σ : L2.St} {H H' : Hp} {ta tb te tx : TE} {t u : TT} {x y z v : V} {D : Ends} {tu tw tz : TS} {g : TG}
theorem rv_eqI {i j : Int} : RV rEq (.int i) (.int j) H (.bl (decide (i = j))) := by
  refine rv_val fun H1 e Q q => ⟨rfl, ?_⟩
  have e : decide (V.int i = V.int j) = decide (i = j) := by simp
  rw [e]; exact q
theorem rv_neI {i j : Int} : RV rNe (.int i) (.int j) H (.bl (!decide (i = j))) := by
  refine rv_val fun H1 e Q q => ⟨rfl, ?_⟩
  have e : decide (V.int i = V.int j) = decide (i = j) := by simp
  rw [e]; exact q
theorem rv_eqS {i j : List Nat} : RV rEq (.str (SX.S i)) (.str (SX.S j)) H (.bl (decide (i = j))) := by
  refine rv_val fun H1 e Q q => ⟨rfl, ?_⟩
  have e : decide (V.str (SX.S i) = V.str (SX.S j)) = decide (i = j) := by
    rw [decide_eq_decide]
    exact ⟨fun h => SX.S_inj (V.str.inj h), fun h => by rw [h]⟩
  rw [e]; exact q
theorem rv_addS {i j : List Nat} (h : i.length + j.length ≤ 1000000) : RV (fun x y H Q => ∃ i j, x = .str i ∧ y = .str j ∧ i.length + j.length ≤ sizeLine ∧ Q (.str (i ++ j)) H) (.str (SX.S i)) (.str (SX.S j)) H (.str (SX.S (i ++ j))) := by
  refine rv_val fun H1 e Q q => ⟨SX.S i, SX.S j, rfl, rfl, ?_, ?_⟩
  · rw [SX.S_len, SX.S_len, sizeLine_eq]; omega
  · rw [SX.S_cat]; exact q
theorem rv_mulS {l : List Nat} {k : Int} (h1 : -100000 < k) (h2 : k < 100000) (h3 : l.length * k.toNat ≤ 4000000) : RV rMulS (.str (SX.S l)) (.int k) H (.str (SX.S (List.replicate k.toNat l).flatten)) :=
  rv_val fun _ _ _ q => ⟨l, k, rfl, rfl, h1, h2, h3, q⟩
theorem rv_ixS' {l : List Nat} {i : Int} {c : Nat} (h : l.length ≤ 100000) (h0 : 0 ≤ i) (hc : l[i.toNat]? = some c) : RV rIxS (.str (SX.S l)) (.int i) H (.str (SX.S [c])) := by
  refine rv_ixS (by rw [SX.S_len]; exact h) ?_
  have e : ((i.toNat : Nat) : Int) = i := by omega
  rw [← e]
  exact atI_nat hc
theorem rv_ixL' {p : Addr} {xs : List V} {i : Int} (h : SqL K H p xs) (h0 : 0 ≤ i) (ha : xs[i.toNat]? = some v) : RV (rIxL K) (.ref p) (.int i) H v := by
  refine rv_ixL h ?_
  have e : ((i.toNat : Nat) : Int) = i := by omega
  rw [← e]
  exact atI_nat ha
theorem ev_ord {c : Nat} (ha : Ev ta σ H (.str (SX.S [c]))) : Ev (tCB (fun xs H Q => ∃ x, xs = [.str x] ∧ x.length = 1 ∧ Q (.int (x.cps.getD 0 0 : Nat)) H) (tCons ta tNil)) σ H (.int (c : Int)) := fun H1 e Q q =>
  ha H1 e _ fun H2 e2 => ⟨SX.S [c], rfl, rfl, q H2 e2⟩
theorem ev_lenS {l : List Nat} (ha : Ev ta σ H (.str (SX.S l))) (hl : l.length ≤ 1000000) : Ev (tCB (fun xs H Q => ∃ z, xs = [.str z] ∧ z.length ≤ sizeLine ∧ Q (.int z.length) H) (tCons ta tNil)) σ H (.int (l.length : Int)) := fun H1 e Q q =>
  ha H1 e _ fun H2 e2 => ⟨SX.S l, rfl, by rw [SX.S_len, sizeLine_eq]; omega, by rw [SX.S_len]; exact q H2 e2⟩
theorem ev_sliceS {l : List Nat} {tl th : TO} {lo hi : Option Int} (h : Ev te σ H (.str (SX.S l))) (hl : l.length ≤ 4000000) (h1 : EvO tl σ H lo) (h2 : EvO th σ H hi) : Ev (tSl rSlS te tl th) σ H (.str (cutS (SX.S l) lo hi)) := fun H1 e Q q =>
  h H1 e _ fun H2 e2 => h1 H2 (e.trans e2) _ fun H3 e3 => h2 H3 ((e.trans e2).trans e3) _ fun H4 e4 => ⟨SX.S l, rfl, by rw [SX.S_len, sizeLine_eq]; omega, q H4 ((e2.trans e3).trans e4)⟩
theorem cut_S (l : List Nat) (lo hi : Option Int) : cutS (SX.S l) lo hi = SX.S ((l.drop (HT.sIx l.length 0 lo)).take (HT.sIx l.length l.length hi - HT.sIx l.length 0 lo)) := by
  unfold cutS
  rw [SX.S_len]
theorem cut_to {l : List Nat} {i : Int} (h : 0 ≤ i) : cutS (SX.S l) none (some i) = SX.S (l.take i.toNat) := by
  rw [C8.cutS_slice, SX.slice_to h]
theorem cut_from {l : List Nat} {i : Int} (h : 0 ≤ i) : cutS (SX.S l) (some i) none = SX.S (l.drop i.toNat) := by
  rw [C8.cutS_slice, SX.slice_from h]
theorem cut_mid {l : List Nat} {i j : Int} (h : 0 ≤ i) (hj : 0 ≤ j) : cutS (SX.S l) (some i) (some j) = SX.S ((l.drop i.toNat).take (j.toNat - i.toNat)) := by
  rw [cut_S]
  have e1 : HT.sIx l.length 0 (some i) = min i.toNat l.length := by
    have := HT.sIx_nat l.length 0 i.toNat
    rwa [show ((i.toNat : Nat) : Int) = i by omega] at this
  have e2 : HT.sIx l.length l.length (some j) = min j.toNat l.length := by
    have := HT.sIx_nat l.length l.length j.toNat
    rwa [show ((j.toNat : Nat) : Int) = j by omega] at this
  rw [e1, e2]
  congr 1
  by_cases hl : i.toNat ≤ l.length
  · rw [Nat.min_eq_left hl]
    by_cases hl2 : j.toNat ≤ l.length
    · rw [Nat.min_eq_left hl2]
    · rw [Nat.min_eq_right (by omega)]
      rw [List.take_of_length_le (by rw [List.length_drop]; omega), List.take_of_length_le (by rw [List.length_drop]; omega)]
  · rw [List.drop_eq_nil_of_le (show l.length ≤ i.toNat by omega), List.drop_eq_nil_of_le (by omega)]
    simp
end
/-! kinds of values -/
inductive TN (H : Hp) : V → String → Prop where
  | non : TN H .non "NoneType"
  | bl (b : Bool) : TN H (.bl b) "bool"
  | int (i : Int) : TN H (.int i) "int"
  | str (x : Str) : TN H (.str x) "str"
  | lst {a : Addr} {xs : List V} (e : H a = some (.lst xs)) : TN H (.ref a) "list"
  | tup {a : Addr} {xs : List V} (e : H a = some (.tup xs)) : TN H (.ref a) "tuple"
  | dK {a : Addr} {kvs : List (Key × V)} (e : H a = some (.dK kvs)) : TN H (.ref a) "dict"
  | dT {a : Addr} {kvs : List (List Key × V)} (e : H a = some (.dT kvs)) : TN H (.ref a) "dict"
theorem TN.ex {H H' : Hp} {x : V} {n : String} (t : TN H x n) (e : Ex H H') : TN H' x n := by
  cases t with
  | non => exact .non
  | bl b => exact .bl b
  | int i => exact .int i
  | str x => exact .str x
  | lst h => exact .lst (e _ _ h)
  | tup h => exact .tup (e _ _ h)
  | dK h => exact .dK (e _ _ h)
  | dT h => exact .dT (e _ _ h)
theorem TN.ty {K : PySem.W.Frag} {H : Hp} {x : V} {n : String} (t : TN H x n) : TyX K H x (.type n) := by
  cases t with
  | non => exact .base .non
  | bl b => exact .base (.bl b)
  | int i => exact .base (.int i)
  | str x => exact .base (.str x)
  | lst h => exact .base (.lst h)
  | tup h => exact .base (.tup h)
  | dK h => exact .base (.dK h)
  | dT h => exact .base (.dT h)
section
variable {K : PySem.W.Frag} {σ : L2.St} {H H' : Hp} {ta tb te tx : TE} {t u : TT} {x y z v : V}
theorem ev_isi {n c : String} {b : Bool} (ha : Ev ta σ H x) (ht : TN H x n) (hk : kitB n c = some b) : Ev (tCB (rIsi K) (tCons ta (tCons (tC (.ty c)) tNil))) σ H (.bl b) := fun H1 e Q q =>
  ha H1 e _ fun H2 e2 => ⟨x, .ty c, .type n, .type c, b, rfl, .ty c, (ht.ex (e.trans e2)).ty, kit_ty hk, q H2 e2⟩
/-- is it a whole number -/
def isW : V → Bool
  | .int _ => true
  | _ => false
theorem isW_tn {n : String} (ht : TN H x n) : kitB n "int" = some (isW x || (n == "bool")) ∧ kitB n "bool" = some (n == "bool") ∧ (isW x && (n == "bool")) = false := by
  cases ht with
  | non => exact ⟨by show kitB "NoneType" "int" = some false; decide +kernel, by show kitB "NoneType" "bool" = some false; decide +kernel, rfl⟩
  | bl b => exact ⟨by show kitB "bool" "int" = some true; decide +kernel, by show kitB "bool" "bool" = some true; decide +kernel, rfl⟩
  | int i => exact ⟨by show kitB "int" "int" = some true; decide +kernel, by show kitB "int" "bool" = some false; decide +kernel, rfl⟩
  | str x => exact ⟨by show kitB "str" "int" = some false; decide +kernel, by show kitB "str" "bool" = some false; decide +kernel, rfl⟩
  | lst h => exact ⟨by show kitB "list" "int" = some false; decide +kernel, by show kitB "list" "bool" = some false; decide +kernel, rfl⟩
  | tup h => exact ⟨by show kitB "tuple" "int" = some false; decide +kernel, by show kitB "tuple" "bool" = some false; decide +kernel, rfl⟩
  | dK h => exact ⟨by show kitB "dict" "int" = some false; decide +kernel, by show kitB "dict" "bool" = some false; decide +kernel, rfl⟩
  | dT h => exact ⟨by show kitB "dict" "int" = some false; decide +kernel, by show kitB "dict" "bool" = some false; decide +kernel, rfl⟩
theorem isW_and {n : String} (ht : TN H x n) : ((isW x || (n == "bool")) && !(n == "bool")) = isW x := by
  have h := (isW_tn ht).2.2
  cases e : isW x <;> cases e2 : (n == "bool") <;> simp_all
/-- a written text by its codes -/
def cd (s : String) : List Nat := s.toList.map Char.toNat
theorem lit (s : String) : Str.ofString s = SX.S (cd s) := Str.ofString_eq_toList s
theorem ev_str {s : String} : Ev (tC (.str (Str.ofString s))) σ H (.str (SX.S (cd s))) := by
  rw [← lit s]
  exact ev_c
theorem ev_min {i j : Int} (ha : Ev ta σ H (.int i)) (hb : Ev tb σ H (.int j)) : Ev (tCB (fun xs H Q => ∃ i j, xs = [.int i, .int j] ∧ Q (.int (if j < i then j else i)) H) (tCons ta (tCons tb tNil))) σ H (.int (if j < i then j else i)) := fun H1 e Q q =>
  ha H1 e _ fun H2 e2 => hb H2 (e.trans e2) _ fun H3 e3 => ⟨i, j, rfl, q H3 (e2.trans e3)⟩
theorem ev_max {i j : Int} (ha : Ev ta σ H (.int i)) (hb : Ev tb σ H (.int j)) : Ev (tCB (fun xs H Q => ∃ i j, xs = [.int i, .int j] ∧ Q (.int (if j > i then j else i)) H) (tCons ta (tCons tb tNil))) σ H (.int (if j > i then j else i)) := fun H1 e Q q =>
  ha H1 e _ fun H2 e2 => hb H2 (e.trans e2) _ fun H3 e3 => ⟨i, j, rfl, q H3 (e2.trans e3)⟩
/-- int(flag), int(n) -/
theorem ev_intB {b : Bool} (ha : Ev ta σ H (.bl b)) : Ev (tCB (fun xs H Q => (∃ i, xs = [.int i] ∧ Q (.int i) H) ∨ ∃ k, xs = [.bl k] ∧ Q (.int (if k then 1 else 0)) H) (tCons ta tNil)) σ H (.int (if b then 1 else 0)) := fun H1 e Q q =>
  ha H1 e _ fun H2 e2 => .inr ⟨b, rfl, q H2 e2⟩
theorem RetV.mono {Q : VK} (e : Ex H H') (k : RetV v H Q) : RetV v H' Q := fun H2 e2 => k H2 (e.trans e2)
/-- [a, b, ..][i] -/
theorem ev_pick {ta : TA} {vs : List V} {i : Int} (ha : EvA ta σ H vs) (hb : ∀ H1, Ex H H1 → Ev tb σ H1 (.int i)) (h0 : 0 ≤ i) (hi : vs[i.toNat]? = some z) (hl : vs.length ≤ 100000 := by decide) : Ev (tOp (rIxL K) (tLst ta) tb) σ H z :=
  ev_opL1 (el_lst ha hl) hb fun _ _ hp _ => rv_ixL' (sq_of hp) h0 hi
theorem EvA.one {te : TE} (h : Ev te σ H v) : EvA (tCons te tNil) σ H [v] := ea_cons h ea_nil
end

/-! defs, called -/
/-- the def at f keeps its promise, by at most level k -/
def junk : FuncData := PySem.W.fnOf "x" "x" (defArgs (.Pass ⟨0, 0, 0, 0⟩)) [] (defScope (.Pass ⟨0, 0, 0, 0⟩)) .none .none .none .none none .none .none
def fdOf (K : PySem.W.Frag) (f : Addr) : FuncData := match K.lookup f with
  | some o => (match o.data with
    | .func fd => fd
    | _ => junk)
  | none => junk
theorem fdOf_eq {K : PySem.W.Frag} {f : Addr} {fd : FuncData} {oc : Value} {od : Option Addr} {osl : Array (Option Value)} (h : K.lookup f = some ⟨oc, od, .func fd, osl⟩) : fdOf K f = fd := by
  unfold fdOf
  rw [h]
def Def (P : Program) (w : World) (K : PySem.W.Frag) (mg : Str → Option Value) (base : Heap) (k : Nat) (f : Addr) (ps : List Str) (sp : Sp) : Prop :=
  FnOk P w K mg base (L2.CX P w) k f (fdOf K f) ps sp ∧ (∀ us : List Value, us.length = ps.length → bindArgs (fdOf K f) ⟨us, []⟩ = pure (ps.zip us)) ∧ PySem.W.keepIn K (.ref f) = true
section
variable {P : Program} {w : World} {K : PySem.W.Frag} {mg : Str → Option Value} {base : Heap} {f : Addr} {x qual : Str} {st : Stmt} {N ps : List Str} {k : Nat} {sp : Sp}
abbrev BindsTx (x qual : Str) (st : Stmt) (ps : List Str) : Prop :=
  ∀ (kV doc pm : Value) (an : Option Addr) (cdv ct : Value) (us : List Value), us.length = ps.length → bindArgs (PySem.W.fnOf x qual (defArgs st) (defBody st) (defScope st) .none kV doc pm an cdv ct) ⟨us, []⟩ = pure (ps.zip us)
/-- a def that may raise -/
theorem def_mkX (F : ∃ fd, Fun K x qual st f fd) (S : FnScope N ps (defScope st)) (hb : BindsTx x qual st ps) (len : ∀ vs H Q E, sp vs H Q E → vs.length = ps.length)
    (hbody : ∀ (cdv : Value) (A : Around) (outer : List Env) (s : Shared) (H : Hp) (vs : List V) (Q : VK) (E : XK), Room k (A.deeper (PyProof.Rows.envOfC qual (defScope st) s.heap.objs.size f cdv)) → sp vs H Q E →
      ∃ t, PSs (cxOf (L2.CX P w) P w K mg base N qual (defScope st) f cdv A outer s H E) (defBody st) t ∧ t { nx := fun _ H' => Q .non H', rt := Q } (start N vs) H) : Def P w K mg base (k + 1) f ps sp := by
  obtain ⟨fd, F⟩ := F
  have e : fdOf K f = fd := by
    obtain ⟨_, _, _, _, _, _, _, _, _, _, h, _⟩ := F.ex
    exact fdOf_eq h
  unfold Def
  rw [e]
  refine ⟨F.okX S len hbody, ?_, F.kp⟩
  obtain ⟨oc, od, kV, doc, pm, an, cdv, ct, osl, rfl, lk, hcd⟩ := F.ex
  exact hb kV doc pm an cdv ct
/-- a def out of which nothing is raised -/
theorem def_mk (F : ∃ fd, Fun K x qual st f fd) (S : FnScope N ps (defScope st)) (hb : BindsTx x qual st ps) (len : ∀ vs H Q E, sp vs H Q E → vs.length = ps.length)
    (hbody : ∀ (cdv : Value) (A : Around) (outer : List Env) (s : Shared) (H : Hp) (vs : List V) (Q : VK) (E : XK), Room k (A.deeper (PyProof.Rows.envOfC qual (defScope st) s.heap.objs.size f cdv)) → sp vs H Q E →
      ∃ t, PSs (cxOf (L2.CX P w) P w K mg base N qual (defScope st) f cdv A outer s H E).nox (defBody st) t ∧ t { nx := fun _ H' => Q .non H', rt := Q } (start N vs) H) : Def P w K mg base (k + 1) f ps sp :=
  def_mkX F S hb len fun cdv A outer s H vs Q E hr h => by
    obtain ⟨t, h1, h2⟩ := hbody cdv A outer s H vs Q E hr h
    exact ⟨t, h1.nox, h2⟩
theorem Def.imp {sp' : Sp} (D : Def P w K mg base k f ps sp) (h : ∀ vs H Q E, sp' vs H Q E → sp vs H Q E) : Def P w K mg base k f ps sp' := by
  obtain ⟨F, b, kp⟩ := D
  exact ⟨F.imp h, b, kp⟩
theorem Def.mono {j : Nat} (D : Def P w K mg base j f ps sp) (h : j ≤ k) : Def P w K mg base k f ps sp := by
  obtain ⟨F, b, kp⟩ := D
  exact ⟨F.mono h, b, kp⟩
end
section
variable {X : Cx} {k n : Nat} {f C : Addr} {ps : List Str} {sp : Sp} {E : XK} {x m : Str} {p pos apos : Pos} {e o : Expr} {es : List Expr} {ta : TE} {t : TA}
/-- f(e, ..), what it raises being wished for by E -/
theorem pcX (D : Def X.prog X.w X.K X.mg X.base k f ps sp) (hr : Room n X.A) (hm : X.mg x = some (.ref f)) (hx : Passes (L2.CX X.prog X.w) X E) (ha : PA X (e :: es) t) (hg : Gl X x := by rfl) (hk : k ≤ n := by decide)
    (hdb : (x == ("__debug__" : Str)) = false := by decide) (he : starEach (e :: es) X.env = (false, eval e X.env) :: starEach es X.env := by rfl) (hpl : (backTo pos (starEach es X.env)).any (·.1) = false := by rfl) :
    PE X (.Call (.Name x p) (e :: es) [] pos) (tCall sp [] E t) := by
  obtain ⟨F, b0, kp⟩ := D
  have b := Binds.all (K := X.K) b0
  exact pe_call F (hr.mono hk) hg hm kp b .nil hx ha hdb he hpl
theorem pc (D : Def X.prog X.w X.K X.mg X.base k f ps sp) (hr : Room n X.A) (hm : X.mg x = some (.ref f)) (ha : PA X (e :: es) t) (hg : Gl X x := by rfl) (hk : k ≤ n := by decide)
    (hdb : (x == ("__debug__" : Str)) = false := by decide) (he : starEach (e :: es) X.env = (false, eval e X.env) :: starEach es X.env := by rfl) (hpl : (backTo pos (starEach es X.env)).any (·.1) = false := by rfl) :
    PE X (.Call (.Name x p) (e :: es) [] pos) (tCall sp [] E0 t) := pcX D hr hm passL ha hg hk hdb he hpl
/-- o.m(e, ..) -/
theorem pmX {pl : Sem Bool} (he : PE X o ta) (c : Cls X.K C) (hm : Meth X.K C m f) (D : Def X.prog X.w X.K X.mg X.base k f ps sp) (hr : Room n X.A) (hx : Passes (L2.CX X.prog X.w) X E) (ha : PA X (e :: es) t) (hk : k ≤ n := by decide)
    (hst : starEach (e :: es) X.env = (false, eval e X.env) :: starEach es X.env := by rfl) (hpl : (backTo pos (starEach es X.env)).any (·.1) = false := by rfl)
    (ht : eval (.Call (.Attribute o m apos) (e :: es) [] pos) X.env = (do
      let ov ← eval o X.env
      standAt apos.atName
      let (f, first) ← holding [ov] (getMethod ov m pl)
      callWith pos f first (backTo pos (starEach (e :: es) X.env)) (backToKw pos (keywordEach [] X.env))) := by rfl) :
    PE X (.Call (.Attribute o m apos) (e :: es) [] pos) (tMeth C m sp [] E ta t) := by
  obtain ⟨F, b0, kp⟩ := D
  have b := Binds.all (K := X.K) b0
  exact pe_meth he c hm F (hr.mono hk) b .nil hx ha hst hpl ht
theorem pm {pl : Sem Bool} (he : PE X o ta) (c : Cls X.K C) (hm : Meth X.K C m f) (D : Def X.prog X.w X.K X.mg X.base k f ps sp) (hr : Room n X.A) (ha : PA X (e :: es) t) (hk : k ≤ n := by decide)
    (hst : starEach (e :: es) X.env = (false, eval e X.env) :: starEach es X.env := by rfl) (hpl : (backTo pos (starEach es X.env)).any (·.1) = false := by rfl)
    (ht : eval (.Call (.Attribute o m apos) (e :: es) [] pos) X.env = (do
      let ov ← eval o X.env
      standAt apos.atName
      let (f, first) ← holding [ov] (getMethod ov m pl)
      callWith pos f first (backTo pos (starEach (e :: es) X.env)) (backToKw pos (keywordEach [] X.env))) := by rfl) :
    PE X (.Call (.Attribute o m apos) (e :: es) [] pos) (tMeth C m sp [] E0 ta t) := pmX he c hm D hr passL ha hk hst hpl ht
/-- o.m() -/
theorem pm0X {pl : Sem Bool} (he : PE X o ta) (c : Cls X.K C) (hm : Meth X.K C m f) (D : Def X.prog X.w X.K X.mg X.base k f ps sp) (hr : Room n X.A) (hx : Passes (L2.CX X.prog X.w) X E) (hk : k ≤ n := by decide)
    (ht : eval (.Call (.Attribute o m apos) [] [] pos) X.env = (do
      let ov ← eval o X.env
      standAt apos.atName
      let (f, first) ← holding [ov] (getMethod ov m pl)
      callWith pos f first (backTo pos (starEach [] X.env)) (backToKw pos (keywordEach [] X.env))) := by rfl) :
    PE X (.Call (.Attribute o m apos) [] [] pos) (tMeth C m sp [] E ta tNil) := by
  obtain ⟨F, b0, kp⟩ := D
  have b := Binds.all (K := X.K) b0
  exact pe_meth0 he c hm F (hr.mono hk) b .nil hx ht
theorem pm0 {pl : Sem Bool} (he : PE X o ta) (c : Cls X.K C) (hm : Meth X.K C m f) (D : Def X.prog X.w X.K X.mg X.base k f ps sp) (hr : Room n X.A) (hk : k ≤ n := by decide)
    (ht : eval (.Call (.Attribute o m apos) [] [] pos) X.env = (do
      let ov ← eval o X.env
      standAt apos.atName
      let (f, first) ← holding [ov] (getMethod ov m pl)
      callWith pos f first (backTo pos (starEach [] X.env)) (backToKw pos (keywordEach [] X.env))) := by rfl) :
    PE X (.Call (.Attribute o m apos) [] [] pos) (tMeth C m sp [] E0 ta tNil) := pm0X he c hm D hr passL hk ht
/-- C(e, ..) -/
theorem pmkX (M : Mk X.K C f) (D : Def X.prog X.w X.K X.mg X.base k f ps sp) (hr : Room n X.A) (hm : X.mg x = some (.ref C)) (hx : Passes (L2.CX X.prog X.w) X E) (ha : PA X (e :: es) t) (hg : Gl X x := by rfl) (hk : k + 1 ≤ n := by decide)
    (hdb : (x == ("__debug__" : Str)) = false := by decide) (he : starEach (e :: es) X.env = (false, eval e X.env) :: starEach es X.env := by rfl) (hpl : (backTo pos (starEach es X.env)).any (·.1) = false := by rfl) :
    PE X (.Call (.Name x p) (e :: es) [] pos) (tMake C sp [] E t) := by
  obtain ⟨F, b0, kp⟩ := D
  have b := Binds.all (K := X.K) b0
  exact pe_make M F (hr.mono hk) hg hm b .nil hx ha hdb he hpl
theorem pmk0 (M : Mk X.K C f) (D : Def X.prog X.w X.K X.mg X.base k f ps sp) (hr : Room n X.A) (hm : X.mg x = some (.ref C)) (hg : Gl X x := by rfl) (hk : k + 1 ≤ n := by decide)
    (hdb : (x == ("__debug__" : Str)) = false := by decide) : PE X (.Call (.Name x p) [] [] pos) (tMake C sp [] E0 tNil) := by
  obtain ⟨F, b0, kp⟩ := D
  have b := Binds.all (K := X.K) b0
  exact pe_make0 M F (hr.mono hk) hg hm b .nil passL hdb
end
section
variable {K : PySem.W.Frag} {σ : L2.St} {H H' : Hp} {ta tb te tx : TE} {t u : TT} {x y z v : V}
/-- o.m(..) as a value -/
theorem ev_meth {C a dx : Addr} {m : Str} {sp : Sp} {E : XK} {fs : List (Str × V)} {tas : TA} {vs : List V} (ha : Ev ta σ H (.ref a)) (hi : H a = some (.ins C dx fs)) (hl : fs.lookup m = none) (h : EvA tas σ H vs) (hs : SpV sp (.ref a :: (vs ++ [])) H z) :
    Ev (tMeth C m sp [] E ta tas) σ H z := fun H1 e Q q =>
  ha H1 e _ fun H2 e2 => ⟨a, dx, fs, rfl, (e.trans e2) _ _ hi, hl, h H2 (e.trans e2) _ fun H3 e3 => hs H3 ((e.trans e2).trans e3) Q (fun H4 e4 => q H4 ((e2.trans e3).trans e4)) E⟩
/-- o.f -/
theorem ev_fld {C a dx : Addr} {f : Str} {fs : List (Str × V)} (ha : Ev ta σ H (.ref a)) (hi : H a = some (.ins C dx fs)) (c : Cls K C) (n : NoAttr K C f) (hl : fs.lookup f = some v) : Ev (tFld K ta f) σ H v := fun H1 e Q q =>
  ha H1 e _ fun H2 e2 => ⟨a, C, dx, fs, v, rfl, (e.trans e2) _ _ hi, c, n, hl, q H2 e2⟩
end

section
variable {P : Program} {w : World} {K : PySem.W.Frag} {mg : Str → Option Value} {base : Heap} {f : Addr} {ps : List Str} {k : Nat} {sp : Sp}
theorem cx_no {outer : List Env} {H : Hp} {s : Shared} {u : Value} {s' : Shared} (h : L2.CX P w outer H s E0 u s') : False := by
  obtain ⟨_, _, _, _, _, _, _, _, _, _, _, _, z⟩ := h
  exact z
/-- a def out of which nothing comes, at the law's end -/
theorem fnok_law {fd : FuncData} (F : FnOk P w K mg base (L2.CX P w) k f fd ps sp) (h : ∀ vs H Q E, sp vs H Q E → sp vs H Q E0) : FnOk P w K mg base CX0 k f fd ps sp := by
  refine ⟨F.len, fun A outer s H args us vs Q E hr e0 hb r hsp => ?_⟩
  refine codeAny_mono (F.run A outer s H args us vs Q E0 hr e0 hb r (h _ _ _ _ hsp)) fun x s' q => ?_
  cases x with
  | error e => exact (cx_no q).elim
  | ok fl => cases fl <;> exact q
theorem Def.law (D : ∀ base : Heap, K.In base → base.Ns mainGlobals mg → Def P w K mg base k f ps sp) (h : ∀ vs H Q E, sp vs H Q E → sp vs H Q E0) (base : Heap) (hb : K.In base) (hn : base.Ns mainGlobals mg) : FnOk P w K mg base CX0 k f (fdOf K f) ps sp := fnok_law (D base hb hn).1 h
end

/-! more rules -/
section
variable {X : Cx} {x : Str} {pos : Pos}
theorem pg_int {i : Int} (h : ∃ t, X.mg x = some (.int i t)) (hg : Gl X x := by rfl) (hd : (x == ("__debug__" : Str)) = false := by decide) : PE X (.Name x pos) (tC (.int i)) := by
  obtain ⟨t, h⟩ := h
  exact pe_glob hg h ⟨_, rfl⟩ hd
theorem pg_str {z : Str} (h : ∃ t, X.mg x = some (.str z t)) (hg : Gl X x := by rfl) (hd : (x == ("__debug__" : Str)) = false := by decide) : PE X (.Name x pos) (tC (.str z)) := by
  obtain ⟨t, h⟩ := h
  exact pe_glob hg h ⟨_, rfl⟩ hd
/-- x is True -/
def rIsTrue : R2 := fun x y H Q => y = .bl true ∧ Q (.bl (decide (x = .bl true))) H
theorem relTrue {x : V} {v : Value} (r : RelV x v) : (v == Value.bool true) = decide (x = .bl true) := by
  cases x with
  | bl b => cases r; cases b <;> rfl
  | non => cases r; rfl
  | int _ => obtain ⟨t, rfl⟩ := r; rfl
  | str _ => obtain ⟨t, rfl⟩ := r; rfl
  | byt _ => obtain ⟨t, rfl⟩ := r; rfl
  | flt _ => obtain ⟨t, rfl⟩ := r; rfl
  | ref _ => cases r; rfl
  | ty _ => cases r; rfl
theorem op_is_True : OpR X (compareOp .Is) rIsTrue := by
  intro pins s σ H x y v u Q I rx ry h
  obtain ⟨rfl, q⟩ := h
  cases (show u = Value.bool true from ry)
  have hp : plainIs v (.bool true) = true := by
    cases x with
    | bl b => cases rx; rfl
    | non => cases rx; rfl
    | int _ => obtain ⟨t, rfl⟩ := rx; rfl
    | str _ => obtain ⟨t, rfl⟩ := rx; rfl
    | byt _ => obtain ⟨t, rfl⟩ := rx; rfl
    | flt _ => obtain ⟨t, rfl⟩ := rx; rfl
    | ref _ => cases rx; rfl
    | ty _ => cases rx; rfl
  exact wpAny_is_plain hp ⟨.bl _, H, I, rfl, by rw [relTrue rx]; exact q⟩
end
section
variable {K : PySem.W.Frag} {σ : L2.St} {H H' : Hp} {ta tb te tx : TE} {t u : TT} {x y z v : V}
theorem rv_isTrue : RV rIsTrue x (.bl true) H (.bl (decide (x = .bl true))) := rv_val fun _ _ _ q => ⟨rfl, q⟩
theorem rv_isN : RV (fun x y H Q => y = .non ∧ Q (.bl (decide (x = .non))) H) x .non H (.bl (decide (x = .non))) := rv_val fun _ _ _ q => ⟨rfl, q⟩
/-- [e for x in range(lo, n) if t] -/
theorem el_lcR2 {ta : TA} {j : Nat} {vs : List Nat} {lo n : Int} (f : Nat → Bool) (v : Nat → V) (h : EvA ta σ H [.int lo, .int n]) (hn : 0 ≤ lo ∧ lo ≤ 40000 ∧ -40000 ≤ n ∧ n ≤ 40000) (hw : ∀ x, wipe ((wipe σ vs).set j (some x)) vs = wipe σ vs)
    (ht : ∀ (i : Nat) H1, Ex H H1 → lo + (i : Int) < n → EvT t ((wipe σ vs).set j (some (.int (lo + (i : Int))))) H1 (f i)) (he : ∀ (i : Nat) H1, Ex H H1 → lo + (i : Int) < n → f i = true → Ev te ((wipe σ vs).set j (some (.int (lo + (i : Int))))) H1 (v i)) :
    EvL (tLc (iRng2 ta) (gName j) t te vs) σ H (given (n - lo).toNat f v) := fun H0 e Q q => h H0 e _ fun H1 e1 => ⟨lo, n, rfl, ⟨by omega, by omega, by omega, by omega⟩, fun Dl hD =>
  lc_range (lo := lo) (n := (n - lo).toNat) (Cw H1 f v Dl) ⟨hD, Ex.new hD, upd_same⟩ (fun i H' hi p => ⟨hw _, cw_turn p (by omega) (ht i H1 (e.trans e1) (by omega)) (fun hf => he i H1 (e.trans e1) (by omega) hf)⟩) (fun H' p => q Dl H' (fresh_back e1 p.1) (e1.trans p.2.1) p.2.2)⟩
theorem et_yes : EvT tYes σ H true := fun H1 _ _ q => q H1 (Ex.refl H1)
theorem given_all (n : Nat) (v : Nat → V) : given n (fun _ => true) v = (List.range n).map v := by
  unfold given
  rw [List.filter_eq_self.mpr (fun _ _ => rfl)]
theorem ev_lenT {p : Addr} {xs : List V} (ha : Ev ta σ H (.ref p)) (h : SqT K H p xs) : Ev (tCB (rLenS K) (tCons ta tNil)) σ H (.int (xs.length : Int)) := fun H1 e Q q =>
  ha H1 e _ fun H2 e2 => ⟨p, xs, rfl, Or.inr (ex_t (e.trans e2) h), q H2 e2⟩
theorem rv_ixSL {p : Addr} {xs : List V} {j : Nat} (h : SqL K H p xs) (ha : xs[j]? = some v) : RV (rIx K) (.ref p) (.int (j : Int)) H v := fun H1 e _ q => .inl ⟨p, xs, _, v, rfl, rfl, ex_l e h, atI_nat ha, q H1 (Ex.refl H1)⟩
theorem rv_ixST {p : Addr} {xs : List V} {j : Nat} (h : SqT K H p xs) (ha : xs[j]? = some v) : RV (rIx K) (.ref p) (.int (j : Int)) H v := fun H1 e _ q => .inr (.inl ⟨p, xs, _, v, rfl, rfl, ex_t e h, atI_nat ha, q H1 (Ex.refl H1)⟩)
theorem v_int {i j : Int} (e : i = j) (h : Ev te σ H (.int i)) : Ev te σ H (.int j) := by
  rw [← e]
  exact h
/-- an expression's new list let go -/
theorem s_dropL {D : Ends} {xs : List V} (h : EvL te σ H xs) (k : ∀ p H1, H p = none → Ex H H1 → H1 p = some (.lst xs) → D.nx σ H1) : tDrop te D σ H := h H (Ex.refl H) _ fun p H1 hp e h1 => k p H1 hp e h1
theorem q_dropL {D : Ends} {tz : TS} {xs : List V} (h : EvL te σ H xs) (k : ∀ p H1, H p = none → Ex H H1 → H1 p = some (.lst xs) → tz D σ H1) : tSeq (tDrop te) tz D σ H := s_dropL (D := { D with nx := tz D }) h k
/-- which items of a typed list, and what of them -/
theorem given_list {α : Type} (p : α → Bool) (u : α → V) : ∀ l : List α, given l.length (fun i => match l[i]? with | some a => p a | none => false) (fun i => match l[i]? with | some a => u a | none => .non) = (l.filter p).map u
  | [] => rfl
  | a :: l => by
    have ih := given_list p u l
    unfold given at ih ⊢
    rw [List.length_cons, List.range_succ_eq_map, List.filter_cons, List.filter_map, List.filter_cons]
    have e1 : (match (a :: l)[0]? with | some a => p a | none => false) = p a := rfl
    rw [e1]
    by_cases h : p a = true
    · rw [if_pos h, if_pos h, List.map_cons, List.map_cons, List.map_map]
      exact congrArg (List.cons (u a)) ih
    · rw [if_neg h, if_neg h, List.map_map]
      exact ih
/-- [e for x in xs if t], xs a list of typed things -/
theorem el_lcF {α : Type} {a : Addr} {l : List α} {gv : α → V} {tl : TE} {j : Nat} {vs : List Nat} (p : α → Bool) (u : α → V) (h : Ev tl σ H (.ref a)) (hx : SqL K H a (l.map gv)) (hz : l.length ≤ 40000) (hw : ∀ x, wipe ((wipe σ vs).set j (some x)) vs = wipe σ vs)
    (ht : ∀ x H1, x ∈ l → Ex H H1 → EvT t ((wipe σ vs).set j (some (gv x))) H1 (p x)) (he : ∀ x H1, x ∈ l → Ex H H1 → p x = true → Ev te ((wipe σ vs).set j (some (gv x))) H1 (u x)) : EvL (tLc (iList K tl) (gName j) t te vs) σ H ((l.filter p).map u) := by
  have g := el_lcL (te := te) (t := t) (fun i => match l[i]? with | some a => p a | none => false) (fun i => match l[i]? with | some a => u a | none => .non) h hx (by rw [List.length_map]; exact hz) hw (fun i x H1 e hi => ?_) (fun i x H1 e hi hf => ?_)
  · rw [List.length_map, given_list] at g
    exact g
  · rw [List.getElem?_map] at hi
    cases q : l[i]? with
    | none =>
      rw [q] at hi
      cases hi
    | some b =>
      rw [q] at hi
      cases hi
      exact ht b H1 (List.mem_of_getElem? q) e
  · rw [List.getElem?_map] at hi
    cases q : l[i]? with
    | none =>
      rw [q] at hi
      cases hi
    | some b =>
      rw [q] at hi hf
      cases hi
      exact he b H1 (List.mem_of_getElem? q) e hf
/-- .. a new list -/
theorem el_lcNF {α : Type} {l : List α} {gv : α → V} {tl : TE} {j : Nat} {vs : List Nat} (p : α → Bool) (u : α → V) (h : EvL tl σ H (l.map gv)) (hz : l.length ≤ 40000) (hw : ∀ x, wipe ((wipe σ vs).set j (some x)) vs = wipe σ vs)
    (ht : ∀ x H1, x ∈ l → Ex H H1 → EvT t ((wipe σ vs).set j (some (gv x))) H1 (p x)) (he : ∀ x H1, x ∈ l → Ex H H1 → p x = true → Ev te ((wipe σ vs).set j (some (gv x))) H1 (u x)) : EvL (tLc (iList K tl) (gName j) t te vs) σ H ((l.filter p).map u) := by
  have g := el_lcNL (K := K) (te := te) (t := t) (fun i => match l[i]? with | some a => p a | none => false) (fun i => match l[i]? with | some a => u a | none => .non) h (by rw [List.length_map]; exact hz) hw (fun i x H1 e hi => ?_) (fun i x H1 e hi hf => ?_)
  · rw [List.length_map, given_list] at g
    exact g
  · rw [List.getElem?_map] at hi
    cases q : l[i]? with
    | none =>
      rw [q] at hi
      cases hi
    | some b =>
      rw [q] at hi
      cases hi
      exact ht b H1 (List.mem_of_getElem? q) e
  · rw [List.getElem?_map] at hi
    cases q : l[i]? with
    | none =>
      rw [q] at hi
      cases hi
    | some b =>
      rw [q] at hi hf
      cases hi
      exact he b H1 (List.mem_of_getElem? q) e hf
theorem filter_yes {α : Type} (l : List α) : l.filter (fun _ => true) = l := List.filter_eq_self.mpr fun _ _ => rfl
theorem rv_pow {i j : Int} (h : 0 ≤ j ∧ j ≤ 1000000 ∧ i.natAbs < 2 ^ 64) : RV (rI CPow fun i j => .int (i ^ j.toNat)) (.int i) (.int j) H (.int (i ^ j.toNat)) := rv_I h
theorem ev_takeS {l : List Nat} {n : Nat} (h : Ev te σ H (.str (SX.S l))) (hn : Ev tx σ H (.int (n : Int))) (hl : l.length ≤ 4000000 := by omega) : Ev (tSl rSlS te tNoPart (tPart tx)) σ H (.str (SX.S (l.take n))) := by
  have g := ev_sliceS h hl eo_none (eo_some hn)
  rw [cut_to (Int.natCast_nonneg n), Int.toNat_natCast] at g
  exact g
theorem ev_dropS {l : List Nat} {n : Nat} (h : Ev te σ H (.str (SX.S l))) (hn : Ev tx σ H (.int (n : Int))) (hl : l.length ≤ 4000000 := by omega) : Ev (tSl rSlS te (tPart tx) tNoPart) σ H (.str (SX.S (l.drop n))) := by
  have g := ev_sliceS h hl (eo_some hn) eo_none
  rw [cut_from (Int.natCast_nonneg n), Int.toNat_natCast] at g
  exact g
theorem ev_midS {l : List Nat} {n m : Nat} (h : Ev te σ H (.str (SX.S l))) (hn : Ev tx σ H (.int (n : Int))) (hm : Ev tb σ H (.int (m : Int))) (hl : l.length ≤ 4000000 := by omega) : Ev (tSl rSlS te (tPart tx) (tPart tb)) σ H (.str (SX.S ((l.drop n).take (m - n)))) := by
  have g := ev_sliceS h hl (eo_some hn) (eo_some hm)
  rw [cut_mid (Int.natCast_nonneg n) (Int.natCast_nonneg m), Int.toNat_natCast, Int.toNat_natCast] at g
  exact g
end

/-! the same rules with the written part named apart (a block's context does not show it) -/
section
variable {X : Cx} {K : PySem.W.Frag} {e o l tg : Expr} {f : Str} {pos apos : Pos} {ta to tl te tx : TE}
theorem kop_in (h : X.K = K) : OpR X (compareOp .In) (rIn K false) := by
  subst h
  exact op_in_seq
theorem kop_notIn (h : X.K = K) : OpR X (compareOp .NotIn) (rIn K true) := by
  subst h
  exact op_notIn_seq
theorem kop_eqD (h : X.K = K) (hu : X.A.units + 64 < cLine) : OpR X (compareOp .Eq) (rEqD K) := by
  subst h
  exact op_eqD hu
theorem kop_neD (h : X.K = K) (hu : X.A.units + 64 < cLine) : OpR X (compareOp .NotEq) (rNeD K) := by
  subst h
  exact op_neD hu
theorem kix_list (h : X.K = K) : IxR X (rIxL K) := by
  subst h
  exact ix_list
theorem kix_tup (h : X.K = K) : IxR X (rIxT K) := by
  subst h
  exact ix_tup
theorem kix_seq (h : X.K = K) : IxR X (rIx K) := by
  subst h
  exact ix_seq
theorem ksl_list (h : X.K = K) : SlR X (rSlL K) := by
  subst h
  exact sl_list
theorem kcall_len (h : X.K = K) : CallR X (.builtin "len") (rLenS K) := by
  subst h
  exact call_len_seq
theorem kcall_isi (h : X.K = K) : CallR X (.builtin "isinstance") (rIsi K) := by
  subst h
  exact call_isi
theorem kcall_list (h : X.K = K) : CallR X (.type "list") (rListS K) := by
  subst h
  exact call_list_of
def rTupS (K : PySem.W.Frag) : List V → Hp → VK → Prop := fun xs H Q => ∃ p ys, xs = [.ref p] ∧ ((SqL K H p ys ∧ ∀ l, H l = none → Q (.ref l) (upd H l (.tup ys))) ∨ (SqT K H p ys ∧ Q (.ref p) H))
theorem kcall_tup (h : X.K = K) : CallR X (.type "tuple") (rTupS K) := by
  subst h
  exact call_tuple_of
theorem kpi_list (h : X.K = K) (hl : PE X l tl) : PI X tg l (iList K tl) := by
  subst h
  exact pi_list hl
theorem kpi_tup (h : X.K = K) (hl : PE X l tl) : PI X tg l (iTup K tl) := by
  subst h
  exact pi_tup hl
theorem kfld (h : X.K = K) (he : PE X e ta) (hb : attributeBase e f X.env (eval e X.env) = eval e X.env := by rfl) : PE X (.Attribute e f pos) (tFld K ta f) := by
  subst h
  exact pe_fld he hb
/-- sep.join(xs) -/
def rJoin (K : PySem.W.Frag) : V → List V → Hp → VK → Prop := fun x xs H Q => ∃ a p, ∃ ys : List Str, x = .str a ∧ xs = [.ref p] ∧ (SqL K H p (ys.map V.str) ∨ SqT K H p (ys.map V.str)) ∧ (ys.map (·.length)).sum + ys.length * a.length ≤ 16777216 ∧ Q (.str (Txt.join a ys)) H
theorem kjoin (h : X.K = K) (ho : PE X o to) (he : PE X e te) (hs : starEach [e] X.env = [(false, eval e X.env)] := by rfl) (hbase : attributeBase o "join" X.env (eval o X.env) = eval o X.env := by rfl) (hline : (apos.endLine == pos.line) = true := by rfl) :
    PE X (.Call (.Attribute o "join" apos) [e] [] pos) (tM1 (rJoin K) to te) := by
  subst h
  exact pe_join ho he hs hbase hline
/-- xs.append(e) -/
theorem kappend (h : X.K = K) {es : List Expr} {t : TA} {cpos : Pos} (ho : PE X o to) (ha : PA X (e :: es) t)
    (hbase : attributeBase o "append" X.env (eval o X.env) = eval o X.env := by rfl)
    (hfew : ((backTo cpos (starEach (e :: es) X.env)).all (fun x => !x.1) && (backToKw cpos (keywordEach [] X.env)).all (fun x => x.1.isSome) && decide ((e :: es).length + ([] : List Keyword).length + (if ([] : List Keyword).isEmpty then 0 else 1) < 30)) = true := by rfl)
    (hline : (apos.endLine == cpos.line) = true := by rfl) (hs : starEach (e :: es) X.env = (false, eval e X.env) :: starEach es X.env := by rfl) (hplain : (backTo cpos (starEach es X.env)).any (·.1) = false := by rfl) :
    PE X (.Call (.Attribute o "append" apos) (e :: es) [] cpos) (tBM K "list" rAppend to t) := by
  subst h
  exact pe_bm PySem.F.plainAttrs_list PySem.F.slot_list_append PySem.F.type_list_append mt_append ho ha hbase hfew hline hs hplain
theorem kextend (h : X.K = K) {es : List Expr} {t : TA} {cpos : Pos} (ho : PE X o to) (ha : PA X (e :: es) t)
    (hbase : attributeBase o "extend" X.env (eval o X.env) = eval o X.env := by rfl)
    (hfew : ((backTo cpos (starEach (e :: es) X.env)).all (fun x => !x.1) && (backToKw cpos (keywordEach [] X.env)).all (fun x => x.1.isSome) && decide ((e :: es).length + ([] : List Keyword).length + (if ([] : List Keyword).isEmpty then 0 else 1) < 30)) = true := by rfl)
    (hline : (apos.endLine == cpos.line) = true := by rfl) (hs : starEach (e :: es) X.env = (false, eval e X.env) :: starEach es X.env := by rfl) (hplain : (backTo cpos (starEach es X.env)).any (·.1) = false := by rfl) :
    PE X (.Call (.Attribute o "extend" apos) (e :: es) [] cpos) (tBM K "list" rExtend to t) := by
  subst h
  exact pe_bm PySem.F.plainAttrs_list PySem.F.slot_list_extend PySem.F.type_list_extend mt_extend ho ha hbase hfew hline hs hplain
end

/-- the slots written out -/
theorem at_ {t : TS} {D : Ends} {σ σ' : L2.St} {H : Hp} (e : σ = σ') (h : t D σ' H) : t D σ H := by
  rw [e]
  exact h
end Ck

namespace CkH
open PySem PySem.Spec PyProof.Rows L2 He
/-! the head's hook: facts by names, and one Bool more -/
abbrev AlC : Type := AlD × Bool
def obsC (n : Nat) (fa : List Fa) (fn : List DefD) (ex : PySem.W.Frag → Bool) (g : Addr → Option Obj) : AlC := (obsD fa fn (frG g (asD g n)), ex (frG g (asD g n)))
def SaysC (fa : List Fa) (fn : List DefD) (ex : PySem.W.Frag → Bool) (K : PySem.W.Frag) : Prop := SaysD fa fn K ∧ ex K = true
def hookC (n : Nat) (fa : List Fa) (fn : List DefD) (ex : PySem.W.Frag → Bool) : PySem.W.Hook where
  α := AlC
  obs := fun s => obsC n fa fn ex s.heap.get?
  val := fun _ => (valD fn, true)
  says := fun _ h => ∃ K : PySem.W.Frag, K.In h ∧ SaysC fa fn ex K
  of := fun _ _ e => ⟨_, frG_in, congrArg (fun z : AlC => z.1) e, congrArg (fun z : AlC => z.2) e⟩
  keeps := fun _ _ _ ⟨K, hK, c⟩ k => ⟨K, PySem.W.Frag.In.keeps hK k, c⟩
theorem obsC_eq {n : Nat} {fa : List Fa} {fn : List DefD} {ex : PySem.W.Frag → Bool} {g : Addr → Option Obj} {s : Shared} (h : ∀ a, g a = s.heap.get? a) : obsC n fa fn ex g = (hookC n fa fn ex).obs s := by
  have e : g = s.heap.get? := funext h
  rw [e] <;> rfl
/-- a def by its hook's datum as HandS.Words has it -/
theorem fun_of {K : PySem.W.Frag} {x qual : Str} {st : Stmt} {f : Addr} {fd : FuncData} (F : FunD K x qual (defArgs st) (defBody st) (defScope st) [] [] f fd) : Fun K x qual st f fd := by
  obtain ⟨oc, od, dV, kV, doc, pm, an, cdv, ct, osl, rfl, lk, hcd, hd, _⟩ := F.ex
  have e : dV = .none := by
    rcases hd with ⟨_, h⟩ | ⟨h, _⟩
    · exact h
    · exact absurd rfl h
  subst e
  exact ⟨⟨oc, od, kV, doc, pm, an, cdv, ct, osl, rfl, lk, hcd⟩, F.kp⟩
end CkH

namespace Ck
open PySem L2 Evl
def top (i : Nat) : Stmt := PySem.Challenge.pw_chunkshelf_k04_whole_few_altered.main.body.getD i (.Pass ⟨0, 0, 0, 0⟩)
abbrev s_weight : Stmt := top 1
abbrev s_weights : Stmt := top 2
abbrev s_is_low : Stmt := top 3
abbrev s_cuts : Stmt := top 4
abbrev s_pieces : Stmt := top 5
abbrev s_few : Stmt := top 6
abbrev s__law_cell_at : Stmt := top 8
abbrev s__law_whole : Stmt := top 9
abbrev s__law_sign_by : Stmt := top 10
abbrev s__law_text_by : Stmt := top 11
abbrev s__law_alike : Stmt := top 12
abbrev s__law_size_by : Stmt := top 13
abbrev s__law_reach_by : Stmt := top 14
abbrev s__law_ahead : Stmt := top 15
abbrev s__law_behind : Stmt := top 16
abbrev s_law : Stmt := top 17
structure Txt (K : PySem.W.Frag) (mg : Str → Option Value) : Prop where
  b_bool : mg "bool" = none
  b_int : mg "int" = none
  b_isinstance : mg "isinstance" = none
  b_len : mg "len" = none
  b_list : mg "list" = none
  b_min : mg "min" = none
  b_ord : mg "ord" = none
  b_range : mg "range" = none
  b_str : mg "str" = none
  b_tuple : mg "tuple" = none
  m_weight : mg "weight" = some (.ref (He.ga K "weight"))
  F_weight : ∃ fd, Fun K "weight" "weight" s_weight (He.ga K "weight") fd
  m_weights : mg "weights" = some (.ref (He.ga K "weights"))
  F_weights : ∃ fd, Fun K "weights" "weights" s_weights (He.ga K "weights") fd
  m_is_low : mg "is_low" = some (.ref (He.ga K "is_low"))
  F_is_low : ∃ fd, Fun K "is_low" "is_low" s_is_low (He.ga K "is_low") fd
  m_cuts : mg "cuts" = some (.ref (He.ga K "cuts"))
  F_cuts : ∃ fd, Fun K "cuts" "cuts" s_cuts (He.ga K "cuts") fd
  m_pieces : mg "pieces" = some (.ref (He.ga K "pieces"))
  F_pieces : ∃ fd, Fun K "pieces" "pieces" s_pieces (He.ga K "pieces") fd
  m_few : mg "few" = some (.ref (He.ga K "few"))
  F_few : ∃ fd, Fun K "few" "few" s_few (He.ga K "few") fd
  m__law_cell_at : mg "_law_cell_at" = some (.ref (He.ga K "_law_cell_at"))
  F__law_cell_at : ∃ fd, Fun K "_law_cell_at" "_law_cell_at" s__law_cell_at (He.ga K "_law_cell_at") fd
  m__law_whole : mg "_law_whole" = some (.ref (He.ga K "_law_whole"))
  F__law_whole : ∃ fd, Fun K "_law_whole" "_law_whole" s__law_whole (He.ga K "_law_whole") fd
  m__law_sign_by : mg "_law_sign_by" = some (.ref (He.ga K "_law_sign_by"))
  F__law_sign_by : ∃ fd, Fun K "_law_sign_by" "_law_sign_by" s__law_sign_by (He.ga K "_law_sign_by") fd
  m__law_text_by : mg "_law_text_by" = some (.ref (He.ga K "_law_text_by"))
  F__law_text_by : ∃ fd, Fun K "_law_text_by" "_law_text_by" s__law_text_by (He.ga K "_law_text_by") fd
  m__law_alike : mg "_law_alike" = some (.ref (He.ga K "_law_alike"))
  F__law_alike : ∃ fd, Fun K "_law_alike" "_law_alike" s__law_alike (He.ga K "_law_alike") fd
  m__law_size_by : mg "_law_size_by" = some (.ref (He.ga K "_law_size_by"))
  F__law_size_by : ∃ fd, Fun K "_law_size_by" "_law_size_by" s__law_size_by (He.ga K "_law_size_by") fd
  m__law_reach_by : mg "_law_reach_by" = some (.ref (He.ga K "_law_reach_by"))
  F__law_reach_by : ∃ fd, Fun K "_law_reach_by" "_law_reach_by" s__law_reach_by (He.ga K "_law_reach_by") fd
  m__law_ahead : mg "_law_ahead" = some (.ref (He.ga K "_law_ahead"))
  F__law_ahead : ∃ fd, Fun K "_law_ahead" "_law_ahead" s__law_ahead (He.ga K "_law_ahead") fd
  m__law_behind : mg "_law_behind" = some (.ref (He.ga K "_law_behind"))
  F__law_behind : ∃ fd, Fun K "_law_behind" "_law_behind" s__law_behind (He.ga K "_law_behind") fd
  m_law : mg "law" = some (.ref (He.ga K "law"))
  F_law : ∃ fd, Fun K "law" "law" s_law (He.ga K "law") fd
/-! the reckoning of values by itself -/
local macro_rules | `(tactic| walk_at "rv") => `(tactic| first
  | with_reducible exact rv_I0
  | ((with_reducible apply rv_I); first | (show (0 : Int) < _; decide) | exact Or.inr ⟨by decide, by decide⟩ | exact Or.inl ⟨by decide, by decide⟩ | exact ⟨by decide, by decide⟩ | assumption)
  | with_reducible exact rv_eqI
  | with_reducible exact rv_neI
  | with_reducible exact rv_eqS)
local macro_rules | `(tactic| walk_at "ea") => `(tactic| first
  | with_reducible exact ea_nil
  | ((with_reducible apply ea_cons); (walk_at "ev"); (walk_at "ea")))
local macro_rules | `(tactic| walk_at "ev") => `(tactic| first
  | with_reducible exact ev_str
  | with_reducible exact ev_c
  | ((with_reducible apply ev_var); rfl)
  | ((with_reducible apply ev_op); (walk_at "ev"); (walk_at "ev"); (walk_at "rv"))
  | ((with_reducible apply ev_call); (walk_at "ea"); (walk_at "sv"))
  | ((with_reducible apply ev_andV); (walk_at "ev"); (intro _; walk_at "ev"))
  | ((with_reducible apply ev_orV); (walk_at "ev"); (intro _; walk_at "ev"))
  | ((with_reducible apply ev_notV); (walk_at "ev"))
  | ((with_reducible apply ev_ord); (walk_at "ev"))
  | ((with_reducible apply ev_lenS); (walk_at "ev"); (first | omega | assumption))
  | ((with_reducible apply ev_min); (walk_at "ev"); (walk_at "ev"))
  | ((with_reducible apply ev_max); (walk_at "ev"); (walk_at "ev"))
  | ((with_reducible apply ev_intB); (walk_at "ev")))
local macro_rules | `(tactic| walk_at "et") => `(tactic| first
  | ((with_reducible apply et_test); walk_at "ev")
  | ((with_reducible apply et_B); walk_at "ev")
  | ((with_reducible apply et_not); walk_at "et"))
/-! the slots written out, n of them -/
local macro_rules | `(tactic| walk_at "n2") => `(tactic| refine at_ (σ' := [_, _]) rfl ?_)
local macro_rules | `(tactic| walk_at "n3") => `(tactic| refine at_ (σ' := [_, _, _]) rfl ?_)
local macro_rules | `(tactic| walk_at "n4") => `(tactic| refine at_ (σ' := [_, _, _, _]) rfl ?_)
local macro_rules | `(tactic| walk_at "n5") => `(tactic| refine at_ (σ' := [_, _, _, _, _]) rfl ?_)
local macro_rules | `(tactic| walk_at "n6") => `(tactic| refine at_ (σ' := [_, _, _, _, _, _]) rfl ?_)
local macro_rules | `(tactic| walk_at "n7") => `(tactic| refine at_ (σ' := [_, _, _, _, _, _, _]) rfl ?_)
local macro_rules | `(tactic| walk_at "n8") => `(tactic| refine at_ (σ' := [_, _, _, _, _, _, _, _]) rfl ?_)
local macro_rules | `(tactic| walk_at "n9") => `(tactic| refine at_ (σ' := [_, _, _, _, _, _, _, _, _]) rfl ?_)
local macro_rules | `(tactic| walk_at "n10") => `(tactic| refine at_ (σ' := [_, _, _, _, _, _, _, _, _, _]) rfl ?_)
local macro_rules | `(tactic| walk_at "n11") => `(tactic| refine at_ (σ' := [_, _, _, _, _, _, _, _, _, _, _]) rfl ?_)
local macro_rules | `(tactic| walk_at "n12") => `(tactic| refine at_ (σ' := [_, _, _, _, _, _, _, _, _, _, _, _]) rfl ?_)
local macro_rules | `(tactic| walk_at "n13") => `(tactic| refine at_ (σ' := [_, _, _, _, _, _, _, _, _, _, _, _, _]) rfl ?_)
local macro_rules | `(tactic| walk_at "n14") => `(tactic| refine at_ (σ' := [_, _, _, _, _, _, _, _, _, _, _, _, _, _]) rfl ?_)
local macro_rules | `(tactic| walk_at "n15") => `(tactic| refine at_ (σ' := [_, _, _, _, _, _, _, _, _, _, _, _, _, _, _]) rfl ?_)
local macro_rules | `(tactic| walk_at "n16") => `(tactic| refine at_ (σ' := [_, _, _, _, _, _, _, _, _, _, _, _, _, _, _, _]) rfl ?_)
local macro_rules | `(tactic| walk_at "n17") => `(tactic| refine at_ (σ' := [_, _, _, _, _, _, _, _, _, _, _, _, _, _, _, _, _]) rfl ?_)
local macro_rules | `(tactic| walk_at "n18") => `(tactic| refine at_ (σ' := [_, _, _, _, _, _, _, _, _, _, _, _, _, _, _, _, _, _]) rfl ?_)
local macro_rules | `(tactic| walk_at "n19") => `(tactic| refine at_ (σ' := [_, _, _, _, _, _, _, _, _, _, _, _, _, _, _, _, _, _, _]) rfl ?_)
local macro_rules | `(tactic| walk_at "n20") => `(tactic| refine at_ (σ' := [_, _, _, _, _, _, _, _, _, _, _, _, _, _, _, _, _, _, _, _]) rfl ?_)
local macro_rules | `(tactic| walk_at "n21") => `(tactic| refine at_ (σ' := [_, _, _, _, _, _, _, _, _, _, _, _, _, _, _, _, _, _, _, _, _]) rfl ?_)
local macro_rules | `(tactic| walk_at "n22") => `(tactic| refine at_ (σ' := [_, _, _, _, _, _, _, _, _, _, _, _, _, _, _, _, _, _, _, _, _, _]) rfl ?_)
local macro_rules | `(tactic| walk_at "n23") => `(tactic| refine at_ (σ' := [_, _, _, _, _, _, _, _, _, _, _, _, _, _, _, _, _, _, _, _, _, _, _]) rfl ?_)

/-! the law helpers' values -/
def cellAt (ns : List Int) (k : Nat) : Int := ns.getD k 0
def sp_cell_at (K : PySem.W.Frag) : Sp := fun vs H Q _ => ∃ (a : Addr) (ns : List Int) (k : Int), vs = [.ref a, .int k] ∧ 0 ≤ k ∧ SqL K H a (ns.map V.int) ∧ RetV (.int (cellAt ns k.toNat)) H Q
theorem sv_cell_at {K : PySem.W.Frag} {H : Hp} {a : Addr} {ns : List Int} {k : Int} (hS : SqL K H a (ns.map V.int)) (h0 : 0 ≤ k) : SpV (sp_cell_at K) ([.ref a, .int k] ++ []) H (.int (cellAt ns k.toNat)) :=
  fun H1 e Q q E => ⟨a, ns, k, rfl, h0, ex_l e hS, q⟩
def sp_whole : Sp := fun vs H Q _ => ∃ (x : V) (n : String), vs = [x] ∧ TN H x n ∧ RetV (.bl (isW x)) H Q
theorem sv_whole {H : Hp} {x : V} {n : String} (h : TN H x n) : SpV sp_whole ([x] ++ []) H (.bl (isW x)) := fun H1 e Q q E => ⟨x, n, rfl, h.ex e, q⟩
def signs95 : List Nat := cd " !\"#$&'()*+,-./0123456789:;<=>?@ABCDEFGHIJKLMNOPQRSTUVWXYZ[\\]^_`" ++ cd "abcdefghijklmnopqrstuvwxyz{|}~\n"
theorem signs95_len : signs95.length = 95 := by decide +kernel
def okc (c : Nat) : Bool := c == 10 || (32 ≤ c && c ≤ 126 && c != 37)
theorem signs95_ok : signs95.all okc = true := by decide +kernel
def signBy (x : Int) : Nat := signs95.getD (x % 95).toNat 10
theorem signBy_get (x : Int) : signs95[(x % 95).toNat]? = some (signBy x) := by
  have h : (x % 95).toNat < signs95.length := by rw [signs95_len]; omega
  unfold signBy
  rw [List.getD_eq_getElem?_getD, List.getElem?_eq_getElem h]
  rfl
theorem signBy_ok (x : Int) : okc (signBy x) = true := List.all_eq_true.mp signs95_ok _ (List.mem_of_getElem? (signBy_get x))
def sp_sign_by : Sp := fun vs H Q _ => ∃ c : Int, vs = [.int c] ∧ RetV (.str (SX.S [signBy c])) H Q
theorem sv_sign_by {H : Hp} {c : Int} : SpV sp_sign_by ([.int c] ++ []) H (.str (SX.S [signBy c])) := fun H1 e Q q E => ⟨c, rfl, q⟩
def sizeBy (c : Int) : Int := if c % 8 = 7 then c / 8 % 300 else c / 8 % 60
theorem sizeBy_lo (c : Int) : 0 ≤ sizeBy c ∧ sizeBy c ≤ 299 := by
  unfold sizeBy
  split <;> omega
def sp_size_by : Sp := fun vs H Q _ => ∃ c : Int, vs = [.int c] ∧ RetV (.int (sizeBy c)) H Q
theorem sv_size_by {H : Hp} {c : Int} : SpV sp_size_by ([.int c] ++ []) H (.int (sizeBy c)) := fun H1 e Q q E => ⟨c, rfl, q⟩
def tbl4 (c : Int) : Int := ([2, 95, 95, 1] : List Int).getD (c % 4).toNat 1
theorem tbl4_pos (c : Int) : 0 < tbl4 c := by
  have h : c % 4 = 0 ∨ c % 4 = 1 ∨ c % 4 = 2 ∨ c % 4 = 3 := by omega
  unfold tbl4
  rcases h with h | h | h | h <;> rw [h] <;> decide
theorem tbl4_get (c : Int) : ([V.int 2, V.int 95, V.int 95, V.int 1] : List V)[(c % 4).toNat]? = some (V.int (tbl4 c)) := by
  have h : c % 4 = 0 ∨ c % 4 = 1 ∨ c % 4 = 2 ∨ c % 4 = 3 := by omega
  unfold tbl4
  rcases h with h | h | h | h <;> rw [h] <;> rfl
def blockBy (c n : Int) : Int := if c % 4 = 2 then (if 1 + c / 4 % 50 < n then 1 + c / 4 % 50 else n) else n
theorem blockBy_le (c : Int) {n : Int} (h : 0 ≤ n) : 0 ≤ blockBy c n ∧ blockBy c n ≤ n ∧ (blockBy c n = 0 → n = 0) := by
  unfold blockBy
  split
  · split <;> omega
  · omega
def numAt (c : Int) : Nat → Int
  | 0 => c
  | i + 1 => (numAt c i * 48271 + 11) % 2147483647
def gotAt (c : Int) (i : Nat) : List Nat := (List.range i).map fun j => signBy (65 + numAt c (j + 1) / 7 % tbl4 c)
theorem gotAt_succ (c : Int) (i : Nat) : gotAt c (i + 1) = gotAt c i ++ [signBy (65 + numAt c (i + 1) / 7 % tbl4 c)] := by
  unfold gotAt
  rw [List.range_succ, List.map_append]
  rfl
theorem gotAt_len (c : Int) (i : Nat) : (gotAt c i).length = i := by
  unfold gotAt
  rw [List.length_map, List.length_range]
theorem gotAt_ok (c : Int) (i : Nat) : ∀ x ∈ gotAt c i, okc x = true := by
  intro x hx
  obtain ⟨j, _, rfl⟩ := List.mem_map.mp hx
  exact signBy_ok _
def textBy (c n : Int) : List Nat := if blockBy c n = 0 then [] else ((List.replicate (n / blockBy c n + 1).toNat (gotAt c (blockBy c n).toNat)).flatten).take n.toNat
theorem flat_len (n : Nat) (l : List Nat) : (List.replicate n l).flatten.length = n * l.length := by
  induction n with
  | zero => simp
  | succ n ih => rw [List.replicate_succ, List.flatten_cons, List.length_append, ih, Nat.succ_mul, Nat.add_comm]
theorem textBy_len (c : Int) {n : Int} (h : 0 ≤ n) : (textBy c n).length = n.toNat := by
  obtain ⟨h1, h2, h3⟩ := blockBy_le c h
  unfold textBy
  split
  · rename_i h0
    rw [h3 h0]; rfl
  · rename_i h0
    rw [List.length_take, flat_len, gotAt_len]
    have hb : 0 < blockBy c n := by omega
    have h4 : n < (n / blockBy c n + 1) * blockBy c n := by
      have := Int.lt_ediv_add_one_mul_self n hb
      omega
    have h5 : 0 ≤ n / blockBy c n := Int.ediv_nonneg h h1
    have h6 : (((n / blockBy c n + 1).toNat * (blockBy c n).toNat : Nat) : Int) = (n / blockBy c n + 1) * blockBy c n := by
      rw [Int.natCast_mul, Int.toNat_of_nonneg (by omega), Int.toNat_of_nonneg h1]
    omega
theorem textBy_ok (c n : Int) : ∀ x ∈ textBy c n, okc x = true := by
  intro x hx
  unfold textBy at hx
  split at hx
  · cases hx
  · have h1 := List.mem_of_mem_take hx
    obtain ⟨l, hl, hx2⟩ := List.mem_flatten.mp h1
    rw [List.eq_of_mem_replicate hl] at hx2
    exact gotAt_ok _ _ x hx2
def sp_text_by : Sp := fun vs H Q _ => ∃ c n : Int, vs = [.int c, .int n] ∧ 0 ≤ n ∧ n ≤ 1000 ∧ RetV (.str (SX.S (textBy c n))) H Q
theorem sv_text_by {H : Hp} {c n : Int} (h : 0 ≤ n) (h1 : n ≤ 1000) : SpV sp_text_by ([.int c, .int n] ++ []) H (.str (SX.S (textBy c n))) := fun H1 e Q q E => ⟨c, n, rfl, h, h1, q⟩

/-! ### the law's own helpers -/
theorem sc__law_cell_at : FnScope ["_law_script", "_law_k"] ["_law_script", "_law_k"] (defScope s__law_cell_at) := ⟨rfl, rfl, rfl, by decide +kernel, rfl, by decide +kernel, by decide +kernel⟩
theorem sc__law_whole : FnScope ["_law_got"] ["_law_got"] (defScope s__law_whole) := ⟨rfl, rfl, rfl, by decide +kernel, rfl, by decide +kernel, by decide +kernel⟩
theorem sc__law_sign_by : FnScope ["_law_cell", "_law_some"] ["_law_cell"] (defScope s__law_sign_by) := ⟨rfl, rfl, rfl, by decide +kernel, rfl, by decide +kernel, by decide +kernel⟩
theorem sc__law_text_by : FnScope ["_law_cell", "_law_size", "_law_signs", "_law_block", "_law_got", "_law_number", "_law_k"] ["_law_cell", "_law_size"] (defScope s__law_text_by) := ⟨rfl, rfl, rfl, by decide +kernel, rfl, by decide +kernel, by decide +kernel⟩
section
variable {P : Program} {w : World} {K : PySem.W.Frag} {mg : Str → Option Value} {base : Heap}
theorem ok__law_cell_at (T : Txt K mg) : Def P w K mg base 1 (He.ga K "_law_cell_at") ["_law_script", "_law_k"] (sp_cell_at K) := by
  refine def_mk T.F__law_cell_at sc__law_cell_at (fun _ _ _ _ _ _ us hl => match us, hl with | [_, _], _ => rfl) (fun vs H Q E h => ?_) (fun cdv A outer s H vs Q E hr h => ?_)
  · obtain ⟨a, ns, k, rfl, _⟩ := h
    rfl
  · obtain ⟨a, ns, k, rfl, h0, hS, q⟩ := h
    refine ⟨_, pss_cons (ps_if (pt_cmpR op_lt (pv 1) (pe_callB call_len_seq (by rfl) T.b_len PySem.boot_len (pa_cons (pv 0) pa_nil)) (nomark _)) (pss_one (ps_ret (pe_ix ix_list (pv 0) (pv 1) (fun _ _ => rfl)))) pss_nil) (pss_one (ps_ret pe_int)), ?_⟩
    refine q_when (b := decide (k < (ns.length : Int))) ?_ (fun hb H1 e1 => ?_) (fun hb H1 e1 => ?_)
    · have el : (ns.map V.int).length = ns.length := List.length_map _
      rw [← el]
      exact et_test (ev_op (ev_var rfl) (ev_len (ev_var rfl) hS) rv_I0)
    · have hk : k.toNat < ns.length := by have := of_decide_eq_true hb; omega
      refine s_ret (v := .int (cellAt ns k.toNat)) (ev_op (ev_var rfl) (ev_var rfl) (rv_ixL' (ex_l e1 hS) h0 ?_)) (fun H2 e2 => q _ (e1.trans e2))
      rw [List.getElem?_map, List.getElem?_eq_getElem hk]
      unfold cellAt
      rw [List.getD_eq_getElem?_getD, List.getElem?_eq_getElem hk]
      rfl
    · have hk : ns.length ≤ k.toNat := by have := of_decide_eq_false hb; omega
      have e0 : cellAt ns k.toNat = 0 := by
        unfold cellAt
        rw [List.getD_eq_getElem?_getD, List.getElem?_eq_none_iff.mpr hk]
        rfl
      rw [e0] at q
      exact s_ret ev_c (fun H2 e2 => q _ (e1.trans e2))
theorem ok__law_whole (T : Txt K mg) : Def P w K mg base 1 (He.ga K "_law_whole") ["_law_got"] sp_whole := by
  refine def_mk T.F__law_whole sc__law_whole (fun _ _ _ _ _ _ us hl => match us, hl with | [_], _ => rfl) (fun vs H Q E h => ?_) (fun cdv A outer s H vs Q E hr h => ?_)
  · obtain ⟨x, n, rfl, _⟩ := h
    rfl
  · obtain ⟨x, n, rfl, ht, q⟩ := h
    refine ⟨_, pss_one (ps_ret (pe_and (pe_callB call_isi (by rfl) T.b_isinstance (by decide +kernel) (pa_cons (pv 0) (pa_cons (pe_bltn (v := .ty "int") (by rfl) T.b_int (by decide +kernel) rfl) pa_nil)))
      (pe_one (pe_not (pe_callB call_isi (by rfl) T.b_isinstance (by decide +kernel) (pa_cons (pv 0) (pa_cons (pe_bltn (v := .ty "bool") (by rfl) T.b_bool (by decide +kernel) rfl) pa_nil))))))), ?_⟩
    rw [← isW_and ht] at q
    exact s_ret (ev_andV (ev_isi (ev_var rfl) ht (isW_tn ht).1) fun _ => ev_notV (ev_isi (ev_var rfl) ht (isW_tn ht).2.1)) q
theorem ok__law_sign_by (T : Txt K mg) : Def P w K mg base 1 (He.ga K "_law_sign_by") ["_law_cell"] sp_sign_by := by
  refine def_mk T.F__law_sign_by sc__law_sign_by (fun _ _ _ _ _ _ us hl => match us, hl with | [_], _ => rfl) (fun vs H Q E h => ?_) (fun cdv A outer s H vs Q E hr h => ?_)
  · obtain ⟨c, rfl, _⟩ := h
    rfl
  · obtain ⟨c, rfl, q⟩ := h
    refine ⟨_, pss_cons (ps_set (i := 1) sc__law_sign_by.nd rfl (.inl rfl) pe_str) (pss_cons (ps_set (i := 1) sc__law_sign_by.nd rfl (.inl rfl) (pe_op op_add_str (pv 1) pe_str)) (pss_one (ps_ret (pe_ix ix_str (pv 1) (pe_op op_mod (pv 0) pe_int) (fun _ _ => rfl))))), ?_⟩
    refine q_asg ev_str fun H1 e1 => q_asg (ev_op (ev_var rfl) ev_str (rv_addS (by decide +kernel))) fun H2 e2 => ?_
    have hm : 0 ≤ c % 95 := Int.emod_nonneg _ (by decide)
    exact s_ret (ev_op (ev_var rfl) (ev_op (ev_var rfl) ev_c (rv_I (by show (0 : Int) < 95; decide))) (rv_ixS' (by decide +kernel) hm (signBy_get c))) fun H3 e3 => q _ (e1.trans (e2.trans e3))
theorem ok__law_text_by (T : Txt K mg) : Def P w K mg base 2 (He.ga K "_law_text_by") ["_law_cell", "_law_size"] sp_text_by := by
  refine def_mk T.F__law_text_by sc__law_text_by (fun _ _ _ _ _ _ us hl => match us, hl with | [_, _], _ => rfl) (fun vs H Q E h => ?_) (fun cdv A outer s H vs Q E hr h => ?_)
  · obtain ⟨c, n, rfl, _⟩ := h
    rfl
  · obtain ⟨c, n, rfl, h0, hn, q⟩ := h
    obtain ⟨hb1, hb2, hb3⟩ := blockBy_le c h0
    refine ⟨_, pss_cons (ps_set (i := 2) sc__law_text_by.nd rfl (.inl rfl) (pe_ix ix_list (pe_lst (pa_cons pe_int (pa_cons pe_int (pa_cons pe_int (pa_cons pe_int pa_nil))))) (pe_op op_mod (pv 0) pe_int) (fun _ _ => rfl)))
      (pss_cons (ps_set (i := 3) sc__law_text_by.nd rfl (.inl rfl) (pv 1))
      (pss_cons (ps_if (pt_cmpR op_eq (pe_op op_mod (pv 0) pe_int) pe_int (nomark _)) (pss_one (ps_set (i := 3) sc__law_text_by.nd rfl (.inl rfl) (pe_callB (call_min2 rfl) (by rfl) T.b_min (by decide +kernel) (pa_cons (pv 1) (pa_cons (pe_op op_add pe_int (pe_op op_mod (pe_op op_fdiv (pv 0) pe_int) pe_int)) pa_nil))))) pss_nil)
      (pss_cons (ps_if (pt_cmpR op_eq (pv 3) pe_int (nomark _)) (pss_one (ps_ret pe_str)) pss_nil)
      (pss_cons (ps_set (i := 4) sc__law_text_by.nd rfl (.inl rfl) pe_str)
      (pss_cons (ps_set (i := 5) sc__law_text_by.nd rfl (.inl rfl) (pv 0))
      (pss_cons (ps_for PassesOwn.never rfl (pi_range1 rfl T.b_range (pa_cons (pv 3) pa_nil)) (pg_name (i := 6) sc__law_text_by.nd rfl (.inl rfl))
        (pss_cons (ps_set (i := 5) sc__law_text_by.nd rfl (.inl rfl) (pe_op op_mod (pe_op op_add (pe_op op_mul (pv 5) pe_int) pe_int) pe_int))
        (pss_one (ps_set (i := 4) sc__law_text_by.nd rfl (.inl rfl) (pe_op op_add_str (pv 4) (pc (ok__law_sign_by T) hr T.m__law_sign_by (pa_cons (pe_op op_add pe_int (pe_op op_mod (pe_op op_fdiv (pv 5) pe_int) (pv 2))) pa_nil)))))))
      (pss_one (ps_ret (pe_slice sl_str (pe_op op_mulS (pv 4) (pe_op op_add (pe_op op_fdiv (pv 1) (pv 3)) pe_int)) po_none (po_some (pv 1))))))))))), ?_⟩
    have hm : 0 ≤ c % 4 := Int.emod_nonneg _ (by decide)
    refine q_asg (ev_pick (by walk_at "ea") (fun H1 e1 => by walk_at "ev") hm (tbl4_get c)) fun H1 e1 => q_asg (ev_var rfl) fun H2 e2 => ?_
    have e12 := e1.trans e2
    refine q_ifAsg (b := decide (c % 4 = 2)) (v := .int (blockBy c n)) (by walk_at "et") (fun hb => ?_) (fun hb => ?_) fun H3 e3 => ?_
    · unfold blockBy
      rw [if_pos (of_decide_eq_true hb)]
      with_reducible apply ev_min
      · walk_at "ev"
      · walk_at "ev"
    · unfold blockBy
      rw [if_neg (of_decide_eq_false hb)]
      rfl
    refine q_when (b := decide (blockBy c n = 0)) (by walk_at "et") (fun hb H4 e4 => ?_) (fun hb H4 e4 => ?_)
    · unfold textBy at q
      rw [if_pos (of_decide_eq_true hb)] at q
      exact s_ret (v := .str (SX.S [])) ev_str fun H5 e5 => q _ (e12.trans (e3.trans (e4.trans e5)))
    · have hb0 := of_decide_eq_false hb
      refine q_asg ev_str fun H5 e5 => q_asg (by walk_at "ev") fun H6 e6 => ?_
      have e16 := e12.trans (e3.trans (e4.trans (e5.trans e6)))
      refine q_forR1 (n := blockBy c n) (EvA.one (ev_var rfl)) ⟨hb1, by omega⟩ (fun i σ H' => ∃ v, σ = [some (.int c), some (.int n), some (.int (tbl4 c)), some (.int (blockBy c n)), some (.str (SX.S (gotAt c i))), some (.int (numAt c i)), v] ∧ Ex H H') (fun H7 e7 => ⟨none, rfl, e16.trans e7⟩) ?_ ?_
      · rintro i σ H7 hi ⟨v, rfl, e7⟩
        refine q_asg (v := .int ((numAt c i * 48271 + 11) % 2147483647)) (by walk_at "ev") fun H8 e8 => ?_
        have ht := tbl4_pos c
        refine s_asg (D := { nx := _, rt := _, bk := _, ct := _ }) (ev_op (ev_var rfl) (ev_call (EvA.one (by walk_at "ev")) sv_sign_by) (rv_addS (by rw [gotAt_len, List.length_singleton]; omega))) fun H9 e9 => ?_
        exact ⟨_, by rw [gotAt_succ]; rfl, e7.trans (e8.trans e9)⟩
      · rintro σ H7 ⟨v, rfl, e7⟩
        have hd : 0 < blockBy c n := by omega
        have hz : (gotAt c (blockBy c n).toNat).length * (n / blockBy c n + 1).toNat ≤ 4000000 := by
          rw [gotAt_len]
          have h5 : n / blockBy c n ≤ n := Int.ediv_le_self _ h0
          have h6 : (n / blockBy c n + 1).toNat ≤ 1001 := by omega
          have h7 : (blockBy c n).toNat ≤ 1000 := by omega
          have := Nat.mul_le_mul h7 h6
          omega
        have h5 : n / blockBy c n ≤ n := Int.ediv_le_self _ h0
        have h8 : 0 ≤ n / blockBy c n := Int.ediv_nonneg h0 hb1
        refine s_ret (ev_sliceS (ev_op (ev_var rfl) (ev_op (ev_op (ev_var rfl) (ev_var rfl) (rv_I ⟨hd, by omega⟩)) ev_c rv_I0) (rv_mulS (by omega) (by omega) hz)) (by rw [flat_len, Nat.mul_comm]; exact hz) eo_none (eo_some (ev_var rfl))) fun H8 e8 => ?_
        rw [cut_to h0]
        have q2 := q _ (e7.trans e8)
        unfold textBy at q2
        rw [if_neg hb0] at q2
        exact q2
end

theorem sc__law_size_by : FnScope ["_law_cell"] ["_law_cell"] (defScope s__law_size_by) := ⟨rfl, rfl, rfl, by decide +kernel, rfl, by decide +kernel, by decide +kernel⟩
section
variable {P : Program} {w : World} {K : PySem.W.Frag} {mg : Str → Option Value} {base : Heap}
theorem ok__law_size_by (T : Txt K mg) : Def P w K mg base 1 (He.ga K "_law_size_by") ["_law_cell"] sp_size_by := by
  refine def_mk T.F__law_size_by sc__law_size_by (fun _ _ _ _ _ _ us hl => match us, hl with | [_], _ => rfl) (fun vs H Q E h => ?_) (fun cdv A outer s H vs Q E hr h => ?_)
  · obtain ⟨c, rfl, _⟩ := h
    rfl
  · obtain ⟨c, rfl, q⟩ := h
    refine ⟨_, pss_cons (ps_if (pt_cmpR op_eq (pe_op op_mod (pv 0) pe_int) pe_int (nomark _)) (pss_one (ps_ret (pe_op op_mod (pe_op op_fdiv (pv 0) pe_int) pe_int))) pss_nil) (pss_one (ps_ret (pe_op op_mod (pe_op op_fdiv (pv 0) pe_int) pe_int))), ?_⟩
    refine q_when (b := decide (c % 8 = 7)) (by walk_at "et") (fun hb H1 e1 => ?_) (fun hb H1 e1 => ?_)
    · have hc := of_decide_eq_true hb
      unfold sizeBy at q
      rw [if_pos hc] at q
      exact s_ret (by walk_at "ev") fun H2 e2 => q _ (e1.trans e2)
    · have hc := of_decide_eq_false hb
      unfold sizeBy at q
      rw [if_neg hc] at q
      exact s_ret (by walk_at "ev") fun H2 e2 => q _ (e1.trans e2)

end

/-! the weight of some signs -/
def wt (l : List Nat) : Int := l.foldl (fun (n : Int) (c : Nat) => (n * 131 + (c : Int)) % 65521) 7
theorem wt_take {l : List Nat} {i c : Nat} (h : l[i]? = some c) : wt (l.take (i + 1)) = (wt (l.take i) * 131 + (c : Int)) % 65521 := by
  have e : l.take (i + 1) = l.take i ++ [c] := by
    obtain ⟨hi, rfl⟩ := List.getElem?_eq_some_iff.mp h
    exact (List.take_append_getElem hi).symm
  unfold wt
  rw [e, List.foldl_append]
  rfl
def sp_weight : Sp := fun vs H Q _ => ∃ l : List Nat, vs = [.str (SX.S l)] ∧ RetV (.int (wt l)) H Q
theorem sv_weight {H : Hp} {l : List Nat} : SpV sp_weight ([.str (SX.S l)] ++ []) H (.int (wt l)) := fun H1 e Q q E => ⟨l, rfl, q⟩

/-! where a text is cut -/
def weightsOf (l : List Nat) (w : Nat) : List Int := (List.range (l.length + 1 - w)).map fun i => wt ((l.drop i).take w)
theorem weightsOf_len (l : List Nat) (w : Nat) : (weightsOf l w).length = l.length + 1 - w := by
  unfold weightsOf
  rw [List.length_map, List.length_range]
def lowAt (row : List Int) (at_ r j : Nat) : Bool := decide (j = r) || decide (row.getD at_ 0 < row.getD (at_ - r + j) 0)
def isLow (row : List Int) (at_ r : Nat) : Bool := (List.range (2 * r + 1)).all (lowAt row at_ r)
def cutsOf (l : List Nat) (w r : Nat) : List Nat := ((List.range ((weightsOf l w).length - 2 * r)).filter fun i => isLow (weightsOf l w) (r + i) r).map fun i => w + (r + i)
/-- the pieces behind the cuts cs, from start on -/
def piecesFrom (l : List Nat) : Nat → List Nat → List (List Nat)
  | s, [] => if s < l.length then [l.drop s] else []
  | s, c :: cs => (l.drop s).take (c - s) :: piecesFrom l c cs
def piecesOf (l : List Nat) (w r : Nat) : List (List Nat) := piecesFrom l 0 (cutsOf l w r)
theorem cutsOf_mem {l : List Nat} {w r c : Nat} (h : c ∈ cutsOf l w r) : w + r ≤ c ∧ c + r ≤ l.length := by
  unfold cutsOf at h
  obtain ⟨i, hi, rfl⟩ := List.mem_map.mp h
  have h1 := List.mem_range.mp (List.mem_filter.mp hi).1
  rw [weightsOf_len] at h1
  omega
/-- numbers as values -/
def vN (cs : List Nat) : List V := cs.map fun c : Nat => V.int (c : Int)
def sp_weights : Sp := fun vs H Q _ => ∃ (l : List Nat) (w : Nat), vs = [.str (SX.S l), .int (w : Int)] ∧ l.length ≤ 10000 ∧ w ≤ 100 ∧ RetL ((weightsOf l w).map V.int) H Q
theorem sl_weights {H : Hp} {l : List Nat} {w : Nat} (hl : l.length ≤ 10000) (hw : w ≤ 100) : SpL sp_weights ([.str (SX.S l), .int (w : Int)] ++ []) H ((weightsOf l w).map V.int) := fun H1 e Q q E => ⟨l, w, rfl, hl, hw, fun p H2 hp e2 h2 => q p H2 hp e2 h2⟩
def sp_is_low (K : PySem.W.Frag) : Sp := fun vs H Q _ => ∃ (a : Addr) (row : List Int) (i r : Nat), vs = [.ref a, .int (i : Int), .int (r : Int)] ∧ SqL K H a (row.map V.int) ∧ r ≤ i ∧ i + r < row.length ∧ row.length ≤ 20000 ∧ RetV (.bl (isLow row i r)) H Q
theorem sv_is_low {K : PySem.W.Frag} {H : Hp} {a : Addr} {row : List Int} {i r : Nat} (h : SqL K H a (row.map V.int)) (h1 : r ≤ i) (h2 : i + r < row.length) (h3 : row.length ≤ 20000) : SpV (sp_is_low K) ([.ref a, .int (i : Int), .int (r : Int)] ++ []) H (.bl (isLow row i r)) := fun H1 e Q q E => ⟨a, row, i, r, rfl, ex_l e h, h1, h2, h3, q⟩
def sp_cuts : Sp := fun vs H Q _ => ∃ (l : List Nat) (w r : Nat), vs = [.str (SX.S l), .int (w : Int), .int (r : Int)] ∧ l.length ≤ 10000 ∧ w ≤ 100 ∧ r ≤ 100 ∧ RetL (vN (cutsOf l w r)) H Q
theorem sl_cuts {H : Hp} {l : List Nat} {w r : Nat} (hl : l.length ≤ 10000) (hw : w ≤ 100) (hr : r ≤ 100) : SpL sp_cuts ([.str (SX.S l), .int (w : Int), .int (r : Int)] ++ []) H (vN (cutsOf l w r)) := fun H1 e Q q E => ⟨l, w, r, rfl, hl, hw, hr, fun p H2 hp e2 h2 => q p H2 hp e2 h2⟩
theorem isLow_no {row : List Int} {i r j : Nat} (hj : j < 2 * r + 1) (h : lowAt row i r j = false) : isLow row i r = false := by
  unfold isLow
  rw [List.all_eq_false]
  exact ⟨j, List.mem_range.mpr hj, by rw [h]; decide⟩
theorem isLow_yes {row : List Int} {i r : Nat} (h : ∀ j, j < 2 * r + 1 → lowAt row i r j = true) : isLow row i r = true := List.all_eq_true.mpr fun j hj => h j (List.mem_range.mp hj)
theorem low_false {row : List Int} {i r j : Nat} (h1 : j ≠ r) (h2 : row.getD (i - r + j) 0 ≤ row.getD i 0) : lowAt row i r j = false := by
  unfold lowAt
  rw [decide_eq_false h1, decide_eq_false (by omega)]
  rfl
theorem low_true {row : List Int} {i r j : Nat} (h : j = r ∨ ¬ row.getD (i - r + j) 0 ≤ row.getD i 0) : lowAt row i r j = true := by
  unfold lowAt
  rcases h with h | h
  · rw [decide_eq_true h]
    rfl
  · rw [decide_eq_true (show row.getD i 0 < row.getD (i - r + j) 0 by omega), Bool.or_true]
theorem given_cuts (l : List Nat) (w r : Nat) (n : Int) (hn : n = ((weightsOf l w).length : Int) - (r : Int) - (r : Int)) :
    given n.toNat (fun i => isLow (weightsOf l w) (r + i) r) (fun i => V.int ((w : Int) + ((r : Int) + (i : Int)))) = vN (cutsOf l w r) := by
  have e : n.toNat = (weightsOf l w).length - 2 * r := by omega
  unfold given cutsOf vN
  rw [e, List.map_map]
  refine List.map_congr_left fun i _ => ?_
  show V.int _ = V.int ((w + (r + i) : Nat) : Int)
  rw [Int.natCast_add, Int.natCast_add]
theorem getI {row : List Int} {i : Nat} (h : i < row.length) : (row.map V.int)[i]? = some (V.int (row.getD i 0)) := by
  rw [List.getElem?_map, List.getElem?_eq_getElem h, List.getD_eq_getElem?_getD, List.getElem?_eq_getElem h]
  rfl
theorem el_wrow {σ : L2.St} {H : Hp} {ta : TA} {te : TE} {j : Nat} {vs : List Nat} {l : List Nat} {n : Nat} (ha : EvA ta σ H [.int (n : Int), .int ((l.length : Int) + 1)]) (hl : l.length ≤ 10000) (hn : n ≤ 100) (hw : ∀ x, wipe ((wipe σ vs).set j (some x)) vs = wipe σ vs)
    (he : ∀ (i : Nat) H1, Ex H H1 → Ev te ((wipe σ vs).set j (some (.int ((n : Int) + (i : Int))))) H1 (.int (wt ((l.drop i).take n)))) : EvL (tLc (iRng2 ta) (gName j) tYes te vs) σ H ((weightsOf l n).map V.int) := by
  have g := el_lcR2 (te := te) (fun _ => true) (fun i => .int (wt ((l.drop i).take n))) ha ⟨by omega, by omega, by omega, by omega⟩ hw (fun i H1 e1 hi => et_yes) (fun i H1 e1 hi _ => he i H1 e1)
  have e2 : given ((l.length : Int) + 1 - (n : Int)).toNat (fun _ => true) (fun i => V.int (wt ((l.drop i).take n))) = (weightsOf l n).map V.int := by
    rw [given_all]
    unfold weightsOf
    have e1 : ((l.length : Int) + 1 - (n : Int)).toNat = l.length + 1 - n := by omega
    rw [e1, List.map_map]
    rfl
  rw [e2] at g
  exact g
theorem cut_at {l : List Nat} {n i : Nat} : V.str (cutS (SX.S l) (some ((n : Int) + (i : Int) - (n : Int))) (some ((n : Int) + (i : Int)))) = V.str (SX.S ((l.drop i).take n)) := by
  rw [cut_mid (by omega) (by omega)]
  have e1 : ((n : Int) + (i : Int) - (n : Int)).toNat = i := by omega
  have e2 : ((n : Int) + (i : Int)).toNat - i = n := by omega
  rw [e1, e2]

/-! pieces -/
abbrev vS (p : List Nat) : V := V.str (SX.S p)
def sp_pieces : Sp := fun vs H Q _ => ∃ (l : List Nat) (w r : Nat), vs = [vS l, .int (w : Int), .int (r : Int)] ∧ l.length ≤ 10000 ∧ w ≤ 100 ∧ r ≤ 100 ∧ RetL ((piecesOf l w r).map vS) H Q
theorem sl_pieces {H : Hp} {l : List Nat} {w r : Nat} (hl : l.length ≤ 10000) (hw : w ≤ 100) (hr : r ≤ 100) : SpL sp_pieces ([vS l, .int (w : Int), .int (r : Int)] ++ []) H ((piecesOf l w r).map vS) := fun H1 e Q q E => ⟨l, w, r, rfl, hl, hw, hr, fun p H2 hp e2 h2 => q p H2 hp e2 h2⟩
theorem cut_nn {l : List Nat} {s c : Nat} : cutS (SX.S l) (some (s : Int)) (some (c : Int)) = SX.S ((l.drop s).take (c - s)) := by
  rw [cut_mid (by omega) (by omega)]
  have e1 : (s : Int).toNat = s := by omega
  have e2 : (c : Int).toNat = c := by omega
  rw [e1, e2]
theorem cutsOf_len_le (l : List Nat) (w r : Nat) : (cutsOf l w r).length ≤ l.length + 1 := by
  unfold cutsOf
  rw [List.length_map]
  have h := List.length_filter_le (fun i => isLow (weightsOf l w) (r + i) r) (List.range ((weightsOf l w).length - 2 * r))
  rw [List.length_range] at h
  have h2 := weightsOf_len l w
  omega
theorem get_vN {cs : List Nat} {i : Nat} {x : V} (h : (vN cs)[i]? = some x) : ∃ c, cs[i]? = some c ∧ x = V.int (c : Int) := by
  unfold vN at h
  rw [List.getElem?_map] at h
  cases e : cs[i]? with
  | none =>
    rw [e] at h
    cases h
  | some c =>
    rw [e] at h
    exact ⟨c, rfl, (Option.some.inj h).symm⟩
theorem len_vN (cs : List Nat) : (vN cs).length = cs.length := List.length_map _
theorem drop_get {α : Type} {xs : List α} {i : Nat} {c : α} (h : xs[i]? = some c) : xs.drop i = c :: xs.drop (i + 1) := by
  obtain ⟨hi, rfl⟩ := List.getElem?_eq_some_iff.mp h
  exact List.drop_eq_getElem_cons hi
theorem piecesFrom_len (l : List Nat) : ∀ (cs : List Nat) (s : Nat), (piecesFrom l s cs).length ≤ cs.length + 1
  | [], s => by
    unfold piecesFrom
    split <;> simp
  | c :: cs, s => by
    unfold piecesFrom
    rw [List.length_cons, List.length_cons]
    have := piecesFrom_len l cs c
    omega
theorem piecesOf_len (l : List Nat) (w r : Nat) : (piecesOf l w r).length ≤ l.length + 2 := by
  have h1 := piecesFrom_len l (cutsOf l w r) 0
  have h2 := cutsOf_len_le l w r
  unfold piecesOf
  omega

/-! plain data, and where it stands in the heap -/
inductive Dt where
  | non | tru | int (i : Int) | str (l : List Nat) | lst (ds : List Dt) | tup (ds : List Dt)
mutual
/-- the value v is the datum d -/
def Rep (H : Hp) : Dt → V → Prop
  | .non, v => v = .non
  | .tru, v => v = .bl true
  | .int i, v => v = .int i
  | .str l, v => v = .str (SX.S l)
  | .lst ds, v => ∃ a xs, v = .ref a ∧ H a = some (.lst xs) ∧ RepL H ds xs
  | .tup ds, v => ∃ a xs, v = .ref a ∧ H a = some (.tup xs) ∧ RepL H ds xs
def RepL (H : Hp) : List Dt → List V → Prop
  | [], xs => xs = []
  | d :: ds, xs => ∃ x r, xs = x :: r ∧ Rep H d x ∧ RepL H ds r
end
/-- not deeper than n, no list too long -/
def Fit : Nat → Dt → Prop
  | _, .non => True
  | _, .tru => True
  | _, .int _ => True
  | _, .str _ => True
  | 0, _ => False
  | n + 1, .lst ds => ds.length ≤ 50000 ∧ ∀ d ∈ ds, Fit n d
  | n + 1, .tup ds => ds.length ≤ 50000 ∧ ∀ d ∈ ds, Fit n d
mutual
theorem Rep.ex {H H' : Hp} (e : Ex H H') : ∀ {d : Dt} {v : V}, Rep H d v → Rep H' d v
  | .non, _, h => h
  | .tru, _, h => h
  | .int _, _, h => h
  | .str _, _, h => h
  | .lst ds, _, h => by
    unfold Rep at h ⊢
    obtain ⟨a, xs, h1, h2, h3⟩ := h
    exact ⟨a, xs, h1, e _ _ h2, RepL.ex e h3⟩
  | .tup ds, _, h => by
    unfold Rep at h ⊢
    obtain ⟨a, xs, h1, h2, h3⟩ := h
    exact ⟨a, xs, h1, e _ _ h2, RepL.ex e h3⟩
theorem RepL.ex {H H' : Hp} (e : Ex H H') : ∀ {ds : List Dt} {xs : List V}, RepL H ds xs → RepL H' ds xs
  | [], _, h => h
  | d :: ds, _, h => by
    unfold RepL at h ⊢
    obtain ⟨x, r, h1, h2, h3⟩ := h
    exact ⟨x, r, h1, Rep.ex e h2, RepL.ex e h3⟩
end
theorem RepL.len {H : Hp} : ∀ {ds : List Dt} {xs : List V}, RepL H ds xs → xs.length = ds.length
  | [], _, h => by
    unfold RepL at h
    rw [h]
    rfl
  | d :: ds, _, h => by
    unfold RepL at h
    obtain ⟨x, r, rfl, _, h3⟩ := h
    rw [List.length_cons, List.length_cons, RepL.len h3]
theorem RepL.get {H : Hp} : ∀ {ds : List Dt} {xs : List V} {i : Nat} {d : Dt}, RepL H ds xs → ds[i]? = some d → ∃ x, xs[i]? = some x ∧ Rep H d x
  | [], _, i, d, _, e => by
    rw [List.getElem?_nil] at e
    cases e
  | d :: ds, _, 0, d', h, e => by
    unfold RepL at h
    obtain ⟨x, r, rfl, h2, _⟩ := h
    rw [List.getElem?_cons_zero] at e
    cases e
    exact ⟨x, rfl, h2⟩
  | d :: ds, _, i + 1, d', h, e => by
    unfold RepL at h
    obtain ⟨x, r, rfl, _, h3⟩ := h
    rw [List.getElem?_cons_succ] at e
    obtain ⟨y, h4, h5⟩ := RepL.get h3 e
    exact ⟨y, by rw [List.getElem?_cons_succ]; exact h4, h5⟩
theorem RepL.snoc {H : Hp} {d : Dt} {x : V} : ∀ {ds : List Dt} {xs : List V}, RepL H ds xs → Rep H d x → RepL H (ds ++ [d]) (xs ++ [x])
  | [], _, h, hx => by
    unfold RepL at h
    subst h
    show RepL H [d] [x]
    unfold RepL
    exact ⟨x, [], rfl, hx, by unfold RepL; rfl⟩
  | e :: ds, _, h, hx => by
    unfold RepL at h
    obtain ⟨y, r, rfl, h2, h3⟩ := h
    show RepL H (e :: (ds ++ [d])) (y :: (r ++ [x]))
    unfold RepL
    exact ⟨y, _, rfl, h2, RepL.snoc h3 hx⟩
theorem RepL.map {α : Type} {H : Hp} (f : α → Dt) (g : α → V) (h : ∀ a, Rep H (f a) (g a)) : ∀ l : List α, RepL H (l.map f) (l.map g)
  | [] => by
    unfold RepL
    rfl
  | a :: l => by
    unfold RepL
    exact ⟨_, _, rfl, h a, RepL.map f g h l⟩
theorem RepL.maps {α : Type} {H : Hp} (f : α → Dt) (g : α → V) : ∀ l : List α, (∀ a ∈ l, Rep H (f a) (g a)) → RepL H (l.map f) (l.map g)
  | [], _ => by
    unfold RepL
    rfl
  | a :: l, h => by
    unfold RepL
    exact ⟨_, _, rfl, h a (List.mem_cons_self ..), RepL.maps f g l fun b hb => h b (List.mem_cons_of_mem _ hb)⟩
/-- the kinds -/
def Dt.kd : Dt → String
  | .non => "NoneType" | .tru => "bool" | .int _ => "int" | .str _ => "str" | .lst _ => "list" | .tup _ => "tuple"
theorem Rep.tn {H : Hp} {d : Dt} {v : V} (h : Rep H d v) : TN H v d.kd := by
  cases d with
  | non =>
    unfold Rep at h
    subst h
    exact .non
  | tru =>
    unfold Rep at h
    subst h
    exact .bl _
  | int i =>
    unfold Rep at h
    subst h
    exact .int _
  | str l =>
    unfold Rep at h
    subst h
    exact .str _
  | lst ds =>
    unfold Rep at h
    obtain ⟨a, xs, rfl, h2, _⟩ := h
    exact .lst h2
  | tup ds =>
    unfold Rep at h
    obtain ⟨a, xs, rfl, h2, _⟩ := h
    exact .tup h2
def sp_alike (n : Nat) : Sp := fun vs H Q _ => ∃ (g u : V) (d : Dt), vs = [g, u] ∧ Rep H d g ∧ Rep H d u ∧ Fit n d ∧ RetV (.bl true) H Q
theorem sv_alike {n : Nat} {H : Hp} {g u : V} {d : Dt} (h1 : Rep H d g) (h2 : Rep H d u) (h3 : Fit n d) : SpV (sp_alike n) ([g, u] ++ []) H (.bl true) := fun H1 e Q q E => ⟨g, u, d, rfl, h1.ex e, h2.ex e, h3, q⟩

/-! what is true of cuts -/
theorem low_lt {row : List Int} {i r q : Nat} (h : isLow row i r = true) (h0 : r ≤ i) (h1 : i ≤ q + r) (h2 : q ≤ i + r) (h3 : q ≠ i) : row.getD i 0 < row.getD q 0 := by
  unfold isLow at h
  have g := List.all_eq_true.mp h (q - (i - r)) (List.mem_range.mpr (by omega))
  unfold lowAt at g
  have e : i - r + (q - (i - r)) = q := by omega
  rw [e] at g
  rw [Bool.or_eq_true, decide_eq_true_eq, decide_eq_true_eq] at g
  rcases g with g | g
  · omega
  · exact g
/-- two cuts are more than a reach apart -/
theorem cuts_apart (l : List Nat) (w r : Nat) : (cutsOf l w r).Pairwise fun a b => a + r < b := by
  unfold cutsOf
  rw [List.pairwise_map]
  have hp : ((List.range ((weightsOf l w).length - 2 * r)).filter fun i => isLow (weightsOf l w) (r + i) r).Pairwise (· < ·) := List.Pairwise.filter _ List.pairwise_lt_range
  refine List.Pairwise.imp_of_mem (fun {a b} ha hb hab => ?_) hp
  have la := (List.mem_filter.mp ha).2
  have lb := (List.mem_filter.mp hb).2
  by_cases hd : b ≤ a + r
  · have g1 := low_lt la (by omega) (q := r + b) (by omega) (by omega) (by omega)
    have g2 := low_lt lb (by omega) (q := r + a) (by omega) (by omega) (by omega)
    omega
  · omega
theorem cuts_step {l : List Nat} {w r k a b : Nat} (h1 : (cutsOf l w r)[k]? = some a) (h2 : (cutsOf l w r)[k + 1]? = some b) : a + r < b := by
  obtain ⟨i1, e1⟩ := List.getElem?_eq_some_iff.mp h1
  obtain ⟨i2, e2⟩ := List.getElem?_eq_some_iff.mp h2
  have g := List.pairwise_iff_getElem.mp (cuts_apart l w r) k (k + 1) i1 i2 (Nat.lt_succ_self k)
  rw [e1, e2] at g
  exact g
def dN (cs : List Nat) : Dt := .lst (cs.map fun c : Nat => Dt.int (c : Int))
theorem rep_dN {H : Hp} {a : Addr} {cs : List Nat} (h : H a = some (.lst (vN cs))) : Rep H (dN cs) (.ref a) := by
  unfold dN Rep
  refine ⟨a, _, rfl, h, ?_⟩
  unfold vN
  exact RepL.map _ _ (fun c => by unfold Rep; rfl) cs
theorem fit_dN {cs : List Nat} {n : Nat} (h : cs.length ≤ 50000) : Fit (n + 1) (dN cs) := by
  unfold dN Fit
  refine ⟨by rw [List.length_map]; exact h, fun d hd => ?_⟩
  obtain ⟨c, _, rfl⟩ := List.mem_map.mp hd
  cases n <;> (unfold Fit; trivial)
def reachBy (c : Int) : Int := if c % 9 = 8 then 1 + c / 9 % 40 else 1 + c / 9 % 5
theorem reachBy_lo (c : Int) : 1 ≤ reachBy c ∧ reachBy c ≤ 40 := by
  unfold reachBy
  split <;> omega
def sp_reach_by : Sp := fun vs H Q _ => ∃ c : Int, vs = [.int c] ∧ RetV (.int (reachBy c)) H Q
theorem sv_reach_by {H : Hp} {c : Int} : SpV sp_reach_by ([.int c] ++ []) H (.int (reachBy c)) := fun H1 e Q q E => ⟨c, rfl, q⟩

theorem sc__law_reach_by : FnScope ["_law_cell"] ["_law_cell"] (defScope s__law_reach_by) := ⟨rfl, rfl, rfl, by decide +kernel, rfl, by decide +kernel, by decide +kernel⟩
section
variable {P : Program} {w : World} {K : PySem.W.Frag} {mg : Str → Option Value} {base : Heap}
theorem ok__law_reach_by (T : Txt K mg) : Def P w K mg base 1 (He.ga K "_law_reach_by") ["_law_cell"] sp_reach_by := by
  refine def_mk T.F__law_reach_by sc__law_reach_by (fun _ _ _ _ _ _ us hl => match us, hl with | [_], _ => rfl) (fun vs H Q E h => ?_) (fun cdv A outer s H vs Q E hr h => ?_)
  · obtain ⟨c, rfl, _⟩ := h
    rfl
  · obtain ⟨c, rfl, q⟩ := h
    refine ⟨_, (pss_cons (ps_if (pt_cmpR op_eq (pe_op op_mod (pv 0) pe_int) pe_int (nomark _)) (pss_one (ps_ret (pe_op op_add pe_int (pe_op op_mod (pe_op op_fdiv (pv 0) pe_int) pe_int)))) pss_nil) (pss_one (ps_ret (pe_op op_add pe_int (pe_op op_mod (pe_op op_fdiv (pv 0) pe_int) pe_int))))), ?_⟩
    refine q_when (b := decide (c % 9 = 8)) (by walk_at "et") (fun hb H1 e1 => ?_) (fun hb H1 e1 => ?_)
    · have hc := of_decide_eq_true hb
      unfold reachBy at q
      rw [if_pos hc] at q
      exact s_ret (by walk_at "ev") fun H2 e2 => q _ (e1.trans e2)
    · have hc := of_decide_eq_false hb
      unfold reachBy at q
      rw [if_neg hc] at q
      exact s_ret (by walk_at "ev") fun H2 e2 => q _ (e1.trans e2)
end

/-! ### weight -/
theorem sc_weight : FnScope ["signs", "number", "sign"] ["signs"] (defScope s_weight) := ⟨rfl, rfl, rfl, by decide +kernel, rfl, by decide +kernel, by decide +kernel⟩
section
variable {P : Program} {w : World} {K : PySem.W.Frag} {mg : Str → Option Value} {base : Heap}
theorem ok_weight (T : Txt K mg) : Def P w K mg base 1 (He.ga K "weight") ["signs"] sp_weight := by
  refine def_mk T.F_weight sc_weight (fun _ _ _ _ _ _ us hl => match us, hl with | [_], _ => rfl) (fun vs H Q E h => ?_) (fun cdv A outer s H vs Q E hr h => ?_)
  · obtain ⟨l, rfl, _⟩ := h
    rfl
  · obtain ⟨l, rfl, k⟩ := h
    refine ⟨_, (pss_cons (ps_set (i := 1) sc_weight.nd rfl (.inl rfl) pe_int) (pss_cons (ps_for PassesOwn.never rfl (pi_str (pv 0)) (pg_name (i := 2) sc_weight.nd rfl (.inl rfl)) (pss_one (ps_set (i := 1) sc_weight.nd rfl (.inl rfl) (pe_op op_mod (pe_op op_add (pe_op op_mul (pv 1) pe_int) (pe_callB call_ord (by rfl) T.b_ord (by decide +kernel) (pa_cons (pv 2) pa_nil))) pe_int)))) (pss_one (ps_ret (pv 1))))), ?_⟩
    refine ⟨_, rfl, _, rfl, for_it walk_str (fun i σ H' => ∃ v, σ = [some (.str (SX.S l)), some (.int (wt (l.take i))), v] ∧ Ex H H') ⟨none, rfl, Ex.refl H⟩ (fun _ _ _ _ _ => trivial) ?_ ?_⟩
    · rintro i x σ H1 H2 hi ⟨v, rfl, e⟩ ⟨rfl, c, hc, rfl⟩
      have hc' : l[i]? = some c := by simpa using hc
      refine s_asg (D := { nx := _, rt := _, bk := _, ct := _}) (v := .int ((wt (l.take i) * 131 + (c : Int)) % 65521)) (by walk_at "ev") (fun H3 e3 => ?_)
      exact ⟨_, by rw [wt_take hc']; rfl, e.trans e3⟩
    · rintro σ H1 ⟨v, rfl, e⟩
      refine ⟨_, rfl, ?_⟩
      have e2 : l.take (SX.S l).cps.size = l := List.take_of_length_le (by simp)
      rw [e2]
      exact k _ e
end

/-! ### weights, is_low, cuts -/
theorem sc_weights : FnScope ["text", "width", "place"] ["text", "width"] (defScope s_weights) := ⟨rfl, rfl, rfl, by decide +kernel, rfl, by decide +kernel, by decide +kernel⟩
theorem sc_is_low : FnScope ["row", "at", "reach", "other"] ["row", "at", "reach"] (defScope s_is_low) := ⟨rfl, rfl, rfl, by decide +kernel, rfl, by decide +kernel, by decide +kernel⟩
theorem sc_cuts : FnScope ["text", "width", "reach", "row", "at"] ["text", "width", "reach"] (defScope s_cuts) := ⟨rfl, rfl, rfl, by decide +kernel, rfl, by decide +kernel, by decide +kernel⟩
section
variable {P : Program} {w : World} {K : PySem.W.Frag} {mg : Str → Option Value} {base : Heap}
theorem ok_weights (T : Txt K mg) : Def P w K mg base 2 (He.ga K "weights") ["text", "width"] sp_weights := by
  refine def_mk T.F_weights sc_weights (fun _ _ _ _ _ _ us hl => match us, hl with | [_, _], _ => rfl) (fun vs H Q E h => ?_) (fun cdv A outer s H vs Q E hr h => ?_)
  · obtain ⟨l, n, rfl, _⟩ := h
    rfl
  · obtain ⟨l, n, rfl, hl, hn, q⟩ := h
    refine ⟨_, (pss_one (ps_ret (pe_lc (own := [("place", 2)]) (g := gName 2) rfl sc_weights.nd (pi_range2 rfl T.b_range (pa_cons (pv 1) (pa_cons (pe_op op_add (pe_callB call_len_str (by rfl) T.b_len (by decide +kernel) (pa_cons (pv 0) pa_nil)) pe_int) pa_nil))) (blkOk_by (own := [("place", 2)]) (N := ["text", "width", "place"]) (sc := defScope s_weights) (by decide +kernel)) (fun _ _ _ _ _ => pg_name (i := 2) sc_weights.nd rfl (Or.inl rfl)) (fun _ _ _ _ _ => pts_nil) (fun _ _ _ _ _ => (pc (ok_weight T) hr T.m_weight (pa_cons (pe_slice sl_str (pv 0) (po_some (pe_op op_sub (pv 2) (pv 1))) (po_some (pv 2))) pa_nil)))))), ?_⟩
    exact s_retL (el_wrow (by walk_at "ea") hl hn (fun _ => rfl) fun i H1 e1 => ev_call (EvA.one (ev_is (ev_sliceS (ev_var rfl) (by omega) (eo_some (by walk_at "ev")) (eo_some (ev_var rfl))) cut_at)) sv_weight) q
theorem ok_is_low (T : Txt K mg) : Def P w K mg base 1 (He.ga K "is_low") ["row", "at", "reach"] (sp_is_low K) := by
  refine def_mk T.F_is_low sc_is_low (fun _ _ _ _ _ _ us hl => match us, hl with | [_, _, _], _ => rfl) (fun vs H Q E h => ?_) (fun cdv A outer s H vs Q E hr h => ?_)
  · obtain ⟨a, row, i, r, rfl, _⟩ := h
    rfl
  · obtain ⟨a, row, i, r, rfl, hS, h1, h2, h3, q⟩ := h
    refine ⟨_, (pss_cons (ps_for PassesOwn.never rfl (pi_range2 rfl T.b_range (pa_cons (pe_op op_sub (pv 1) (pv 2)) (pa_cons (pe_op op_add (pe_op op_add (pv 1) (pv 2)) pe_int) pa_nil))) (pg_name (i := 3) sc_is_low.nd rfl (.inl rfl)) (pss_one (ps_if (PW.pt (pw_and (pt_cmpR op_ne (pv 3) (pv 1) (nomark _)) (pw_and1 (pt_cmpR op_le (pe_ix (kix_list (K := K) rfl) (pv 0) (pv 3) (fun _ _ => rfl)) (pe_ix (kix_list (K := K) rfl) (pv 0) (pv 1) (fun _ _ => rfl)) (nomark _))))) (pss_one (ps_ret pe_bl)) pss_nil))) (pss_one (ps_ret pe_bl))), ?_⟩
    refine q_forR2 (lo := (i : Int) - (r : Int)) (n := (i : Int) + (r : Int) + 1) (by walk_at "ea") ⟨by omega, by omega, by omega, by omega⟩ (fun j σ H' => ∃ v, σ = [some (.ref a), some (.int (i : Int)), some (.int (r : Int)), v] ∧ (∀ j', j' < j → lowAt row i r j' = true) ∧ Ex H H')
      (fun H1 e1 => ⟨none, rfl, fun j' hj => absurd hj (Nat.not_lt_zero _), e1⟩) ?_ ?_
    · rintro j σ H1 hj ⟨v, rfl, hall, e1⟩
      have hj2 : j < 2 * r + 1 := by omega
      have ej : ((i : Int) - (r : Int) + (j : Int)).toNat = i - r + j := by omega
      have g1 : (row.map V.int)[((i : Int) - (r : Int) + (j : Int)).toNat]? = some (V.int (row.getD (i - r + j) 0)) := by
        rw [ej]
        exact getI (by omega)
      have g2 : (row.map V.int)[(i : Int).toNat]? = some (V.int (row.getD i 0)) := getI (by omega)
      have hS1 := ex_l e1 hS
      refine s_when (D := { nx := _, rt := _, bk := _, ct := _ }) (b := !decide ((i : Int) - (r : Int) + (j : Int) = (i : Int)) && decide (row.getD (i - r + j) 0 ≤ row.getD i 0)) (et_and (by walk_at "et") fun _ => et_test (ev_op (ev_op (ev_var rfl) (ev_var rfl) (rv_ixL' hS1 (by omega) g1)) (ev_op (ev_var rfl) (ev_var rfl) (rv_ixL' hS1 (by omega) g2)) rv_I0)) (fun hb H2 e2 => ?_) (fun hb H2 e2 => ?_)
      · rw [Bool.and_eq_true, Bool.not_eq_true', decide_eq_false_iff_not, decide_eq_true_eq] at hb
        have e0 := isLow_no hj2 (low_false (row := row) (i := i) (r := r) (j := j) (by omega) hb.2)
        rw [e0] at q
        exact s_ret ev_c fun H3 e3 => q _ (e1.trans (e2.trans e3))
      · rw [Bool.and_eq_false_iff, Bool.not_eq_false', decide_eq_true_eq, decide_eq_false_iff_not] at hb
        refine ⟨_, rfl, fun j' hj' => ?_, e1.trans e2⟩
        by_cases ejj : j' = j
        · subst ejj
          refine low_true ?_
          rcases hb with hb | hb
          · exact .inl (by omega)
          · exact .inr hb
        · exact hall j' (by omega)
    · rintro σ H1 ⟨v, rfl, hall, e1⟩
      have e0 : isLow row i r = true := isLow_yes fun j hj => hall j (by omega)
      rw [e0] at q
      exact s_ret ev_c fun H2 e2 => q _ (e1.trans e2)
theorem ok_cuts (T : Txt K mg) : Def P w K mg base 3 (He.ga K "cuts") ["text", "width", "reach"] sp_cuts := by
  refine def_mk T.F_cuts sc_cuts (fun _ _ _ _ _ _ us hl => match us, hl with | [_, _, _], _ => rfl) (fun vs H Q E h => ?_) (fun cdv A outer s H vs Q E hr h => ?_)
  · obtain ⟨l, n, r, rfl, _⟩ := h
    rfl
  · obtain ⟨l, n, r, rfl, hl, hn, hr0, q⟩ := h
    refine ⟨_, (pss_cons (ps_set (i := 3) sc_cuts.nd rfl (.inr rfl) (pc (ok_weights T) hr T.m_weights (pa_cons (pv 0) (pa_cons (pv 1) pa_nil)))) (pss_one (ps_ret (pe_lc (own := [("at", 4)]) (g := gName 4) rfl sc_cuts.nd (pi_range2 rfl T.b_range (pa_cons (pv 2) (pa_cons (pe_op op_sub (pe_callB (kcall_len (K := K) rfl) (by rfl) T.b_len (by decide +kernel) (pa_cons (pv 3) pa_nil)) (pv 2)) pa_nil))) (blkOk_by (own := [("at", 4)]) (N := ["text", "width", "reach", "row", "at"]) (sc := defScope s_cuts) (by decide +kernel)) (fun _ _ _ _ _ => pg_name (i := 4) sc_cuts.nd rfl (Or.inl rfl)) (fun _ _ _ _ _ => pts_one (pt_val (pc (ok_is_low T) hr T.m_is_low (pa_cons (pv 3) (pa_cons (pv 4) (pa_cons (pv 2) pa_nil)))))) (fun _ _ _ _ _ => (pe_op op_add (pv 1) (pv 4))))))), ?_⟩
    have hz := weightsOf_len l n
    refine q_asgL (el_call (by walk_at "ea") (sl_weights hl hn)) fun a H1 ha e1 h1 => ?_
    have hlen : ((weightsOf l n).map V.int).length = (weightsOf l n).length := List.length_map _
    refine s_retL (el_lcR2 (lo := (r : Int)) (n := ((weightsOf l n).length : Int) - (r : Int)) (fun i => isLow (weightsOf l n) (r + i) r) (fun i => .int ((n : Int) + ((r : Int) + (i : Int)))) (ea_cons (ev_var rfl) (EvA.one (ev_op (by rw [← hlen]; exact ev_len (ev_var rfl) (sq_of h1)) (ev_var rfl) rv_I0))) ⟨by omega, by omega, by omega, by omega⟩ (fun _ => rfl) (fun i H2 e2 hi => ?_) (fun i H2 e2 hi _ => by walk_at "ev")) (fun p H2 hp e2 h2 => q p H2 (fresh_back e1 hp) (e1.trans e2) ?_)
    · have er : ((r : Int) + (i : Int)) = ((r + i : Nat) : Int) := (Int.natCast_add _ _).symm
      refine et_B (ev_call (vs := [.ref a, .int ((r + i : Nat) : Int), .int (r : Int)]) (by rw [← er]; walk_at "ea") (sv_is_low (ex_l e2 (sq_of h1)) (by omega) (by omega) (by omega)))
    · rw [h2, given_cuts l n r _ rfl]
end

/-! ### pieces -/
theorem sc_pieces : FnScope ["text", "width", "reach", "told", "start", "place"] ["text", "width", "reach"] (defScope s_pieces) := ⟨rfl, rfl, rfl, by decide +kernel, rfl, by decide +kernel, by decide +kernel⟩
section
variable {P : Program} {w : World} {K : PySem.W.Frag} {mg : Str → Option Value} {base : Heap}
theorem ok_pieces (T : Txt K mg) : Def P w K mg base 4 (He.ga K "pieces") ["text", "width", "reach"] sp_pieces := by
  refine def_mk T.F_pieces sc_pieces (fun _ _ _ _ _ _ us hl => match us, hl with | [_, _, _], _ => rfl) (fun vs H Q E h => ?_) (fun cdv A outer s H vs Q E hr h => ?_)
  · obtain ⟨l, n, r, rfl, _⟩ := h
    rfl
  · obtain ⟨l, n, r, rfl, hl, hn, hr0, q⟩ := h
    have hcl := cutsOf_len_le l n r
    refine ⟨_, (pss_cons (ps_set (i := 3) sc_pieces.nd rfl (.inl rfl) (pe_lst pa_nil)) (pss_cons (ps_set (i := 4) sc_pieces.nd rfl (.inl rfl) pe_int) (pss_cons (ps_for PassesOwn.never rfl (kpi_list (K := K) rfl (pc (ok_cuts T) hr T.m_cuts (pa_cons (pv 0) (pa_cons (pv 1) (pa_cons (pv 2) pa_nil))))) (pg_name (i := 5) sc_pieces.nd rfl (.inl rfl)) (pss_cons (ps_expr (kappend (K := K) rfl (pv 3) (pa_cons (pe_slice sl_str (pv 0) (po_some (pv 4)) (po_some (pv 5))) pa_nil))) (pss_one (ps_set (i := 4) sc_pieces.nd rfl (.inl rfl) (pv 5))))) (pss_cons (ps_if (pt_cmpR op_lt (pv 4) (pe_callB call_len_str (by rfl) T.b_len (by decide +kernel) (pa_cons (pv 0) pa_nil)) (nomark _)) (pss_one (ps_expr (kappend (K := K) rfl (pv 3) (pa_cons (pe_slice sl_str (pv 0) (po_some (pv 4)) po_none) pa_nil)))) pss_nil) (pss_one (ps_ret (pv 3))))))), ?_⟩
    refine q_asgL (el_lst ea_nil (by decide)) fun d H1 hd e1 h1 => q_asg ev_c fun H2 e2 => ?_
    refine q_forNLn (el_call (by walk_at "ea") (sl_cuts hl hn hr0)) (fun a i σ H' => ∃ (acc : List (List Nat)) (s : Nat) (v : Option V), σ = [some (vS l), some (.int (n : Int)), some (.int (r : Int)), some (.ref d), some (.int (s : Int)), v] ∧ acc ++ piecesFrom l s ((cutsOf l n r).drop i) = piecesOf l n r ∧
        acc.length = i ∧ Ex H H' ∧ H' d = some (.lst (acc.map vS)) ∧ H' a = some (.lst (vN (cutsOf l n r))) ∧ a ≠ d)
      (fun a H3 ha e3 h3 => ⟨[], 0, none, rfl, by rw [List.nil_append, List.drop_zero]; rfl, rfl, e1.trans (e2.trans e3), e3 _ _ (e2 _ _ h1), h3, fun e => by rw [e, e2 _ _ h1] at ha; cases ha⟩) (fun a i σ H' _ ⟨_, _, _, _, _, _, _, _, ha, _⟩ => sq_of ha) ?_ ?_
    · rintro a i x σ H3 hx ⟨acc, s, v, rfl, hacc, hlen, e3, hd3, ha3, nad⟩
      obtain ⟨c, hc, rfl⟩ := get_vN hx
      have hi : i < (cutsOf l n r).length := (List.getElem?_eq_some_iff.mp hc).1
      refine q_app hd3 (ev_var rfl) (ev_sliceS (ev_var rfl) (by omega) (eo_some (ev_var rfl)) (eo_some (ev_var rfl))) (by rw [List.length_map]; omega) fun H4 e4 => s_asg (D := { nx := _, rt := _, bk := _, ct := _ }) (ev_var rfl) fun H5 e5 => ?_
      refine ⟨acc ++ [(l.drop s).take (c - s)], c, _, rfl, ?_, by rw [List.length_append, List.length_singleton, hlen], ((Ex.mut (e3.trans e4) hd)).trans e5, ?_, ?_, nad⟩
      · rw [← hacc, drop_get hc, List.append_assoc]
        rfl
      · rw [e5 _ _ upd_same, List.map_append, cut_nn]
        rfl
      · refine e5 _ _ ?_
        rw [upd_ne nad]
        exact e4 _ _ ha3
    · rintro a σ H3 ⟨acc, s, v, rfl, hacc, hlen, e3, hd3, ha3, nad⟩
      rw [len_vN] at hacc
      rw [List.drop_length] at hacc
      refine q_when (b := decide ((s : Int) < (l.length : Int))) (by walk_at "et") (fun hb H4 e4 => ?_) (fun hb H4 e4 => ?_)
      · have hs : s < l.length := by have := of_decide_eq_true hb; omega
        refine s_app (D := { nx := _, rt := _ }) (e4 _ _ hd3) (ev_var rfl) (ev_sliceS (ev_var rfl) (by omega) (eo_some (ev_var rfl)) eo_none) (by rw [List.length_map, hlen, len_vN]; omega) fun H5 e5 => ?_
        refine s_ret (ev_var rfl) fun H6 e6 => q d _ hd ((Ex.mut (e3.trans (e4.trans e5)) hd).trans e6) ?_
        rw [e6 _ _ upd_same, ← hacc, cut_from (by omega)]
        unfold piecesFrom
        rw [if_pos hs, List.map_append]
        rfl
      · have hs : ¬ s < l.length := by have := of_decide_eq_false hb; omega
        refine s_ret (ev_var rfl) fun H6 e6 => q d _ hd (e3.trans (e4.trans e6)) ?_
        rw [e6 _ _ (e4 _ _ hd3), ← hacc]
        unfold piecesFrom
        rw [if_neg hs, List.append_nil]
end

/-! what evaluates to a datum -/
def EvD (te : TE) (σ : L2.St) (H : Hp) (d : Dt) : Prop := ∀ H1, Ex H H1 → ∀ Q : VK, (∀ v H2, Ex H1 H2 → Rep H2 d v → Q v H2) → te σ H1 Q
def EvAD (ta : TA) (σ : L2.St) (H : Hp) (ds : List Dt) : Prop := ∀ H1, Ex H H1 → ∀ Q : List V → Hp → Prop, (∀ vs H2, Ex H1 H2 → RepL H2 ds vs → Q vs H2) → ta σ H1 Q
section
variable {K : PySem.W.Frag} {σ : L2.St} {H H' : Hp} {ta tb te tx : TE} {t u : TT} {x y z v : V} {d : Dt} {ds : List Dt}
theorem EvD.mono (e : Ex H H') (h : EvD te σ H d) : EvD te σ H' d := fun H1 a Q q => h H1 (e.trans a) Q q
theorem evd_of (h : Ev te σ H v) (r : Rep H d v) : EvD te σ H d := fun H1 e Q q => h H1 e Q fun H2 e2 => q v H2 e2 (r.ex (e.trans e2))
theorem evd_int {i : Int} (h : Ev te σ H (.int i)) : EvD te σ H (.int i) := evd_of h (by unfold Rep; rfl)
theorem evd_str {l : List Nat} (h : Ev te σ H (.str (SX.S l))) : EvD te σ H (.str l) := evd_of h (by unfold Rep; rfl)
theorem evd_tru (h : Ev te σ H (.bl true)) : EvD te σ H .tru := evd_of h (by unfold Rep; rfl)
theorem evd_non (h : Ev te σ H .non) : EvD te σ H .non := evd_of h (by unfold Rep; rfl)
theorem evd_L {xs : List V} (h : EvL te σ H xs) (r : ∀ H1, Ex H H1 → RepL H1 ds xs) : EvD te σ H (.lst ds) := fun H1 e Q q => h H1 e Q fun p H2 _ e2 h2 => q _ H2 e2 (by
  unfold Rep
  exact ⟨p, xs, rfl, h2, r H2 (e.trans e2)⟩)
theorem evd_U {xs : List V} (h : EvU te σ H xs) (r : ∀ H1, Ex H H1 → RepL H1 ds xs) : EvD te σ H (.tup ds) := fun H1 e Q q => h H1 e Q fun p H2 _ e2 h2 => q _ H2 e2 (by
  unfold Rep
  exact ⟨p, xs, rfl, h2, r H2 (e.trans e2)⟩)
theorem ead_nil : EvAD tNil σ H [] := fun H1 _ _ q => q [] H1 (Ex.refl H1) (by unfold RepL; rfl)
theorem ead_cons {tr : TA} (h : EvD te σ H d) (hr : EvAD tr σ H ds) : EvAD (tCons te tr) σ H (d :: ds) := fun H1 e Q q => h H1 e _ fun v H2 e2 r2 => hr H2 (e.trans e2) _ fun vs H3 e3 r3 => q _ H3 (e2.trans e3) (by
  unfold RepL
  exact ⟨v, vs, rfl, r2.ex e3, r3⟩)
theorem evd_tup {ta : TA} (h : EvAD ta σ H ds) (hl : ds.length ≤ 50000) : EvD (tTup ta) σ H (.tup ds) := fun H1 e Q q => h H1 e _ fun vs H2 e2 r2 => ⟨by rw [r2.len, sizeLine_eq]; omega, fun p hp => q _ _ (e2.trans (Ex.new hp)) (by
  unfold Rep
  exact ⟨p, vs, rfl, upd_same, r2.ex (Ex.new hp)⟩)⟩
theorem evd_lst {ta : TA} (h : EvAD ta σ H ds) (hl : ds.length ≤ 50000) : EvD (tLst ta) σ H (.lst ds) := fun H1 e Q q => h H1 e _ fun vs H2 e2 r2 => ⟨by rw [r2.len, sizeLine_eq]; omega, fun p hp => q _ _ (e2.trans (Ex.new hp)) (by
  unfold Rep
  exact ⟨p, vs, rfl, upd_same, r2.ex (Ex.new hp)⟩)⟩
/-- the law's alike of the same datum twice -/
theorem ev_alike {n : Nat} {E : XK} (h1 : EvD ta σ H d) (h2 : EvD tb σ H d) (hf : Fit n d) : Ev (tCall (sp_alike n) [] E (tCons ta (tCons tb tNil))) σ H (.bl true) := fun H1 e Q q =>
  h1 H1 e _ fun v H2 e2 r2 => h2 H2 (e.trans e2) _ fun w' H3 e3 r3 => sv_alike (r2.ex e3) r3 hf H3 (Ex.refl H3) Q (fun H4 e4 => q H4 ((e2.trans e3).trans e4)) E
/-- xs + ys, a new list -/
theorem el_cat {a : Addr} {xs ys : List V} (h1 : Ev ta σ H (.ref a)) (hx : H a = some (.lst xs)) (h2 : EvL tb σ H ys) (hl : xs.length + ys.length ≤ 100000) : EvL (tOp rCat ta tb) σ H (xs ++ ys) := fun H1 e Q q =>
  h1 H1 e _ fun H2 e2 => h2 H2 (e.trans e2) _ fun p H3 hp e3 h3 => ⟨a, p, xs, ys, rfl, rfl, e3 _ _ ((e.trans e2) _ _ hx), h3, by rw [sizeLine_eq]; omega, fun d hd => q d _ (fresh_back (e2.trans e3) hd) ((e2.trans e3).trans (Ex.new hd)) upd_same⟩
theorem evd_of_L {xs : List V} (h : EvL te σ H xs) (r : ∀ p H1, H1 p = some (.lst xs) → Rep H1 d (.ref p)) : EvD te σ H d := fun H1 e Q q => h H1 e Q fun p H2 _ e2 h2 => q _ H2 e2 (r p H2 h2)
/-- both new -/
theorem el_catN {xs ys : List V} (h1 : EvL ta σ H xs) (h2 : ∀ H1, Ex H H1 → EvL tb σ H1 ys) (hl : xs.length + ys.length ≤ 100000) : EvL (tOp rCat ta tb) σ H (xs ++ ys) := fun H1 e Q q =>
  h1 H1 e _ fun a H2 _ e2 hx => h2 H2 (e.trans e2) H2 (Ex.refl _) _ fun p H3 hp e3 h3 => ⟨a, p, xs, ys, rfl, rfl, e3 _ _ hx, h3, by rw [sizeLine_eq]; omega, fun d hd => q d _ (fresh_back (e2.trans e3) hd) ((e2.trans e3).trans (Ex.new hd)) upd_same⟩
end

/-! == of data -/
mutual
def Dt.toP : Dt → PyData
  | .non => .none
  | .tru => .bool true
  | .int i => .int i
  | .str l => .str (SX.S l)
  | .lst ds => .list (toPL ds)
  | .tup ds => .tuple (toPL ds)
def toPL : List Dt → List PyData
  | [] => []
  | d :: ds => d.toP :: toPL ds
end
mutual
/-- its texts are of signs that there are -/
def Sg : Dt → Prop
  | .str l => ∀ c ∈ l, c < 1114112
  | .lst ds => SgL ds
  | .tup ds => SgL ds
  | .non => True
  | .tru => True
  | .int _ => True
def SgL : List Dt → Prop
  | [] => True
  | d :: ds => Sg d ∧ SgL ds
end
theorem sgL_all : ∀ {ds : List Dt}, (∀ d ∈ ds, Sg d) → SgL ds
  | [], _ => by
    unfold SgL
    trivial
  | d :: ds, h => by
    unfold SgL
    exact ⟨h d (List.mem_cons_self ..), sgL_all fun e he => h e (List.mem_cons_of_mem _ he)⟩
mutual
theorem can_toP : ∀ {d : Dt}, Sg d → d.toP.canLay0 = true
  | .non, _ => by unfold Dt.toP; rfl
  | .tru, _ => by unfold Dt.toP; rfl
  | .int _, _ => by unfold Dt.toP; rfl
  | .str l, h => by
    unfold Sg at h
    unfold Dt.toP
    show PyData.strOk (SX.S l) = true
    unfold PyData.strOk
    rw [← Array.all_toList]
    exact List.all_eq_true.mpr fun c hc => decide_eq_true (h c hc)
  | .lst ds, h => by
    unfold Sg at h
    unfold Dt.toP
    exact can_toPL h
  | .tup ds, h => by
    unfold Sg at h
    unfold Dt.toP
    exact can_toPL h
theorem can_toPL : ∀ {ds : List Dt}, SgL ds → PyData.canLayAll0 (toPL ds) = true
  | [], _ => by
    unfold toPL
    rfl
  | d :: ds, h => by
    unfold SgL at h
    unfold toPL
    show (d.toP.canLay0 && PyData.canLayAll0 (toPL ds)) = true
    rw [can_toP h.1, can_toPL h.2]
    rfl
end
theorem toPL_map : ∀ ds : List Dt, toPL ds = ds.map Dt.toP
  | [] => by unfold toPL; rfl
  | d :: ds => by
    unfold toPL
    rw [toPL_map ds]
    rfl
theorem depthAll_le {n : Nat} : ∀ {ds : List PyData}, (∀ d ∈ ds, d.depth ≤ n) → PyData.depthAll ds ≤ n
  | [], _ => Nat.zero_le _
  | d :: ds, h => by
    show max d.depth (PyData.depthAll ds) ≤ n
    have h1 := h d (List.mem_cons_self ..)
    have h2 := depthAll_le (ds := ds) fun e he => h e (List.mem_cons_of_mem _ he)
    omega
theorem depth_toP : ∀ {n : Nat} {d : Dt}, Fit n d → d.toP.depth ≤ n
  | _, .non, _ => by unfold Dt.toP; exact Nat.zero_le _
  | _, .tru, _ => by unfold Dt.toP; exact Nat.zero_le _
  | _, .int _, _ => by unfold Dt.toP; exact Nat.zero_le _
  | _, .str _, _ => by unfold Dt.toP; exact Nat.zero_le _
  | 0, .lst _, h => by
    unfold Fit at h
    exact h.elim
  | 0, .tup _, h => by
    unfold Fit at h
    exact h.elim
  | n + 1, .lst ds, h => by
    unfold Fit at h
    unfold Dt.toP
    show PyData.depthAll (toPL ds) + 1 ≤ n + 1
    rw [toPL_map]
    refine Nat.succ_le_succ (depthAll_le fun d hd => ?_)
    obtain ⟨e, he, rfl⟩ := List.mem_map.mp hd
    exact depth_toP (h.2 e he)
  | n + 1, .tup ds, h => by
    unfold Fit at h
    unfold Dt.toP
    show PyData.depthAll (toPL ds) + 1 ≤ n + 1
    rw [toPL_map]
    refine Nat.succ_le_succ (depthAll_le fun d hd => ?_)
    obtain ⟨e, he, rfl⟩ := List.mem_map.mp hd
    exact depth_toP (h.2 e he)
theorem shaped_toP {n : Nat} {d : Dt} (hf : Fit n d) (hs : Sg d) (hn : n ≤ 64) : SeqAt.shaped d.toP = true := by
  unfold SeqAt.shaped
  rw [can_toP hs, Bool.true_and]
  exact decide_eq_true (Nat.le_trans (depth_toP hf) hn)
mutual
theorem Rep.dp {K : PySem.W.Frag} {H : Hp} : ∀ {d : Dt} {v : V}, Rep H d v → Dp K H v d.toP
  | .non, _, h => by
    unfold Rep at h
    subst h
    unfold Dt.toP
    exact .non
  | .tru, _, h => by
    unfold Rep at h
    subst h
    unfold Dt.toP
    exact .bl _
  | .int i, _, h => by
    unfold Rep at h
    subst h
    unfold Dt.toP
    exact .int _
  | .str l, _, h => by
    unfold Rep at h
    subst h
    unfold Dt.toP
    exact .str _
  | .lst ds, _, h => by
    unfold Rep at h
    obtain ⟨a, xs, rfl, h2, h3⟩ := h
    unfold Dt.toP
    exact .lst (sq_of h2) (RepL.dp h3)
  | .tup ds, _, h => by
    unfold Rep at h
    obtain ⟨a, xs, rfl, h2, h3⟩ := h
    unfold Dt.toP
    exact .tup (st_of h2) (RepL.dp h3)
theorem RepL.dp {K : PySem.W.Frag} {H : Hp} : ∀ {ds : List Dt} {xs : List V}, RepL H ds xs → DpAll K H xs (toPL ds)
  | [], _, h => by
    unfold RepL at h
    subst h
    unfold toPL
    exact .nil
  | d :: ds, _, h => by
    unfold RepL at h
    obtain ⟨x, r, rfl, h2, h3⟩ := h
    unfold toPL
    exact .cons (Rep.dp h2) (RepL.dp h3)
end
section
variable {K : PySem.W.Frag} {σ : L2.St} {H H' : Hp} {ta tb te tx : TE} {t u : TT} {x y z v : V} {d d2 : Dt} {ds : List Dt}
theorem ev_eqD {n : Nat} (h1 : EvD ta σ H d) (h2 : EvD tb σ H d2) (f1 : Fit n d) (f2 : Fit n d2) (s1 : Sg d) (s2 : Sg d2) (hn : n ≤ 64 := by decide) : Ev (tOp (rEqD K) ta tb) σ H (.bl (PyData.eqv d.toP d2.toP)) := fun H1 e Q q =>
  h1 H1 e _ fun v H2 e2 r2 => h2 H2 (e.trans e2) _ fun w' H3 e3 r3 => ⟨d.toP, d2.toP, (r2.ex e3).dp, r3.dp, shaped_toP f1 s1 hn, shaped_toP f2 s2 hn, q H3 (e2.trans e3)⟩
theorem ev_neD {n : Nat} (h1 : EvD ta σ H d) (h2 : EvD tb σ H d2) (f1 : Fit n d) (f2 : Fit n d2) (s1 : Sg d) (s2 : Sg d2) (hn : n ≤ 64 := by decide) : Ev (tOp (rNeD K) ta tb) σ H (.bl (!PyData.eqv d.toP d2.toP)) := fun H1 e Q q =>
  h1 H1 e _ fun v H2 e2 r2 => h2 H2 (e.trans e2) _ fun w' H3 e3 r3 => ⟨d.toP, d2.toP, (r2.ex e3).dp, r3.dp, shaped_toP f1 s1 hn, shaped_toP f2 s2 hn, q H3 (e2.trans e3)⟩
theorem eqv_same (s : Sg d) : PyData.eqv d.toP d.toP = true := SeqAt.eqv_refl _ (can_toP s)
/-- ''.join(xs) -/
theorem joinL_nil : ∀ ps : List (List Nat), TL.joinL [] ps = ps.flatten
  | [] => rfl
  | [p] => by simp [TL.joinL]
  | p :: q :: r => by
    show p ++ ([] ++ TL.joinL [] (q :: r)) = _
    rw [joinL_nil (q :: r), List.nil_append]
    rfl
theorem sum_lens (ps : List (List Nat)) : (ps.map List.length).sum = ps.flatten.length := by
  rw [List.length_flatten]
theorem ev_join0 {a : Addr} {ps : List (List Nat)} (hx : Ev tx σ H (.ref a)) (hl : H a = some (.lst (ps.map vS))) (hz : ps.flatten.length ≤ 1000000) :
    Ev (tM1 (rJoin K) (tC (.str (Str.ofString ""))) tx) σ H (vS ps.flatten) := fun H1 e Q q => ⟨⟨_, rfl⟩, hx H1 e _ fun H2 e2 => ⟨Str.ofString "", a, ps.map SX.S, rfl, rfl, .inl (by
    rw [List.map_map]
    exact sq_of ((e.trans e2) _ _ hl)), by
      rw [SX.lens, sum_lens, List.length_map]
      have h0 : (Str.ofString "").length = 0 := by decide +kernel
      rw [h0]
      omega, by
      have h0 : Str.ofString "" = SX.S [] := by rw [lit]; rfl
      rw [h0, SX.join_S, joinL_nil]
      exact q H2 e2⟩⟩
/-- .. of a new list -/
theorem ev_join0N {ps : List (List Nat)} (hx : EvL tx σ H (ps.map vS)) (hz : ps.flatten.length ≤ 1000000) :
    Ev (tM1 (rJoin K) (tC (.str (Str.ofString ""))) tx) σ H (vS ps.flatten) := fun H1 e Q q => ⟨⟨_, rfl⟩, hx H1 e _ fun a H2 _ e2 h2 => ⟨Str.ofString "", a, ps.map SX.S, rfl, rfl, .inl (by
    rw [List.map_map]
    exact sq_of h2), by
      rw [SX.lens, sum_lens, List.length_map]
      have h0 : (Str.ofString "").length = 0 := by decide +kernel
      rw [h0]
      omega, by
      have h0 : Str.ofString "" = SX.S [] := by rw [lit]; rfl
      rw [h0, SX.join_S, joinL_nil]
      exact q H2 e2⟩⟩
end

/-! what is true of pieces -/
/-- s < c < .. < n -/
def Ris (n : Nat) : Nat → List Nat → Prop
  | s, [] => s < n
  | s, c :: cs => s < c ∧ Ris n c cs
theorem ris_lt {n : Nat} : ∀ {cs : List Nat} {s : Nat}, Ris n s cs → s < n
  | [], _, h => h
  | _ :: _, _, h => Nat.lt_trans h.1 (ris_lt h.2)
theorem ris_of {n : Nat} : ∀ {cs : List Nat} {s : Nat}, s < n → (∀ c ∈ cs, s < c ∧ c < n) → cs.Pairwise (· < ·) → Ris n s cs
  | [], _, h, _, _ => h
  | c :: cs, s, h, hm, hp => by
    rw [List.pairwise_cons] at hp
    have hc := hm c (List.mem_cons_self ..)
    exact ⟨hc.1, ris_of hc.2 (fun d hd => ⟨hp.1 d hd, (hm d (List.mem_cons_of_mem _ hd)).2⟩) hp.2⟩
theorem cuts_rise (l : List Nat) (w r : Nat) : (cutsOf l w r).Pairwise (· < ·) := (cuts_apart l w r).imp fun h => by omega
theorem cuts_ris {l : List Nat} {w r : Nat} (hr : 1 ≤ r) (hl : l ≠ []) : Ris l.length 0 (cutsOf l w r) :=
  ris_of (List.length_pos_iff.mpr hl) (fun c hc => by
    have := cutsOf_mem hc
    omega) (cuts_rise l w r)
theorem cuts_nil {w r : Nat} (hr : 1 ≤ r) : cutsOf [] w r = [] := by
  cases h : cutsOf [] w r with
  | nil => rfl
  | cons c cs =>
    have := cutsOf_mem (l := []) (w := w) (r := r) (c := c) (by rw [h]; exact List.mem_cons_self ..)
    simp only [List.length_nil] at this
    omega
theorem pieces_nil {w r : Nat} (hr : 1 ≤ r) : piecesOf [] w r = [] := by
  unfold piecesOf
  rw [cuts_nil hr]
  rfl
theorem from_flat (l : List Nat) : ∀ {cs : List Nat} {s : Nat}, Ris l.length s cs → (piecesFrom l s cs).flatten = l.drop s
  | [], s, h => by
    unfold piecesFrom
    rw [if_pos (show s < l.length from h)]
    simp
  | c :: cs, s, h => by
    unfold piecesFrom
    rw [List.flatten_cons, from_flat l h.2]
    have hc := h.1
    have e : l.drop c = (l.drop s).drop (c - s) := by
      rw [List.drop_drop]
      congr 1
      omega
    rw [e, List.take_append_drop]
theorem pieces_flat {l : List Nat} {w r : Nat} (hr : 1 ≤ r) : (piecesOf l w r).flatten = l := by
  by_cases hl : l = []
  · subst hl
    rw [pieces_nil hr]
    rfl
  · unfold piecesOf
    rw [from_flat l (cuts_ris hr hl)]
    rfl
theorem from_ne (l : List Nat) : ∀ {cs : List Nat} {s : Nat}, Ris l.length s cs → ∀ p ∈ piecesFrom l s cs, p ≠ []
  | [], s, h, p, hp => by
    unfold piecesFrom at hp
    rw [if_pos (show s < l.length from h)] at hp
    rw [List.mem_singleton.mp hp]
    intro e
    have := congrArg List.length e
    have h' : s < l.length := h
    rw [List.length_drop, List.length_nil] at this
    omega
  | c :: cs, s, h, p, hp => by
    unfold piecesFrom at hp
    rcases List.mem_cons.mp hp with e | hp
    · subst e
      intro e
      have h1 := congrArg List.length e
      have h2 := ris_lt h.2
      have h3 := h.1
      rw [List.length_take, List.length_drop, List.length_nil] at h1
      omega
    · exact from_ne l h.2 p hp
theorem pieces_ne {l : List Nat} {w r : Nat} (hr : 1 ≤ r) : ∀ p ∈ piecesOf l w r, p ≠ [] := by
  by_cases hl : l = []
  · subst hl
    rw [pieces_nil hr]
    intro p hp
    cases hp
  · exact from_ne l (cuts_ris hr hl)
/-- where the pieces end -/
def endsOf : Nat → List (List Nat) → List Nat
  | _, [] => []
  | t, p :: ps => (t + p.length) :: endsOf (t + p.length) ps
theorem from_ends (l : List Nat) : ∀ {cs : List Nat} {s : Nat}, Ris l.length s cs → endsOf s (piecesFrom l s cs) = cs ++ [l.length]
  | [], s, h => by
    have h' : s < l.length := h
    unfold piecesFrom
    rw [if_pos (show s < l.length from h)]
    show [s + (l.drop s).length] = [l.length]
    rw [List.length_drop]
    congr 1
    omega
  | c :: cs, s, h => by
    have h1 := h.1
    have h2 := ris_lt h.2
    unfold piecesFrom
    show (s + ((l.drop s).take (c - s)).length) :: endsOf (s + ((l.drop s).take (c - s)).length) (piecesFrom l c cs) = _
    have e : s + ((l.drop s).take (c - s)).length = c := by
      rw [List.length_take, List.length_drop]
      omega
    rw [e, from_ends l h.2]
    rfl
theorem pieces_ends {l : List Nat} {w r : Nat} (hr : 1 ≤ r) (hl : l ≠ []) : endsOf 0 (piecesOf l w r) = cutsOf l w r ++ [l.length] := from_ends l (cuts_ris hr hl)
theorem inV_vS {l : List Nat} {ps : List (List Nat)} : inV (vS l) (ps.map vS) = decide (l ∈ ps) := by
  unfold inV
  rw [List.any_map, Bool.eq_iff_iff, List.any_eq_true, decide_eq_true_eq]
  constructor
  · rintro ⟨p, hp, e⟩
    have e2 : (SX.S p == SX.S l) = true := e
    rw [SX.S_inj (eq_of_beq e2)] at hp
    exact hp
  · intro h
    refine ⟨l, h, ?_⟩
    show (SX.S l == SX.S l) = true
    exact beq_self_eq_true _
theorem flat_vS (ps : List (List Nat)) : (ps.map vS).all flatV = true := by
  rw [List.all_map]
  exact List.all_eq_true.mpr fun _ _ => rfl
theorem mem_flat_len {ps : List (List Nat)} {p : List Nat} (h : p ∈ ps) : p.length ≤ ps.flatten.length := by
  induction ps with
  | nil => cases h
  | cons a ps ih =>
    rw [List.flatten_cons, List.length_append]
    rcases List.mem_cons.mp h with e | h
    · subst e
      omega
    · have := ih h
      omega
theorem get_vS {ps : List (List Nat)} {i : Nat} {x : V} (h : (ps.map vS)[i]? = some x) : ∃ p, ps[i]? = some p ∧ x = vS p := by
  rw [List.getElem?_map] at h
  cases e : ps[i]? with
  | none =>
    rw [e] at h
    cases h
  | some p =>
    rw [e] at h
    exact ⟨p, rfl, (Option.some.inj h).symm⟩
theorem sg_dN (cs : List Nat) : Sg (dN cs) := by
  unfold dN Sg
  refine sgL_all fun d hd => ?_
  obtain ⟨c, _, rfl⟩ := List.mem_map.mp hd
  unfold Sg
  trivial

/-! a change alters few pieces -/
def wAt (l : List Nat) (w q : Nat) : Int := wt ((l.drop (q - w)).take w)
def Low (l : List Nat) (w r c : Nat) : Prop := ∀ q, c ≤ q + r → q ≤ c + r → q ≠ c → wAt l w c < wAt l w q
theorem wAt_get {l : List Nat} {w i : Nat} (h : i < (weightsOf l w).length) : (weightsOf l w).getD i 0 = wAt l w (w + i) := by
  have h2 := weightsOf_len l w
  unfold weightsOf wAt
  rw [List.getD_eq_getElem?_getD, List.getElem?_map, List.getElem?_range (by omega)]
  show wt ((l.drop i).take w) = _
  have e : w + i - w = i := by omega
  rw [e]
theorem mem_cuts {l : List Nat} {w r c : Nat} : c ∈ cutsOf l w r ↔ w + r ≤ c ∧ c + r ≤ l.length ∧ Low l w r c := by
  have hlen := weightsOf_len l w
  unfold cutsOf
  constructor
  · intro h
    obtain ⟨i, hi, rfl⟩ := List.mem_map.mp h
    obtain ⟨h1, h2⟩ := List.mem_filter.mp hi
    have h1 := List.mem_range.mp h1
    refine ⟨by omega, by omega, fun q hq1 hq2 hq3 => ?_⟩
    have g := low_lt h2 (by omega) (q := q - w) (by omega) (by omega) (by omega)
    rw [wAt_get (by omega), wAt_get (by omega)] at g
    have e : w + (q - w) = q := by omega
    rw [e] at g
    exact g
  · rintro ⟨h1, h2, h3⟩
    refine List.mem_map.mpr ⟨c - w - r, List.mem_filter.mpr ⟨List.mem_range.mpr (by omega), ?_⟩, by omega⟩
    refine isLow_yes fun j hj => low_true ?_
    by_cases e : j = r
    · exact .inl e
    · right
      have g := h3 (c - r + j) (by omega) (by omega) (by omega)
      rw [wAt_get (by omega), wAt_get (by omega)]
      have e1 : w + (r + (c - w - r)) = c := by omega
      have e2 : w + (r + (c - w - r) - r + j) = c - r + j := by omega
      rw [e1, e2]
      omega
/-! ### sorted lists -/
theorem sorted_eq : ∀ {l1 l2 : List Nat}, l1.Pairwise (· < ·) → l2.Pairwise (· < ·) → (∀ x, x ∈ l1 ↔ x ∈ l2) → l1 = l2
  | [], [], _, _, _ => rfl
  | [], b :: l2, _, _, h => by
    have := (h b).mpr (List.mem_cons_self ..)
    cases this
  | a :: l1, [], _, _, h => by
    have := (h a).mp (List.mem_cons_self ..)
    cases this
  | a :: l1, b :: l2, h1, h2, h => by
    rw [List.pairwise_cons] at h1 h2
    have ha := (h a).mp (List.mem_cons_self ..)
    have hb := (h b).mpr (List.mem_cons_self ..)
    have e : a = b := by
      rcases List.mem_cons.mp ha with e | ha
      · exact e
      · rcases List.mem_cons.mp hb with e | hb
        · exact e.symm
        · have := h2.1 a ha
          have := h1.1 b hb
          omega
    subst e
    rw [sorted_eq h1.2 h2.2 fun x => ?_]
    constructor
    · intro hx
      rcases List.mem_cons.mp ((h x).mp (List.mem_cons_of_mem _ hx)) with e | hx2
      · have := h1.1 x hx
        omega
      · exact hx2
    · intro hx
      rcases List.mem_cons.mp ((h x).mpr (List.mem_cons_of_mem _ hx)) with e | hx2
      · have := h2.1 x hx
        omega
      · exact hx2
theorem filter_split {p : Nat → Bool} : ∀ {l : List Nat}, l.Pairwise (fun a b => p b = true → p a = true) → l = l.filter p ++ l.filter (fun x => !p x)
  | [], _ => rfl
  | c :: t, h => by
    rw [List.pairwise_cons] at h
    by_cases hc : p c = true
    · rw [List.filter_cons_of_pos hc, List.filter_cons_of_neg (by rw [hc]; decide), List.cons_append]
      exact congrArg (List.cons c) (filter_split h.2)
    · have h0 : ∀ x ∈ t, ¬ p x = true := fun x hx hp => hc (h.1 x hx hp)
      have e1 : t.filter p = [] := List.filter_eq_nil_iff.mpr h0
      have e2 : t.filter (fun x => !p x) = t := List.filter_eq_self.mpr fun x hx => by
        have := h0 x hx
        cases q : p x
        · rfl
        · exact absurd q this
      rw [List.filter_cons_of_neg hc, List.filter_cons_of_pos (by cases q : p c; rfl; exact absurd q hc), e1, e2]
      rfl
theorem gap_count {r : Nat} : ∀ {l : List Nat} {lo hi : Nat}, l.Pairwise (fun a b => a + r < b) → (∀ c ∈ l, lo ≤ c ∧ c ≤ hi) → l ≠ [] → (l.length - 1) * (r + 1) + lo ≤ hi
  | [], _, _, _, _, h => absurd rfl h
  | [c], lo, hi, _, hm, _ => by
    have := hm c (List.mem_cons_self ..)
    simp only [List.length_singleton]
    omega
  | c :: d :: t, lo, hi, hp, hm, _ => by
    rw [List.pairwise_cons] at hp
    have hc := hm c (List.mem_cons_self ..)
    have g := gap_count (lo := c + r + 1) (hi := hi) hp.2 (fun x hx => ⟨by have := hp.1 x hx; omega, (hm x (List.mem_cons_of_mem _ hx)).2⟩) (List.cons_ne_nil _ _)
    simp only [List.length_cons] at g ⊢
    have e : (t.length + 1 + 1 - 1) * (r + 1) = (t.length + 1 - 1) * (r + 1) + (r + 1) := by
      have : t.length + 1 + 1 - 1 = (t.length + 1 - 1) + 1 := by omega
      rw [this, Nat.succ_mul]
    rw [e]
    omega
/-! ### cuts ahead of a change, and behind it -/
theorem wAt_ahead {A X : List Nat} {w q : Nat} (h : q ≤ A.length) (hw : w ≤ q) : wAt (A ++ X) w q = wAt A w q := by
  unfold wAt
  rw [List.drop_append_of_le_length (by omega), List.take_append_of_le_length (by rw [List.length_drop]; omega)]
theorem wAt_behind {C B : List Nat} {w q : Nat} (h : C.length + w ≤ q) : wAt (C ++ B) w q = wAt B w (q - C.length) := by
  unfold wAt
  have e : (C ++ B).drop (q - w) = B.drop (q - C.length - w) := by
    rw [List.drop_append]
    rw [List.drop_eq_nil_of_le (show C.length ≤ q - w by omega), List.nil_append]
    congr 1
    omega
  rw [e]
theorem ahead_iff {A X Y : List Nat} {w r c : Nat} (h : c + r ≤ A.length) : c ∈ cutsOf (A ++ X) w r ↔ c ∈ cutsOf (A ++ Y) w r := by
  have key : ∀ Z : List Nat, c ∈ cutsOf (A ++ Z) w r ↔ w + r ≤ c ∧ Low A w r c := fun Z => by
    rw [mem_cuts]
    constructor
    · rintro ⟨h1, _, h3⟩
      refine ⟨h1, fun q q1 q2 q3 => ?_⟩
      have g := h3 q q1 q2 q3
      rw [wAt_ahead (by omega) (by omega), wAt_ahead (by omega) (by omega)] at g
      exact g
    · rintro ⟨h1, h3⟩
      refine ⟨h1, by rw [List.length_append]; omega, fun q q1 q2 q3 => ?_⟩
      rw [wAt_ahead (by omega) (by omega), wAt_ahead (by omega) (by omega)]
      exact h3 q q1 q2 q3
  rw [key X, key Y]
theorem behind_iff {C B : List Nat} {w r c : Nat} (h : C.length + w + r ≤ c) : c ∈ cutsOf (C ++ B) w r ↔ w + r ≤ c - C.length ∧ c - C.length + r ≤ B.length ∧ Low B w r (c - C.length) := by
  rw [mem_cuts, List.length_append]
  constructor
  · rintro ⟨h1, h2, h3⟩
    refine ⟨by omega, by omega, fun q q1 q2 q3 => ?_⟩
    have g := h3 (q + C.length) (by omega) (by omega) (by omega)
    rw [wAt_behind (by omega), wAt_behind (by omega)] at g
    have e : q + C.length - C.length = q := by omega
    rw [e] at g
    exact g
  · rintro ⟨h1, h2, h3⟩
    refine ⟨by omega, by omega, fun q q1 q2 q3 => ?_⟩
    rw [wAt_behind (by omega), wAt_behind (by omega)]
    exact h3 (q - C.length) (by omega) (by omega) (by omega)
/-- the cuts that end a reach ahead of place a -/
def aheadOf (cs : List Nat) (a r : Nat) : List Nat := cs.filter fun c => decide (c + r ≤ a)
/-- those that begin a width and a reach behind place e, from there on -/
def behindOf (cs : List Nat) (e w r : Nat) : List Nat := (cs.filter fun c => decide (e + w + r ≤ c)).map fun c => c - e
theorem ahead_eq (A X Y : List Nat) (w r : Nat) : aheadOf (cutsOf (A ++ X) w r) A.length r = aheadOf (cutsOf (A ++ Y) w r) A.length r := by
  unfold aheadOf
  refine sorted_eq (List.Pairwise.filter _ (cuts_rise _ _ _)) (List.Pairwise.filter _ (cuts_rise _ _ _)) fun x => ?_
  rw [List.mem_filter, List.mem_filter, decide_eq_true_eq]
  constructor
  · rintro ⟨h1, h2⟩
    exact ⟨(ahead_iff h2).mp h1, h2⟩
  · rintro ⟨h1, h2⟩
    exact ⟨(ahead_iff h2).mp h1, h2⟩
theorem pairwise_map_sub {e : Nat} : ∀ {l : List Nat}, l.Pairwise (· < ·) → (∀ c ∈ l, e ≤ c) → (l.map fun c => c - e).Pairwise (· < ·)
  | [], _, _ => List.Pairwise.nil
  | c :: t, h, hm => by
    rw [List.pairwise_cons] at h
    rw [List.map_cons, List.pairwise_cons]
    refine ⟨fun x hx => ?_, pairwise_map_sub h.2 fun d hd => hm d (List.mem_cons_of_mem _ hd)⟩
    obtain ⟨d, hd, rfl⟩ := List.mem_map.mp hx
    have := h.1 d hd
    have := hm c (List.mem_cons_self ..)
    omega
theorem behind_eq (C D B : List Nat) (w r : Nat) : behindOf (cutsOf (C ++ B) w r) C.length w r = behindOf (cutsOf (D ++ B) w r) D.length w r := by
  have key : ∀ (C : List Nat) (x : Nat), x ∈ behindOf (cutsOf (C ++ B) w r) C.length w r ↔ w + r ≤ x ∧ x + r ≤ B.length ∧ Low B w r x := fun C x => by
    unfold behindOf
    rw [List.mem_map]
    constructor
    · rintro ⟨c, hc, rfl⟩
      rw [List.mem_filter, decide_eq_true_eq] at hc
      exact (behind_iff hc.2).mp hc.1
    · rintro h
      refine ⟨x + C.length, ?_, by omega⟩
      rw [List.mem_filter, decide_eq_true_eq]
      refine ⟨(behind_iff (by omega)).mpr ?_, by omega⟩
      have e : x + C.length - C.length = x := by omega
      rw [e]
      exact h
  have srt : ∀ C : List Nat, (behindOf (cutsOf (C ++ B) w r) C.length w r).Pairwise (· < ·) := fun C => by
    unfold behindOf
    refine pairwise_map_sub (List.Pairwise.filter _ (cuts_rise _ _ _)) fun c hc => ?_
    rw [List.mem_filter, decide_eq_true_eq] at hc
    omega
  exact sorted_eq (srt C) (srt D) fun x => by rw [key C, key D]
/-! ### pieces by the cuts' parts -/
/-- the pieces that end at the cuts cs, from s on -/
def segs (l : List Nat) : Nat → List Nat → List (List Nat)
  | _, [] => []
  | s, c :: cs => (l.drop s).take (c - s) :: segs l c cs
def lastOf : Nat → List Nat → Nat
  | s, [] => s
  | _, c :: cs => lastOf c cs
theorem segs_len (l : List Nat) : ∀ (cs : List Nat) (s : Nat), (segs l s cs).length = cs.length
  | [], _ => rfl
  | c :: cs, s => by
    unfold segs
    rw [List.length_cons, List.length_cons, segs_len l cs c]
theorem from_append (l : List Nat) : ∀ (cs ds : List Nat) (s : Nat), piecesFrom l s (cs ++ ds) = segs l s cs ++ piecesFrom l (lastOf s cs) ds
  | [], _, _ => rfl
  | c :: cs, ds, s => by
    show (l.drop s).take (c - s) :: piecesFrom l c (cs ++ ds) = ((l.drop s).take (c - s) :: segs l c cs) ++ piecesFrom l (lastOf c cs) ds
    rw [from_append l cs ds c, List.cons_append]
theorem segs_ahead {A : List Nat} (X : List Nat) : ∀ {cs : List Nat} {s : Nat}, s ≤ A.length → (∀ c ∈ cs, c ≤ A.length) → segs (A ++ X) s cs = segs A s cs
  | [], _, _, _ => rfl
  | c :: cs, s, hs, h => by
    have hc := h c (List.mem_cons_self ..)
    unfold segs
    rw [segs_ahead X hc fun d hd => h d (List.mem_cons_of_mem _ hd), List.drop_append_of_le_length hs, List.take_append_of_le_length (by rw [List.length_drop]; omega)]
theorem drop_behind {C B : List Nat} {s : Nat} (h : C.length ≤ s) : (C ++ B).drop s = B.drop (s - C.length) := by
  rw [List.drop_append, List.drop_eq_nil_of_le h, List.nil_append]
theorem from_behind {C B : List Nat} : ∀ {cs : List Nat} {s : Nat}, C.length ≤ s → (∀ c ∈ cs, C.length ≤ c) → piecesFrom (C ++ B) s cs = piecesFrom B (s - C.length) (cs.map fun c => c - C.length)
  | [], s, hs, _ => by
    show (if s < (C ++ B).length then [(C ++ B).drop s] else []) = (if s - C.length < B.length then [B.drop (s - C.length)] else [])
    rw [List.length_append, drop_behind hs]
    by_cases h : s < C.length + B.length
    · rw [if_pos h, if_pos (by omega)]
    · rw [if_neg h, if_neg (by omega)]
  | c :: cs, s, hs, h => by
    have hc := h c (List.mem_cons_self ..)
    rw [List.map_cons]
    unfold piecesFrom
    rw [from_behind hc fun d hd => h d (List.mem_cons_of_mem _ hd), drop_behind hs]
    have e : c - C.length - (s - C.length) = c - s := by omega
    rw [e]
theorem from_nil_len (l : List Nat) (s : Nat) : (piecesFrom l s []).length ≤ 1 := by
  unfold piecesFrom
  split <;> simp
/-- the cuts in three: ahead, in the middle, behind -/
theorem cuts_three {cs : List Nat} (a e w r : Nat) (hae : a ≤ e) (hw : 1 ≤ w) (hs : cs.Pairwise (· < ·)) :
    cs = aheadOf cs a r ++ (cs.filter (fun c => !decide (c + r ≤ a))).filter (fun c => !decide (e + w + r ≤ c)) ++ cs.filter (fun c => decide (e + w + r ≤ c)) := by
  have h1 : cs = aheadOf cs a r ++ cs.filter (fun c => !decide (c + r ≤ a)) := by
    refine filter_split (p := fun c => decide (c + r ≤ a)) (hs.imp fun {x y} hxy => ?_)
    rw [decide_eq_true_eq, decide_eq_true_eq]
    omega
  have hs2 : (cs.filter (fun c => !decide (c + r ≤ a))).Pairwise (· < ·) := List.Pairwise.filter _ hs
  have h2 : cs.filter (fun c => !decide (c + r ≤ a)) = (cs.filter (fun c => !decide (c + r ≤ a))).filter (fun c => !decide (e + w + r ≤ c)) ++ (cs.filter (fun c => !decide (c + r ≤ a))).filter (fun x => !(!decide (e + w + r ≤ x))) := by
    refine filter_split (p := fun c => !decide (e + w + r ≤ c)) (hs2.imp fun {x y} hxy => ?_)
    rw [Bool.not_eq_true', decide_eq_false_iff_not, Bool.not_eq_true', decide_eq_false_iff_not]
    omega
  have h3 : (cs.filter (fun c => !decide (c + r ≤ a))).filter (fun x => !(!decide (e + w + r ≤ x))) = cs.filter (fun c => decide (e + w + r ≤ c)) := by
    rw [List.filter_filter]
    refine List.filter_congr fun x _ => ?_
    by_cases hx : e + w + r ≤ x
    · rw [decide_eq_true hx, decide_eq_false (show ¬ x + r ≤ a by omega)]
      rfl
    · rw [decide_eq_false hx]
      simp
  rw [h3] at h2
  rw [List.append_assoc, ← h2]
  exact h1
def fewOf (n w r : Nat) : Nat := (n + 3 * r + w - 1) / (r + 1) + 1
/-- THE LAW of few: A N B against A O B -/
theorem few_altered {A N O B : List Nat} {w r : Nat} (hw : 1 ≤ w) (hr : 1 ≤ r) :
    ((piecesOf (A ++ N ++ B) w r).filter fun p => !decide (p ∈ piecesOf (A ++ O ++ B) w r)).length ≤ fewOf N.length w r := by
  obtain ⟨cs, hcs⟩ : ∃ cs, cs = cutsOf (A ++ N ++ B) w r := ⟨_, rfl⟩
  obtain ⟨ds, hds⟩ : ∃ ds, ds = cutsOf (A ++ O ++ B) w r := ⟨_, rfl⟩
  have e1 : aheadOf cs A.length r = aheadOf ds A.length r := by
    rw [hcs, hds, List.append_assoc, List.append_assoc]
    exact ahead_eq A _ _ w r
  have e2 : behindOf cs (A ++ N).length w r = behindOf ds (A ++ O).length w r := by
    rw [hcs, hds]
    exact behind_eq (A ++ N) (A ++ O) B w r
  have c3 := cuts_three (cs := cs) A.length (A ++ N).length w r (by rw [List.length_append]; omega) hw (by rw [hcs]; exact cuts_rise _ _ _)
  have d3 := cuts_three (cs := ds) A.length (A ++ O).length w r (by rw [List.length_append]; omega) hw (by rw [hds]; exact cuts_rise _ _ _)
  obtain ⟨cm, hcm⟩ : ∃ cm, cm = (cs.filter (fun c => !decide (c + r ≤ A.length))).filter (fun c => !decide ((A ++ N).length + w + r ≤ c)) := ⟨_, rfl⟩
  obtain ⟨dm, hdm⟩ : ∃ dm, dm = (ds.filter (fun c => !decide (c + r ≤ A.length))).filter (fun c => !decide ((A ++ O).length + w + r ≤ c)) := ⟨_, rfl⟩
  rw [← hcm] at c3
  rw [← hdm] at d3
  obtain ⟨c2, hc2⟩ : ∃ c2, c2 = cs.filter (fun c => decide ((A ++ N).length + w + r ≤ c)) := ⟨_, rfl⟩
  obtain ⟨d2, hd2⟩ : ∃ d2, d2 = ds.filter (fun c => decide ((A ++ O).length + w + r ≤ c)) := ⟨_, rfl⟩
  rw [← hc2] at c3
  rw [← hd2] at d3
  unfold behindOf at e2
  rw [← hc2, ← hd2] at e2
  rw [List.append_assoc] at c3 d3
  -- how many cuts lie in the middle
  have hcount : cm.length + 1 ≤ fewOf N.length w r := by
    have hgap : cm.Pairwise fun a b => a + r < b := by
      rw [hcm]
      exact List.Pairwise.filter _ (List.Pairwise.filter _ (by rw [hcs]; exact cuts_apart _ _ _))
    by_cases h0 : cm = []
    · rw [h0]
      unfold fewOf
      simp
    · have g := gap_count (lo := A.length + 1 - r) (hi := (A ++ N).length + w + r - 1) hgap (fun c hc => by
        rw [hcm, List.mem_filter, List.mem_filter, Bool.not_eq_true', decide_eq_false_iff_not, Bool.not_eq_true', decide_eq_false_iff_not] at hc
        omega) h0
      rw [List.length_append] at g
      have hl : 1 ≤ cm.length := List.length_pos_iff.mpr h0
      unfold fewOf
      have g2 : cm.length * (r + 1) ≤ N.length + 3 * r + w - 1 := by
        have e : cm.length * (r + 1) = (cm.length - 1) * (r + 1) + (r + 1) := by
          have : cm.length = (cm.length - 1) + 1 := by omega
          rw [this, Nat.succ_mul]
          rfl
        rw [e]
        omega
      have g3 := (Nat.le_div_iff_mul_le (show 0 < r + 1 by omega)).mpr g2
      omega
  -- the pieces, in parts
  have ha1 : ∀ c ∈ aheadOf cs A.length r, c ≤ A.length := fun c hc => by
    unfold aheadOf at hc
    rw [List.mem_filter, decide_eq_true_eq] at hc
    omega
  have hp : piecesOf (A ++ N ++ B) w r = segs A 0 (aheadOf cs A.length r) ++ (segs (A ++ N ++ B) (lastOf 0 (aheadOf cs A.length r)) cm ++ piecesFrom (A ++ N ++ B) (lastOf (lastOf 0 (aheadOf cs A.length r)) cm) c2) := by
    unfold piecesOf
    rw [← hcs]
    have e := congrArg (piecesFrom (A ++ N ++ B) 0) c3
    rw [e, from_append, from_append, List.append_assoc A N B, segs_ahead (N ++ B) (Nat.zero_le _) ha1]
  have hq : piecesOf (A ++ O ++ B) w r = segs A 0 (aheadOf ds A.length r) ++ (segs (A ++ O ++ B) (lastOf 0 (aheadOf ds A.length r)) dm ++ piecesFrom (A ++ O ++ B) (lastOf (lastOf 0 (aheadOf ds A.length r)) dm) d2) := by
    unfold piecesOf
    rw [← hds]
    have e := congrArg (piecesFrom (A ++ O ++ B) 0) d3
    rw [e, from_append, from_append, List.append_assoc A O B, segs_ahead (O ++ B) (Nat.zero_le _) (by rw [← e1]; exact ha1)]
  have keep1 : ∀ (S M R : List (List Nat)) (f : List Nat → Bool), (∀ p ∈ S, f p = false) → (∀ p ∈ R, f p = false) → ((S ++ (M ++ R)).filter f).length ≤ M.length := fun S M R f hS hR => by
    rw [List.filter_append, List.filter_append, List.filter_eq_nil_iff.mpr (fun p hp => by rw [hS p hp]; decide), List.filter_eq_nil_iff.mpr (fun p (hp : p ∈ R) => by rw [hR p hp]; decide), List.nil_append, List.append_nil]
    exact List.length_filter_le _ _
  have hS : ∀ p ∈ segs A 0 (aheadOf cs A.length r), (!decide (p ∈ piecesOf (A ++ O ++ B) w r)) = false := fun p hp2 => by
    rw [Bool.not_eq_false', decide_eq_true_eq, hq]
    rw [e1] at hp2
    exact List.mem_append_left _ hp2
  rw [hp]
  cases hc2e : c2 with
  | nil =>
    have h := keep1 (segs A 0 (aheadOf cs A.length r)) (segs (A ++ N ++ B) (lastOf 0 (aheadOf cs A.length r)) cm ++ piecesFrom (A ++ N ++ B) (lastOf (lastOf 0 (aheadOf cs A.length r)) cm) []) [] (fun p => !decide (p ∈ piecesOf (A ++ O ++ B) w r)) hS (fun p hp2 => by cases hp2)
    rw [List.append_nil, List.length_append, segs_len] at h
    have := from_nil_len (A ++ N ++ B) (lastOf (lastOf 0 (aheadOf cs A.length r)) cm)
    omega
  | cons c c2' =>
    obtain ⟨d, d2', hd2e⟩ : ∃ d d2', d2 = d :: d2' := by
      cases hd2e : d2 with
      | nil =>
        rw [hc2e, hd2e] at e2
        cases e2
      | cons d d2' => exact ⟨d, d2', rfl⟩
    rw [hc2e, hd2e, List.map_cons, List.map_cons] at e2
    injection e2 with e3 e4
    have mc : ∀ x ∈ c :: c2', (A ++ N).length ≤ x := fun x hx => by
      rw [← hc2e, hc2, List.mem_filter, decide_eq_true_eq] at hx
      omega
    have md : ∀ x ∈ d :: d2', (A ++ O).length ≤ x := fun x hx => by
      rw [← hd2e, hd2, List.mem_filter, decide_eq_true_eq] at hx
      omega
    have hR : piecesFrom (A ++ N ++ B) c c2' = piecesFrom (A ++ O ++ B) d d2' := by
      rw [from_behind (mc c (List.mem_cons_self ..)) fun x hx => mc x (List.mem_cons_of_mem _ hx), from_behind (md d (List.mem_cons_self ..)) fun x hx => md x (List.mem_cons_of_mem _ hx), e3, e4]
    have hb : ∀ s, piecesFrom (A ++ N ++ B) s (c :: c2') = ((A ++ N ++ B).drop s).take (c - s) :: piecesFrom (A ++ N ++ B) c c2' := fun s => rfl
    have hb2 : ∀ s, piecesFrom (A ++ O ++ B) s (d :: d2') = ((A ++ O ++ B).drop s).take (d - s) :: piecesFrom (A ++ O ++ B) d d2' := fun s => rfl
    rw [hb]
    have h := keep1 (segs A 0 (aheadOf cs A.length r)) (segs (A ++ N ++ B) (lastOf 0 (aheadOf cs A.length r)) cm ++ [((A ++ N ++ B).drop (lastOf (lastOf 0 (aheadOf cs A.length r)) cm)).take (c - lastOf (lastOf 0 (aheadOf cs A.length r)) cm)]) (piecesFrom (A ++ N ++ B) c c2') (fun p => !decide (p ∈ piecesOf (A ++ O ++ B) w r)) hS (fun p hp2 => by
      rw [Bool.not_eq_false', decide_eq_true_eq, hq, hd2e, hb2, ← hR]
      exact List.mem_append_right _ (List.mem_append_right _ (List.mem_cons_of_mem _ hp2)))
    rw [List.length_append, segs_len, List.length_singleton] at h
    rw [List.append_cons]
    exact Nat.le_trans h hcount

def fewI (c w r : Int) : Int := (c + 3 * r + w - 1) / (r + 1) + 1
theorem fewI_nat {n w r : Nat} (hw : 1 ≤ w) : fewI (n : Int) (w : Int) (r : Int) = (fewOf n w r : Int) := by
  unfold fewI fewOf
  have e : (n : Int) + 3 * (r : Int) + (w : Int) - 1 = ((n + 3 * r + w - 1 : Nat) : Int) := by omega
  rw [e, Int.natCast_add, Int.natCast_ediv]
  rfl
def sp_few : Sp := fun vs H Q _ => ∃ (c : Int) (w r : Nat), vs = [.int c, .int (w : Int), .int (r : Int)] ∧ r ≤ 1000 ∧ RetV (.int (fewI c (w : Int) (r : Int))) H Q
theorem sv_few {H : Hp} {c : Int} {w r : Nat} (h : r ≤ 1000) : SpV sp_few ([.int c, .int (w : Int), .int (r : Int)] ++ []) H (.int (fewI c (w : Int) (r : Int))) := fun H1 e Q q E => ⟨c, w, r, rfl, h, q⟩
def sp_ahead (K : PySem.W.Frag) : Sp := fun vs H Q _ => ∃ (a : Addr) (cs : List Nat) (s r : Nat), vs = [.ref a, .int (s : Int), .int (r : Int)] ∧ SqL K H a (vN cs) ∧ cs.length ≤ 40000 ∧ RetL (vN (aheadOf cs s r)) H Q
theorem sl_ahead {K : PySem.W.Frag} {H : Hp} {a : Addr} {cs : List Nat} {s r : Nat} (h : SqL K H a (vN cs)) (hl : cs.length ≤ 40000) : SpL (sp_ahead K) ([.ref a, .int (s : Int), .int (r : Int)] ++ []) H (vN (aheadOf cs s r)) := fun H1 e Q q E => ⟨a, cs, s, r, rfl, ex_l e h, hl, fun p H2 hp e2 h2 => q p H2 hp e2 h2⟩
def sp_behind (K : PySem.W.Frag) : Sp := fun vs H Q _ => ∃ (a : Addr) (cs : List Nat) (e w r : Nat), vs = [.ref a, .int (e : Int), .int (w : Int), .int (r : Int)] ∧ SqL K H a (vN cs) ∧ cs.length ≤ 40000 ∧ RetL (vN (behindOf cs e w r)) H Q
theorem sl_behind {K : PySem.W.Frag} {H : Hp} {a : Addr} {cs : List Nat} {e0 w r : Nat} (h : SqL K H a (vN cs)) (hl : cs.length ≤ 40000) : SpL (sp_behind K) ([.ref a, .int (e0 : Int), .int (w : Int), .int (r : Int)] ++ []) H (vN (behindOf cs e0 w r)) := fun H1 e Q q E => ⟨a, cs, e0, w, r, rfl, ex_l e h, hl, fun p H2 hp e2 h2 => q p H2 hp e2 h2⟩
/-- a text with a stretch changed -/
theorem parts_of (l : List Nat) {s e : Nat} (h : s ≤ e) : l = l.take s ++ (l.drop s).take (e - s) ++ l.drop e := by
  have h1 : l.drop e = (l.drop s).drop (e - s) := by
    rw [List.drop_drop]
    congr 1
    omega
  rw [h1, List.append_assoc, List.take_append_drop, List.take_append_drop]
theorem few_change {l N : List Nat} {s e w r : Nat} (hs : s ≤ e) (he : e ≤ l.length) (hw : 1 ≤ w) (hr : 1 ≤ r) :
    ((piecesOf (l.take s ++ N ++ l.drop e) w r).filter fun p => !decide (p ∈ piecesOf l w r)).length ≤ fewOf N.length w r ∧
    ((piecesOf l w r).filter fun p => !decide (p ∈ piecesOf (l.take s ++ N ++ l.drop e) w r)).length ≤ fewOf (e - s) w r := by
  have hp := parts_of l hs
  have ho : ((l.drop s).take (e - s)).length = e - s := by
    rw [List.length_take, List.length_drop]
    omega
  have h1 := few_altered (A := l.take s) (N := N) (O := (l.drop s).take (e - s)) (B := l.drop e) hw hr
  have h2 := few_altered (A := l.take s) (N := (l.drop s).take (e - s)) (O := N) (B := l.drop e) hw hr
  rw [← hp] at h1 h2
  rw [ho] at h2
  exact ⟨h1, h2⟩
theorem ahead_change {l N : List Nat} {s e w r : Nat} (hs : s ≤ e) (he : e ≤ l.length) : aheadOf (cutsOf l w r) s r = aheadOf (cutsOf (l.take s ++ N ++ l.drop e) w r) s r := by
  have hp := parts_of l hs
  have ha : (l.take s).length = s := by
    rw [List.length_take]
    omega
  have h := ahead_eq (l.take s) ((l.drop s).take (e - s) ++ l.drop e) (N ++ l.drop e) w r
  rw [← List.append_assoc, ← hp, ← List.append_assoc, ha] at h
  exact h
theorem behind_change {l N : List Nat} {s e w r : Nat} (hs : s ≤ e) (he : e ≤ l.length) : behindOf (cutsOf l w r) e w r = behindOf (cutsOf (l.take s ++ N ++ l.drop e) w r) (s + N.length) w r := by
  have hp := parts_of l hs
  have ha : (l.take s ++ (l.drop s).take (e - s)).length = e := by
    rw [List.length_append, List.length_take, List.length_take, List.length_drop]
    omega
  have hb : (l.take s ++ N).length = s + N.length := by
    rw [List.length_append, List.length_take]
    omega
  have h := behind_eq (l.take s ++ (l.drop s).take (e - s)) (l.take s ++ N) (l.drop e) w r
  rw [← hp, ha, hb] at h
  exact h

theorem sc_few : FnScope ["count", "width", "reach"] ["count", "width", "reach"] (defScope s_few) := ⟨rfl, rfl, rfl, by decide +kernel, rfl, by decide +kernel, by decide +kernel⟩
section
variable {P : Program} {w : World} {K : PySem.W.Frag} {mg : Str → Option Value} {base : Heap}
theorem ok_few (T : Txt K mg) : Def P w K mg base 1 (He.ga K "few") ["count", "width", "reach"] sp_few := by
  refine def_mk T.F_few sc_few (fun _ _ _ _ _ _ us hl => match us, hl with | [_, _, _], _ => rfl) (fun vs H Q E h => ?_) (fun cdv A outer s H vs Q E hr h => ?_)
  · obtain ⟨c, n, r, rfl, _⟩ := h
    rfl
  · obtain ⟨c, n, r, rfl, hr1, q⟩ := h
    refine ⟨_, (pss_one (ps_ret (pe_op op_add (pe_op op_fdiv (pe_op op_sub (pe_op op_add (pe_op op_add (pv 0) (pe_op op_mul pe_int (pv 2))) (pv 1)) pe_int) (pe_op op_add (pv 2) pe_int)) pe_int))), ?_⟩
    exact s_ret (ev_op (ev_op (by walk_at "ev") (by walk_at "ev") (rv_I ⟨by omega, by omega⟩)) ev_c rv_I0) q
end

theorem sc__law_ahead : FnScope ["_law_places", "_law_start", "_law_reach", "_law_place"] ["_law_places", "_law_start", "_law_reach"] (defScope s__law_ahead) := ⟨rfl, rfl, rfl, by decide +kernel, rfl, by decide +kernel, by decide +kernel⟩
theorem sc__law_behind : FnScope ["_law_places", "_law_end", "_law_width", "_law_reach", "_law_place"] ["_law_places", "_law_end", "_law_width", "_law_reach"] (defScope s__law_behind) := ⟨rfl, rfl, rfl, by decide +kernel, rfl, by decide +kernel, by decide +kernel⟩
section
variable {P : Program} {w : World} {K : PySem.W.Frag} {mg : Str → Option Value} {base : Heap}
theorem ok__law_ahead (T : Txt K mg) : Def P w K mg base 1 (He.ga K "_law_ahead") ["_law_places", "_law_start", "_law_reach"] (sp_ahead K) := by
  refine def_mk T.F__law_ahead sc__law_ahead (fun _ _ _ _ _ _ us hl => match us, hl with | [_, _, _], _ => rfl) (fun vs H Q E h => ?_) (fun cdv A outer s H vs Q E hr h => ?_)
  · obtain ⟨a, cs, n, r, rfl, _⟩ := h
    rfl
  · obtain ⟨a, cs, n, r, rfl, hx, hl, q⟩ := h
    refine ⟨_, (pss_one (ps_ret (pe_lc (own := [("_law_place", 3)]) (g := gName 3) rfl sc__law_ahead.nd (kpi_list (K := K) rfl (pv 0)) (blkOk_by (own := [("_law_place", 3)]) (N := ["_law_places", "_law_start", "_law_reach", "_law_place"]) (sc := defScope s__law_ahead) (by decide +kernel)) (fun _ _ _ _ _ => pg_name (i := 3) sc__law_ahead.nd rfl (Or.inl rfl)) (fun _ _ _ _ _ => pts_one (pt_cmpR op_le (pe_op op_add (pv 3) (pv 2)) (pv 1) (nomark _))) (fun _ _ _ _ _ => (pv 3))))), ?_⟩
    refine s_retL (el_lcF (l := cs) (gv := fun c : Nat => V.int (c : Int)) (fun c => decide (c + r ≤ n)) (fun c : Nat => V.int (c : Int)) (ev_var rfl) hx hl (fun _ => rfl) (fun c H1 _ _ => et_is (by walk_at "et") (decide_eq_decide.mpr (by omega))) (fun c H1 _ _ _ => ev_var rfl)) q
theorem ok__law_behind (T : Txt K mg) : Def P w K mg base 1 (He.ga K "_law_behind") ["_law_places", "_law_end", "_law_width", "_law_reach"] (sp_behind K) := by
  refine def_mk T.F__law_behind sc__law_behind (fun _ _ _ _ _ _ us hl => match us, hl with | [_, _, _, _], _ => rfl) (fun vs H Q E h => ?_) (fun cdv A outer s H vs Q E hr h => ?_)
  · obtain ⟨a, cs, e, n, r, rfl, _⟩ := h
    rfl
  · obtain ⟨a, cs, e, n, r, rfl, hx, hl, q⟩ := h
    refine ⟨_, (pss_one (ps_ret (pe_lc (own := [("_law_place", 4)]) (g := gName 4) rfl sc__law_behind.nd (kpi_list (K := K) rfl (pv 0)) (blkOk_by (own := [("_law_place", 4)]) (N := ["_law_places", "_law_end", "_law_width", "_law_reach", "_law_place"]) (sc := defScope s__law_behind) (by decide +kernel)) (fun _ _ _ _ _ => pg_name (i := 4) sc__law_behind.nd rfl (Or.inl rfl)) (fun _ _ _ _ _ => pts_one (pt_cmpR op_ge (pe_op op_sub (pe_op op_sub (pv 4) (pv 3)) (pv 2)) (pv 1) (nomark _))) (fun _ _ _ _ _ => (pe_op op_sub (pv 4) (pv 1)))))), ?_⟩
    have hb : (cs.filter fun c => decide (e + n + r ≤ c)).map (fun c : Nat => V.int ((c : Int) - (e : Int))) = vN (behindOf cs e n r) := by
      unfold vN behindOf
      rw [List.map_map]
      refine List.map_congr_left fun c hc => ?_
      rw [List.mem_filter, decide_eq_true_eq] at hc
      show V.int _ = V.int ((c - e : Nat) : Int)
      congr 1
      omega
    rw [← hb] at q
    refine s_retL (el_lcF (l := cs) (gv := fun c : Nat => V.int (c : Int)) (fun c => decide (e + n + r ≤ c)) (fun c : Nat => V.int ((c : Int) - (e : Int))) (ev_var rfl) hx hl (fun _ => rfl) (fun c H1 _ _ => et_is (by walk_at "et") (decide_eq_decide.mpr (by omega))) (fun c H1 _ _ _ => by walk_at "ev")) q
end

/-! a place drawn -/
def startBy (c n : Int) : Int := if c % 3 = 2 then (if c / 3 % 2 = 0 then 0 else n) else c / 3 % (n + 1)
theorem startBy_lo {c n : Int} (h : 0 ≤ n) : 0 ≤ startBy c n ∧ startBy c n ≤ n := by
  unfold startBy
  have h1 := Int.emod_nonneg (c / 3) (show n + 1 ≠ 0 by omega)
  have h2 := Int.emod_lt_of_pos (c / 3) (show 0 < n + 1 by omega)
  split
  · split <;> omega
  · omega
theorem startBy_pick {c n : Int} (h : c % 3 = 2) : ([V.int 0, V.int n] : List V)[(c / 3 % 2).toNat]? = some (V.int (startBy c n)) := by
  unfold startBy
  rw [if_pos h]
  have h2 : c / 3 % 2 = 0 ∨ c / 3 % 2 = 1 := by omega
  rcases h2 with h2 | h2
  · rw [h2]
    rfl
  · rw [h2]
    rfl

/-! ### the law -/
theorem sc_law : FnScope ["_law_script", "_law_old", "_law_width", "_law_reach", "_law_start", "_law_end", "_law_new", "_law_text", "_law_most", "_law_count", "_law_ones", "_law_others", "_law_one", "_law_other", "_law_piece"] ["_law_script"] (defScope s_law) := ⟨rfl, rfl, rfl, by decide +kernel, rfl, by decide +kernel, by decide +kernel⟩
local macro_rules | `(tactic| walk_at "sv") => `(tactic| first
  | exact sv_cell_at (by assumption) (by omega)
  | with_reducible exact sv_size_by
  | with_reducible exact sv_reach_by)
section
variable {P : Program} {w : World} {K : PySem.W.Frag} {mg : Str → Option Value} {base : Heap}
def sp_law (K : PySem.W.Frag) : Sp := fun vs H Q _ => ∃ (a : Addr) (ns : List Int), vs = [.ref a] ∧ SqL K H a (ns.map V.int) ∧ ns.length ≤ 63 ∧ RetV (.bl true) H Q
theorem ok_law (T : Txt K mg) : Def P w K mg base 7 (He.ga K "law") ["_law_script"] (sp_law K) := by
  refine def_mk T.F_law sc_law (fun _ _ _ _ _ _ us hl => match us, hl with | [_], _ => rfl) (fun vs H Q E h => ?_) (fun cdv A outer s H vs Q E hr h => ?_)
  · obtain ⟨a, ns, rfl, _⟩ := h
    rfl
  · obtain ⟨a, ns, rfl, hS, hlen, q⟩ := h
    refine ⟨_, (pss_cons (ps_set (i := 1) sc_law.nd rfl (.inl rfl) (pc (ok__law_text_by T) hr T.m__law_text_by (pa_cons (pc (ok__law_cell_at T) hr T.m__law_cell_at (pa_cons (pv 0) (pa_cons pe_int pa_nil))) (pa_cons (pc (ok__law_size_by T) hr T.m__law_size_by (pa_cons (pc (ok__law_cell_at T) hr T.m__law_cell_at (pa_cons (pv 0) (pa_cons pe_int pa_nil))) pa_nil)) pa_nil)))) (pss_cons (ps_set (i := 2) sc_law.nd rfl (.inl rfl) (pe_op op_add pe_int (pe_op op_mod (pc (ok__law_cell_at T) hr T.m__law_cell_at (pa_cons (pv 0) (pa_cons pe_int pa_nil))) pe_int))) (pss_cons (ps_set (i := 3) sc_law.nd rfl (.inl rfl) (pc (ok__law_reach_by T) hr T.m__law_reach_by (pa_cons (pc (ok__law_cell_at T) hr T.m__law_cell_at (pa_cons (pv 0) (pa_cons pe_int pa_nil))) pa_nil))) (pss_cons (ps_set (i := 4) sc_law.nd rfl (.inl rfl) (pe_op op_mod (pe_op op_fdiv (pc (ok__law_cell_at T) hr T.m__law_cell_at (pa_cons (pv 0) (pa_cons pe_int pa_nil))) pe_int) (pe_op op_add (pe_callB call_len_str (by rfl) T.b_len (by decide +kernel) (pa_cons (pv 1) pa_nil)) pe_int))) (pss_cons (ps_if (pt_cmpR op_eq (pe_op op_mod (pc (ok__law_cell_at T) hr T.m__law_cell_at (pa_cons (pv 0) (pa_cons pe_int pa_nil))) pe_int) pe_int (nomark _)) (pss_one (ps_set (i := 4) sc_law.nd rfl (.inl rfl) (pe_ix (kix_list (K := K) rfl) (pe_lst (pa_cons pe_int (pa_cons (pe_callB call_len_str (by rfl) T.b_len (by decide +kernel) (pa_cons (pv 1) pa_nil)) pa_nil))) (pe_op op_mod (pe_op op_fdiv (pc (ok__law_cell_at T) hr T.m__law_cell_at (pa_cons (pv 0) (pa_cons pe_int pa_nil))) pe_int) pe_int) (fun _ _ => rfl)))) pss_nil) (pss_cons (ps_set (i := 5) sc_law.nd rfl (.inl rfl) (pe_op op_add (pv 4) (pe_op op_mod (pc (ok__law_cell_at T) hr T.m__law_cell_at (pa_cons (pv 0) (pa_cons pe_int pa_nil))) (pe_op op_add (pe_op op_sub (pe_callB call_len_str (by rfl) T.b_len (by decide +kernel) (pa_cons (pv 1) pa_nil)) (pv 4)) pe_int)))) (pss_cons (ps_set (i := 6) sc_law.nd rfl (.inl rfl) (pc (ok__law_text_by T) hr T.m__law_text_by (pa_cons (pc (ok__law_cell_at T) hr T.m__law_cell_at (pa_cons (pv 0) (pa_cons pe_int pa_nil))) (pa_cons (pe_op op_mod (pc (ok__law_cell_at T) hr T.m__law_cell_at (pa_cons (pv 0) (pa_cons pe_int pa_nil))) pe_int) pa_nil)))) (pss_cons (ps_set (i := 7) sc_law.nd rfl (.inl rfl) (pe_op op_add_str (pe_op op_add_str (pe_slice sl_str (pv 1) po_none (po_some (pv 4))) (pv 6)) (pe_slice sl_str (pv 1) (po_some (pv 5)) po_none))) (pss_cons (ps_set (i := 8) sc_law.nd rfl (.inl rfl) (pc (ok_few T) hr T.m_few (pa_cons (pe_callB call_len_str (by rfl) T.b_len (by decide +kernel) (pa_cons (pv 6) pa_nil)) (pa_cons (pv 2) (pa_cons (pv 3) pa_nil))))) (pss_cons (ps_if (PW.pt (pw_or (pt_not (pt_val (pc (ok__law_whole T) hr T.m__law_whole (pa_cons (pv 8) pa_nil)))) (pw_or1 (pt_cmpR op_ne (pv 8) (pe_op op_add (pe_op op_fdiv (pe_op op_sub (pe_op op_add (pe_op op_add (pe_callB call_len_str (by rfl) T.b_len (by decide +kernel) (pa_cons (pv 6) pa_nil)) (pe_op op_mul pe_int (pv 3))) (pv 2)) pe_int) (pe_op op_add (pv 3) pe_int)) pe_int) (nomark _))))) (pss_one (ps_ret pe_bl)) pss_nil) (pss_cons (ps_set (i := 9) sc_law.nd rfl (.inl rfl) (pe_op op_mod (pc (ok__law_cell_at T) hr T.m__law_cell_at (pa_cons (pv 0) (pa_cons pe_int pa_nil))) (pe_op op_pow pe_int pe_int))) (pss_cons (ps_if (pt_cmpR op_ne (pc (ok_few T) hr T.m_few (pa_cons (pv 9) (pa_cons (pv 2) (pa_cons (pv 3) pa_nil)))) (pe_op op_add (pe_op op_fdiv (pe_op op_sub (pe_op op_add (pe_op op_add (pv 9) (pe_op op_mul pe_int (pv 3))) (pv 2)) pe_int) (pe_op op_add (pv 3) pe_int)) pe_int) (nomark _)) (pss_one (ps_ret pe_bl)) pss_nil) (pss_cons (ps_set (i := 10) sc_law.nd rfl (.inr rfl) (pc (ok_pieces T) hr T.m_pieces (pa_cons (pv 1) (pa_cons (pv 2) (pa_cons (pv 3) pa_nil))))) (pss_cons (ps_set (i := 11) sc_law.nd rfl (.inr rfl) (pc (ok_pieces T) hr T.m_pieces (pa_cons (pv 7) (pa_cons (pv 2) (pa_cons (pv 3) pa_nil))))) (pss_cons (ps_if (pt_cmpR op_gt (pe_callB (kcall_len (K := K) rfl) (by rfl) T.b_len (by decide +kernel) (pa_cons (pe_lc (own := [("_law_piece", 14)]) (g := gName 14) rfl sc_law.nd (kpi_list (K := K) rfl (pv 11)) (blkOk_by (own := [("_law_piece", 14)]) (N := ["_law_script", "_law_old", "_law_width", "_law_reach", "_law_start", "_law_end", "_law_new", "_law_text", "_law_most", "_law_count", "_law_ones", "_law_others", "_law_one", "_law_other", "_law_piece"]) (sc := defScope s_law) (by decide +kernel)) (fun _ _ _ _ _ => pg_name (i := 14) sc_law.nd rfl (Or.inl rfl)) (fun _ _ _ _ _ => pts_one (pt_cmpR (kop_notIn (K := K) rfl) (pv 14) (pv 10) (by rfl))) (fun _ _ _ _ _ => (pv 14))) pa_nil)) (pv 8) (nomark _)) (pss_one (ps_ret pe_bl)) pss_nil) (pss_cons (ps_if (pt_cmpR op_gt (pe_callB (kcall_len (K := K) rfl) (by rfl) T.b_len (by decide +kernel) (pa_cons (pe_lc (own := [("_law_piece", 14)]) (g := gName 14) rfl sc_law.nd (kpi_list (K := K) rfl (pv 10)) (blkOk_by (own := [("_law_piece", 14)]) (N := ["_law_script", "_law_old", "_law_width", "_law_reach", "_law_start", "_law_end", "_law_new", "_law_text", "_law_most", "_law_count", "_law_ones", "_law_others", "_law_one", "_law_other", "_law_piece"]) (sc := defScope s_law) (by decide +kernel)) (fun _ _ _ _ _ => pg_name (i := 14) sc_law.nd rfl (Or.inl rfl)) (fun _ _ _ _ _ => pts_one (pt_cmpR (kop_notIn (K := K) rfl) (pv 14) (pv 11) (by rfl))) (fun _ _ _ _ _ => (pv 14))) pa_nil)) (pc (ok_few T) hr T.m_few (pa_cons (pe_op op_sub (pv 5) (pv 4)) (pa_cons (pv 2) (pa_cons (pv 3) pa_nil)))) (nomark _)) (pss_one (ps_ret pe_bl)) pss_nil) (pss_cons (ps_set (i := 12) sc_law.nd rfl (.inl rfl) (pc (ok_cuts T) hr T.m_cuts (pa_cons (pv 1) (pa_cons (pv 2) (pa_cons (pv 3) pa_nil))))) (pss_cons (ps_set (i := 13) sc_law.nd rfl (.inl rfl) (pc (ok_cuts T) hr T.m_cuts (pa_cons (pv 7) (pa_cons (pv 2) (pa_cons (pv 3) pa_nil))))) (pss_cons (ps_if (pt_cmpR (kop_neD (K := K) rfl hr.units) (pc (ok__law_ahead T) hr T.m__law_ahead (pa_cons (pv 12) (pa_cons (pv 4) (pa_cons (pv 3) pa_nil)))) (pc (ok__law_ahead T) hr T.m__law_ahead (pa_cons (pv 13) (pa_cons (pv 4) (pa_cons (pv 3) pa_nil)))) (nomark _)) (pss_one (ps_ret pe_bl)) pss_nil) (pss_one (ps_ret (pe_cmpR (kop_eqD (K := K) rfl hr.units) (pc (ok__law_behind T) hr T.m__law_behind (pa_cons (pv 12) (pa_cons (pv 5) (pa_cons (pv 2) (pa_cons (pv 3) pa_nil))))) (pc (ok__law_behind T) hr T.m__law_behind (pa_cons (pv 13) (pa_cons (pe_op op_add (pv 4) (pe_callB call_len_str (by rfl) T.b_len (by decide +kernel) (pa_cons (pv 6) pa_nil))) (pa_cons (pv 2) (pa_cons (pv 3) pa_nil))))) (nomark _))))))))))))))))))))))), ?_⟩
    obtain ⟨hz0, hz1⟩ := sizeBy_lo (cellAt ns (1 : Int).toNat)
    obtain ⟨l, hl⟩ : ∃ l, l = textBy (cellAt ns (0 : Int).toNat) (sizeBy (cellAt ns (1 : Int).toNat)) := ⟨_, rfl⟩
    have hln : l.length ≤ 299 := by
      rw [hl, textBy_len _ hz0]
      omega
    obtain ⟨n, hn⟩ : ∃ n : Nat, (n : Int) = 1 + cellAt ns (2 : Int).toNat % 8 := ⟨(1 + cellAt ns (2 : Int).toNat % 8).toNat, by omega⟩
    obtain ⟨hr1, hr2⟩ := reachBy_lo (cellAt ns (3 : Int).toNat)
    obtain ⟨r, hr3⟩ : ∃ r : Nat, (r : Int) = reachBy (cellAt ns (3 : Int).toNat) := ⟨(reachBy (cellAt ns (3 : Int).toNat)).toNat, by omega⟩
    have hn8 : n ≤ 100 := by omega
    have hn1 : 1 ≤ n := by omega
    have hr40 : r ≤ 100 := by omega
    have hr0 : 1 ≤ r := by omega
    obtain ⟨hs1, hs2⟩ := startBy_lo (c := cellAt ns (4 : Int).toNat) (n := (l.length : Int)) (by omega)
    obtain ⟨b, hb⟩ : ∃ b : Nat, (b : Int) = startBy (cellAt ns (4 : Int).toNat) (l.length : Int) := ⟨(startBy (cellAt ns (4 : Int).toNat) (l.length : Int)).toNat, by omega⟩
    have hbl : b ≤ l.length := by omega
    have he1 := Int.emod_nonneg (cellAt ns (5 : Int).toNat) (show (l.length : Int) - (b : Int) + 1 ≠ 0 by omega)
    have he2 := Int.emod_lt_of_pos (cellAt ns (5 : Int).toNat) (show 0 < (l.length : Int) - (b : Int) + 1 by omega)
    obtain ⟨z, hz⟩ : ∃ z : Nat, (z : Int) = (b : Int) + cellAt ns (5 : Int).toNat % ((l.length : Int) - (b : Int) + 1) := ⟨((b : Int) + cellAt ns (5 : Int).toNat % ((l.length : Int) - (b : Int) + 1)).toNat, by omega⟩
    have hbz : b ≤ z := by omega
    have hzl : z ≤ l.length := by omega
    obtain ⟨m, hm⟩ : ∃ m, m = textBy (cellAt ns (6 : Int).toNat) (cellAt ns (7 : Int).toNat % 30) := ⟨_, rfl⟩
    have hml : m.length ≤ 29 := by
      rw [hm, textBy_len _ (Int.emod_nonneg _ (by decide))]
      omega
    obtain ⟨x, hx⟩ : ∃ x, x = l.take b ++ m ++ l.drop z := ⟨_, rfl⟩
    have hxl : x.length ≤ 400 := by
      rw [hx, List.length_append, List.length_append, List.length_take, List.length_drop]
      omega
    refine q_asg (v := vS l) (ev_call (vs := [.int (cellAt ns (0 : Int).toNat), .int (sizeBy (cellAt ns (1 : Int).toNat))]) (by walk_at "ea") (by rw [hl]; exact sv_text_by hz0 (by omega))) fun H1 e1 => ?_
    have hS1 := ex_l e1 hS
    refine q_asg (v := .int (n : Int)) (by rw [hn]; walk_at "ev") fun H2 e2 => ?_
    have hS2 := ex_l e2 hS1
    refine q_asg (v := .int (r : Int)) (by rw [hr3]; walk_at "ev") fun H3 e3 => ?_
    have hS3 := ex_l e3 hS2
    have e03 := e1.trans (e2.trans e3)
    refine q_asg (v := .int (cellAt ns (4 : Int).toNat / 3 % ((l.length : Int) + 1))) (ev_op (by walk_at "ev") (ev_op (ev_lenS (ev_var rfl) (by omega)) ev_c rv_I0) (rv_I (by show (0 : Int) < _; omega))) fun H4 e4 => ?_
    have hS4 := ex_l e4 hS3
    refine q_ifAsg (b := decide (cellAt ns (4 : Int).toNat % 3 = 2)) (v := .int (b : Int)) (by walk_at "et") (fun hb2 => ?_) (fun hb2 => ?_) fun H5 e5 => ?_
    · rw [hb]
      exact ev_pick (ea_cons ev_c (EvA.one (ev_lenS (ev_var rfl) (by omega)))) (fun H5 e5 => by have hS5 := ex_l e5 hS4; walk_at "ev") (Int.emod_nonneg _ (by decide)) (startBy_pick (of_decide_eq_true hb2)) (by show 2 ≤ 100000; decide)
    · rw [hb]
      unfold startBy
      rw [if_neg (of_decide_eq_false hb2)]
      rfl
    have hS5 := ex_l e5 hS4
    refine q_asg (v := .int (z : Int)) (by
      rw [hz]
      exact ev_op (ev_var rfl) (ev_op (by walk_at "ev") (ev_op (ev_op (ev_lenS (ev_var rfl) (by omega)) (ev_var rfl) rv_I0) ev_c rv_I0) (rv_I (by show (0 : Int) < _; omega))) rv_I0) fun H6 e6 => ?_
    have hS6 := ex_l e6 hS5
    refine q_asg (v := vS m) (ev_call (vs := [.int (cellAt ns (6 : Int).toNat), .int (cellAt ns (7 : Int).toNat % 30)]) (by walk_at "ea") (by rw [hm]; exact sv_text_by (Int.emod_nonneg _ (by decide)) (by omega))) fun H7 e7 => ?_
    have hS7 := ex_l e7 hS6
    refine q_asg (v := vS x) (by
      rw [hx]
      exact ev_op (ev_op (ev_takeS (ev_var rfl) (ev_var rfl)) (ev_var rfl) (rv_addS (by rw [List.length_take]; omega))) (ev_dropS (ev_var rfl) (ev_var rfl)) (rv_addS (by rw [List.length_append, List.length_take, List.length_drop]; omega))) fun H8 e8 => ?_
    have hS8 := ex_l e8 hS7
    walk_at "n15"
    have e38 := e4.trans (e5.trans (e6.trans (e7.trans e8)))
    refine q_asg (v := .int (fewOf m.length n r : Int)) (by
      rw [← fewI_nat hn1]
      exact ev_call (ea_cons (ev_lenS (ev_var rfl) (by omega)) (by walk_at "ea")) (sv_few (by omega))) fun H9 e9 => ?_
    have hS9 := ex_l e9 hS8
    refine q_when (b := false) (et_or (a := false) (b := false) (et_not (a := true) (et_B (ev_call (EvA.one (ev_var rfl)) (sv_whole (.int _))))) fun _ => et_is (et_test (ev_op (ev_var rfl) (ev_op (ev_op (ev_op (ev_op (ev_op (ev_lenS (ev_var rfl) (by omega)) (by walk_at "ev") rv_I0) (ev_var rfl) rv_I0) ev_c rv_I0) (by walk_at "ev") (rv_I ⟨by omega, by omega⟩)) ev_c rv_I0) rv_neI)) (by
      rw [← fewI_nat hn1]
      unfold fewI
      simp)) (fun hb => by cases hb) fun _ H10 e10 => ?_
    have hS10 := ex_l e10 hS9
    refine q_asg (ev_op (by walk_at "ev") (ev_op ev_c ev_c (rv_pow ⟨by decide, by decide, by decide⟩)) (rv_I (by show (0 : Int) < _; decide))) fun H11 e11 => ?_
    refine q_when (b := false) (et_is (et_test (ev_op (ev_call (by walk_at "ea") (sv_few (by omega))) (ev_op (ev_op (ev_op (ev_op (ev_op (ev_var rfl) (by walk_at "ev") rv_I0) (ev_var rfl) rv_I0) ev_c rv_I0) (by walk_at "ev") (rv_I ⟨by omega, by omega⟩)) ev_c rv_I0) rv_neI)) (by
      unfold fewI
      simp)) (fun hb => by cases hb) fun _ H12 e12 => ?_
    walk_at "n15"
    have e3c := e38.trans (e9.trans (e10.trans (e11.trans e12)))
    obtain ⟨ps, hps⟩ : ∃ ps, ps = piecesOf l n r := ⟨_, rfl⟩
    obtain ⟨qs, hqs⟩ : ∃ qs, qs = piecesOf x n r := ⟨_, rfl⟩
    have hpl : ps.length ≤ 500 := by
      have := piecesOf_len l n r
      rw [hps]
      omega
    have hql : qs.length ≤ 500 := by
      have := piecesOf_len x n r
      rw [hqs]
      omega
    obtain ⟨f1, f2⟩ := few_change (l := l) (N := m) (s := b) (e := z) (w := n) (r := r) hbz hzl hn1 hr0
    rw [← hx, ← hps, ← hqs] at f1 f2
    refine q_asgL (xs := ps.map vS) (el_call (by walk_at "ea") (by rw [hps]; exact sl_pieces (by omega) hn8 hr40)) fun g1 H13 hg1 e13 h13 => ?_
    refine q_asgL (xs := qs.map vS) (el_call (by walk_at "ea") (by rw [hqs]; exact sl_pieces (by omega) hn8 hr40)) fun g2 H14 hg2 e14 h14 => ?_
    have h13' := e14 _ _ h13
    walk_at "n15"
    have notin : ∀ {H1 : Hp} {σ : L2.St} {ta tb : TE} {g : Addr} {ys : List (List Nat)} {p : List Nat}, H1 g = some (.lst (ys.map vS)) → Ev ta σ H1 (vS p) → Ev tb σ H1 (.ref g) → EvT (tTest (tOp (rIn K true) ta tb)) σ H1 (!decide (p ∈ ys)) := fun {H1 σ ta tb g ys p} hg h1 h2 => by
      rw [← inV_vS]
      exact et_test (ev_op h1 h2 (rv_niL (sq_of hg) rfl (flat_vS ys)))
    refine q_when (b := false) (et_is (et_test (ev_op (ev_lenN (el_lcF (l := qs) (gv := vS) (fun p => !decide (p ∈ ps)) vS (ev_var rfl) (sq_of h14) (by omega) (fun _ => rfl) (fun p H1 _ e => notin (e _ _ h13') (ev_var rfl) (ev_var rfl)) (fun p H1 _ _ _ => ev_var rfl))) (ev_var rfl) rv_I0)) (decide_eq_false (by
      rw [List.length_map]
      omega))) (fun hb => by cases hb) fun _ H15 e15 => ?_
    have h13a := e15 _ _ h13'
    have h14a := e15 _ _ h14
    have ezb : ((z - b : Nat) : Int) = (z : Int) - (b : Int) := by omega
    refine q_when (b := false) (et_is (b := false) (a := decide (fewI ((z - b : Nat) : Int) (n : Int) (r : Int) < (((ps.filter fun p => !decide (p ∈ qs)).map vS).length : Int))) (et_test (ev_op (x := .int (((ps.filter fun p => !decide (p ∈ qs)).map vS).length : Int)) (y := .int (fewI ((z - b : Nat) : Int) (n : Int) (r : Int))) ?_ ?_ rv_I0)) ?_) (fun hb => by cases hb) fun _ H16 e16 => ?_
    · refine ev_lenN (el_lcF (l := ps) (gv := vS) (fun p => !decide (p ∈ qs)) vS (ev_var rfl) (sq_of h13a) (by omega) (fun _ => rfl) (fun p H1 _ e => ?_) (fun p H1 _ _ _ => ev_var rfl))
      exact notin (e _ _ h14a) (ev_var rfl) (ev_var rfl)
    · exact ev_call (vs := [.int ((z - b : Nat) : Int), .int (n : Int), .int (r : Int)]) (by rw [ezb]; walk_at "ea") (sv_few (by omega))
    · refine decide_eq_false ?_
      rw [List.length_map, fewI_nat hn1]
      omega
    have e3g := e3c.trans (e13.trans (e14.trans (e15.trans e16)))
    obtain ⟨cs, hcs⟩ : ∃ cs, cs = cutsOf l n r := ⟨_, rfl⟩
    obtain ⟨ds, hds⟩ : ∃ ds, ds = cutsOf x n r := ⟨_, rfl⟩
    have hcl : cs.length ≤ 500 := by
      have := cutsOf_len_le l n r
      rw [hcs]
      omega
    have hdl : ds.length ≤ 500 := by
      have := cutsOf_len_le x n r
      rw [hds]
      omega
    refine q_asgL (xs := vN cs) (el_call (by walk_at "ea") (by rw [hcs]; exact sl_cuts (by omega) hn8 hr40)) fun k1 H17 hk1 e17 h17 => ?_
    refine q_asgL (xs := vN ds) (el_call (by walk_at "ea") (by rw [hds]; exact sl_cuts (by omega) hn8 hr40)) fun k2 H18 hk2 e18 h18 => ?_
    have h17' := e18 _ _ h17
    walk_at "n15"
    have ha := ahead_change (l := l) (N := m) (s := b) (e := z) (w := n) (r := r) hbz hzl
    have hbb := behind_change (l := l) (N := m) (s := b) (e := z) (w := n) (r := r) hbz hzl
    rw [← hx, ← hcs, ← hds] at ha hbb
    have fl : ∀ (p : Nat → Bool) (ys : List Nat), ys.length ≤ 500 → (ys.filter p).length ≤ 50000 := fun p ys h => Nat.le_trans (List.length_filter_le _ _) (by omega)
    have fa : Fit 4 (dN (aheadOf cs b r)) := fit_dN (fl _ _ hcl)
    refine q_when (b := false) (et_is (et_test (ev_neD (n := 4) (d := dN (aheadOf cs b r)) (d2 := dN (aheadOf cs b r)) (evd_of_L (el_call (by walk_at "ea") (sl_ahead (sq_of h17') (by omega))) fun p H1 h1 => rep_dN h1) (evd_of_L (xs := vN (aheadOf cs b r)) (el_call (by walk_at "ea") (by rw [ha]; exact sl_ahead (sq_of h18) (by omega))) fun p H1 h1 => rep_dN h1) fa fa (sg_dN _) (sg_dN _))) (by rw [eqv_same (sg_dN _)]; rfl)) (fun hb => by cases hb) fun _ H19 e19 => ?_
    have fb : Fit 4 (dN (behindOf cs z n r)) := fit_dN (by
      unfold behindOf
      rw [List.length_map]
      exact fl _ _ hcl)
    have ebm : ((b + m.length : Nat) : Int) = (b : Int) + (m.length : Int) := Int.natCast_add _ _
    refine s_ret (ev_is (ev_eqD (n := 4) (d := dN (behindOf cs z n r)) (d2 := dN (behindOf cs z n r)) (evd_of_L (el_call (by walk_at "ea") (sl_behind (sq_of (e19 _ _ h17')) (by omega))) fun p H1 h1 => rep_dN h1) (evd_of_L (xs := vN (behindOf cs z n r)) (el_call (vs := [.ref k2, .int ((b + m.length : Nat) : Int), .int (n : Int), .int (r : Int)]) (ea_cons (ev_var rfl) (ea_cons (v_int ebm.symm (ev_op (ev_var rfl) (ev_lenS (ev_var rfl) (by omega)) rv_I0)) (by walk_at "ea"))) (by rw [hbb]; exact sl_behind (sq_of (e19 _ _ h18)) (by omega))) fun p H1 h1 => rep_dN h1) fb fb (sg_dN _) (sg_dN _)) ?_) fun H20 e20 => q _ (e03.trans (e3g.trans (e17.trans (e18.trans (e19.trans e20)))))
    rw [eqv_same (sg_dN _)]
end

end Ck
set_option maxHeartbeats 0
namespace Ck
open PySem L2
def h_fa : List He.Fa := [.free "bool", .free "int", .free "isinstance", .free "len", .free "list", .free "min", .free "ord", .free "range", .free "str", .free "tuple", .glo "weight", .glo "weights", .glo "is_low", .glo "cuts", .glo "pieces", .glo "few", .glo "_law_cell_at", .glo "_law_whole", .glo "_law_sign_by", .glo "_law_text_by", .glo "_law_alike", .glo "_law_size_by", .glo "_law_reach_by", .glo "_law_ahead", .glo "_law_behind", .glo "law"]
def h_fn : List He.DefD := [⟨("weight", none), "weight", "weight", defArgs s_weight, defBody s_weight, defScope s_weight, [], []⟩, ⟨("weights", none), "weights", "weights", defArgs s_weights, defBody s_weights, defScope s_weights, [], []⟩, ⟨("is_low", none), "is_low", "is_low", defArgs s_is_low, defBody s_is_low, defScope s_is_low, [], []⟩, ⟨("cuts", none), "cuts", "cuts", defArgs s_cuts, defBody s_cuts, defScope s_cuts, [], []⟩, ⟨("pieces", none), "pieces", "pieces", defArgs s_pieces, defBody s_pieces, defScope s_pieces, [], []⟩, ⟨("few", none), "few", "few", defArgs s_few, defBody s_few, defScope s_few, [], []⟩, ⟨("_law_cell_at", none), "_law_cell_at", "_law_cell_at", defArgs s__law_cell_at, defBody s__law_cell_at, defScope s__law_cell_at, [], []⟩, ⟨("_law_whole", none), "_law_whole", "_law_whole", defArgs s__law_whole, defBody s__law_whole, defScope s__law_whole, [], []⟩, ⟨("_law_sign_by", none), "_law_sign_by", "_law_sign_by", defArgs s__law_sign_by, defBody s__law_sign_by, defScope s__law_sign_by, [], []⟩, ⟨("_law_text_by", none), "_law_text_by", "_law_text_by", defArgs s__law_text_by, defBody s__law_text_by, defScope s__law_text_by, [], []⟩, ⟨("_law_alike", none), "_law_alike", "_law_alike", defArgs s__law_alike, defBody s__law_alike, defScope s__law_alike, [], []⟩, ⟨("_law_size_by", none), "_law_size_by", "_law_size_by", defArgs s__law_size_by, defBody s__law_size_by, defScope s__law_size_by, [], []⟩, ⟨("_law_reach_by", none), "_law_reach_by", "_law_reach_by", defArgs s__law_reach_by, defBody s__law_reach_by, defScope s__law_reach_by, [], []⟩, ⟨("_law_ahead", none), "_law_ahead", "_law_ahead", defArgs s__law_ahead, defBody s__law_ahead, defScope s__law_ahead, [], []⟩, ⟨("_law_behind", none), "_law_behind", "_law_behind", defArgs s__law_behind, defBody s__law_behind, defScope s__law_behind, [], []⟩, ⟨("law", none), "law", "law", defArgs s_law, defBody s_law, defScope s_law, [], []⟩]
def h_loose : List Str := [("weight" : Str), ("weights" : Str), ("is_low" : Str), ("cuts" : Str), ("pieces" : Str), ("few" : Str), ("_law_cell_at" : Str), ("_law_whole" : Str), ("_law_sign_by" : Str), ("_law_text_by" : Str), ("_law_alike" : Str), ("_law_size_by" : Str), ("_law_reach_by" : Str), ("_law_ahead" : Str), ("_law_behind" : Str)]
def h_ex (_ : PySem.W.Frag) : Bool := true
abbrev RR : PySem.W.OpenRow := PySem.W.OpenLaw.row PySem.Challenge.rw_chunkshelf_k04_whole_few_altered
abbrev hk : PySem.W.Hook := CkH.hookC 5 h_fa h_fn h_ex
def ob (s : PySem.W.SharedT) : CkH.AlC := CkH.obsC 5 h_fa h_fn h_ex (HandSHeadRun.getT s)
theorem ob_eq (s : PySem.W.SharedT) : ob s = hk.obs s.abs := CkH.obsC_eq (HandSHeadRun.getT_eq s)
theorem head_run (w : World) : HandSHeadRun.RunEq RR (PySem.W.view RR.prog [17]) hk ob 3000 h_loose w := by
  intro os
  kernel_rfl
theorem facts {K : PySem.W.Frag} {h : Heap} {mg : Str → Option Value} (X : K.In h) (G : h.Ns mainGlobals mg) (c : CkH.SaysC h_fa h_fn h_ex K) : Txt K mg := by
  have x0 : mg "bool" = none := He.free_ok X G (c.1.fact 0 (f := .free "bool") rfl)
  have x1 : mg "int" = none := He.free_ok X G (c.1.fact 1 (f := .free "int") rfl)
  have x2 : mg "isinstance" = none := He.free_ok X G (c.1.fact 2 (f := .free "isinstance") rfl)
  have x3 : mg "len" = none := He.free_ok X G (c.1.fact 3 (f := .free "len") rfl)
  have x4 : mg "list" = none := He.free_ok X G (c.1.fact 4 (f := .free "list") rfl)
  have x5 : mg "min" = none := He.free_ok X G (c.1.fact 5 (f := .free "min") rfl)
  have x6 : mg "ord" = none := He.free_ok X G (c.1.fact 6 (f := .free "ord") rfl)
  have x7 : mg "range" = none := He.free_ok X G (c.1.fact 7 (f := .free "range") rfl)
  have x8 : mg "str" = none := He.free_ok X G (c.1.fact 8 (f := .free "str") rfl)
  have x9 : mg "tuple" = none := He.free_ok X G (c.1.fact 9 (f := .free "tuple") rfl)
  have x10 : mg "weight" = some (.ref (He.ga K "weight")) := He.glo_ok X G (c.1.fact 10 (f := .glo "weight") rfl)
  have x11 : ∃ fd, Fun K "weight" "weight" s_weight (He.ga K "weight") fd := (c.1.def_ 0 rfl).imp fun _ F => CkH.fun_of F
  have x12 : mg "weights" = some (.ref (He.ga K "weights")) := He.glo_ok X G (c.1.fact 11 (f := .glo "weights") rfl)
  have x13 : ∃ fd, Fun K "weights" "weights" s_weights (He.ga K "weights") fd := (c.1.def_ 1 rfl).imp fun _ F => CkH.fun_of F
  have x14 : mg "is_low" = some (.ref (He.ga K "is_low")) := He.glo_ok X G (c.1.fact 12 (f := .glo "is_low") rfl)
  have x15 : ∃ fd, Fun K "is_low" "is_low" s_is_low (He.ga K "is_low") fd := (c.1.def_ 2 rfl).imp fun _ F => CkH.fun_of F
  have x16 : mg "cuts" = some (.ref (He.ga K "cuts")) := He.glo_ok X G (c.1.fact 13 (f := .glo "cuts") rfl)
  have x17 : ∃ fd, Fun K "cuts" "cuts" s_cuts (He.ga K "cuts") fd := (c.1.def_ 3 rfl).imp fun _ F => CkH.fun_of F
  have x18 : mg "pieces" = some (.ref (He.ga K "pieces")) := He.glo_ok X G (c.1.fact 14 (f := .glo "pieces") rfl)
  have x19 : ∃ fd, Fun K "pieces" "pieces" s_pieces (He.ga K "pieces") fd := (c.1.def_ 4 rfl).imp fun _ F => CkH.fun_of F
  have x20 : mg "few" = some (.ref (He.ga K "few")) := He.glo_ok X G (c.1.fact 15 (f := .glo "few") rfl)
  have x21 : ∃ fd, Fun K "few" "few" s_few (He.ga K "few") fd := (c.1.def_ 5 rfl).imp fun _ F => CkH.fun_of F
  have x22 : mg "_law_cell_at" = some (.ref (He.ga K "_law_cell_at")) := He.glo_ok X G (c.1.fact 16 (f := .glo "_law_cell_at") rfl)
  have x23 : ∃ fd, Fun K "_law_cell_at" "_law_cell_at" s__law_cell_at (He.ga K "_law_cell_at") fd := (c.1.def_ 6 rfl).imp fun _ F => CkH.fun_of F
  have x24 : mg "_law_whole" = some (.ref (He.ga K "_law_whole")) := He.glo_ok X G (c.1.fact 17 (f := .glo "_law_whole") rfl)
  have x25 : ∃ fd, Fun K "_law_whole" "_law_whole" s__law_whole (He.ga K "_law_whole") fd := (c.1.def_ 7 rfl).imp fun _ F => CkH.fun_of F
  have x26 : mg "_law_sign_by" = some (.ref (He.ga K "_law_sign_by")) := He.glo_ok X G (c.1.fact 18 (f := .glo "_law_sign_by") rfl)
  have x27 : ∃ fd, Fun K "_law_sign_by" "_law_sign_by" s__law_sign_by (He.ga K "_law_sign_by") fd := (c.1.def_ 8 rfl).imp fun _ F => CkH.fun_of F
  have x28 : mg "_law_text_by" = some (.ref (He.ga K "_law_text_by")) := He.glo_ok X G (c.1.fact 19 (f := .glo "_law_text_by") rfl)
  have x29 : ∃ fd, Fun K "_law_text_by" "_law_text_by" s__law_text_by (He.ga K "_law_text_by") fd := (c.1.def_ 9 rfl).imp fun _ F => CkH.fun_of F
  have x30 : mg "_law_alike" = some (.ref (He.ga K "_law_alike")) := He.glo_ok X G (c.1.fact 20 (f := .glo "_law_alike") rfl)
  have x31 : ∃ fd, Fun K "_law_alike" "_law_alike" s__law_alike (He.ga K "_law_alike") fd := (c.1.def_ 10 rfl).imp fun _ F => CkH.fun_of F
  have x32 : mg "_law_size_by" = some (.ref (He.ga K "_law_size_by")) := He.glo_ok X G (c.1.fact 21 (f := .glo "_law_size_by") rfl)
  have x33 : ∃ fd, Fun K "_law_size_by" "_law_size_by" s__law_size_by (He.ga K "_law_size_by") fd := (c.1.def_ 11 rfl).imp fun _ F => CkH.fun_of F
  have x34 : mg "_law_reach_by" = some (.ref (He.ga K "_law_reach_by")) := He.glo_ok X G (c.1.fact 22 (f := .glo "_law_reach_by") rfl)
  have x35 : ∃ fd, Fun K "_law_reach_by" "_law_reach_by" s__law_reach_by (He.ga K "_law_reach_by") fd := (c.1.def_ 12 rfl).imp fun _ F => CkH.fun_of F
  have x36 : mg "_law_ahead" = some (.ref (He.ga K "_law_ahead")) := He.glo_ok X G (c.1.fact 23 (f := .glo "_law_ahead") rfl)
  have x37 : ∃ fd, Fun K "_law_ahead" "_law_ahead" s__law_ahead (He.ga K "_law_ahead") fd := (c.1.def_ 13 rfl).imp fun _ F => CkH.fun_of F
  have x38 : mg "_law_behind" = some (.ref (He.ga K "_law_behind")) := He.glo_ok X G (c.1.fact 24 (f := .glo "_law_behind") rfl)
  have x39 : ∃ fd, Fun K "_law_behind" "_law_behind" s__law_behind (He.ga K "_law_behind") fd := (c.1.def_ 14 rfl).imp fun _ F => CkH.fun_of F
  have x40 : mg "law" = some (.ref (He.ga K "law")) := He.glo_ok X G (c.1.fact 25 (f := .glo "law") rfl)
  have x41 : ∃ fd, Fun K "law" "law" s_law (He.ga K "law") fd := (c.1.def_ 15 rfl).imp fun _ F => CkH.fun_of F
  exact {
    b_bool := x0,
    b_int := x1,
    b_isinstance := x2,
    b_len := x3,
    b_list := x4,
    b_min := x5,
    b_ord := x6,
    b_range := x7,
    b_str := x8,
    b_tuple := x9,
    m_weight := x10,
    F_weight := x11,
    m_weights := x12,
    F_weights := x13,
    m_is_low := x14,
    F_is_low := x15,
    m_cuts := x16,
    F_cuts := x17,
    m_pieces := x18,
    F_pieces := x19,
    m_few := x20,
    F_few := x21,
    m__law_cell_at := x22,
    F__law_cell_at := x23,
    m__law_whole := x24,
    F__law_whole := x25,
    m__law_sign_by := x26,
    F__law_sign_by := x27,
    m__law_text_by := x28,
    F__law_text_by := x29,
    m__law_alike := x30,
    F__law_alike := x31,
    m__law_size_by := x32,
    F__law_size_by := x33,
    m__law_reach_by := x34,
    F__law_reach_by := x35,
    m__law_ahead := x36,
    F__law_ahead := x37,
    m__law_behind := x38,
    F__law_behind := x39,
    m_law := x40,
    F_law := x41 }
end Ck
open PySem PySem.W PySem.Calls PyProof.Rows
theorem PySem.Challenge.cw_chunkshelf_k04_whole_few_altered_holds : PySem.Challenge.rw_chunkshelf_k04_whole_few_altered.Holds := by
  w_on; o_law
  refine HandSHeadRun.head_any (r := OpenLaw.row PySem.Challenge.rw_chunkshelf_k04_whole_few_altered) (q := view (OpenLaw.row PySem.Challenge.rw_chunkshelf_k04_whole_few_altered).prog [17]) (H := Ck.hk) (ob := Ck.ob) (M := 3000) (loose := Ck.h_loose) (d := HandSHeadRun.topDef (OpenLaw.row PySem.Challenge.rw_chunkshelf_k04_whole_few_altered).prog 17) (kwd := []) Ck.ob_eq
    (by kernel_rfl) (fun s => by kernel_rfl) Ck.head_run (by kernel_rfl) (by kernel_rfl) (by kernel_rfl) (by rfl) (by first | assumption | decide +kernel) (by decide +kernel) ⟨rfl, rfl, rfl, rfl, rfl, by decide +kernel⟩ ?hw ?hc
  case hw => w_witness2
  case hc =>
    refine L2.walk_ofE (l := PySem.Challenge.rw_chunkshelf_k04_whole_few_altered) (n := 63) (k := 7) (x := "_law_script") (CX := L2.CX0) rfl (by decide) (by kernel_rfl) ⟨rfl, by decide, by decide⟩ ?F (fun _ _ _ _ z => z)
    intro w mg fa h Y G hmg0
    obtain ⟨K, KX, c⟩ := Y
    have hmg : mg ("law" : PySem.Str) = some (.ref fa) := by
      have e : (HandSHeadRun.topDef (OpenLaw.row PySem.Challenge.rw_chunkshelf_k04_whole_few_altered).prog 17).name = ("law" : PySem.Str) := by kernel_rfl
      rw [← e]
      exact hmg0
    have T := Ck.facts KX G c
    have ef := hmg.symm.trans T.m_law
    cases ef
    refine ⟨K, Ck.fdOf K _, Ck.sp_law K, KX, fun s u => .of_eq ((Ck.ok_law (P := (PySem.Challenge.rw_chunkshelf_k04_whole_few_altered).prog) (w := w) (base := h) T).2.1 [u] rfl), fun H a ns hl _ hS => ⟨a, ns, rfl, hS, hl, fun _ _ => rfl⟩, fun base hb hn => ?_⟩
    exact (Ck.Def.law (fun b _ _ => (Ck.ok_law (P := (PySem.Challenge.rw_chunkshelf_k04_whole_few_altered).prog) (w := w) (base := b) T)) (fun _ _ _ _ z => z) base hb hn)

