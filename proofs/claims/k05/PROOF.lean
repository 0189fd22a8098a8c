import PyProof.Rows.All
import Wide.All
import OpenK.AllK
import Wide.FinOn
import PyProof.StrBlock2
import HandS.ForMost
import HandS.Evl
import HandS.Walk
import HandS.Codes
import HandS.IsInst
import HandS.Exc
import HandS.ExcOwn
import HandS.TryOnly
import HandS.WordsExc
import HandS.ExcIs
import HandS.TryMany
import HandS.ExcCtx
import HandS.Hot
import HandS.HotCalls
import HandS.SuiteRaise
import HandS.More
import HandS.SortInts
import HandS.HeadHook1
import KE.KStateDown
import HandS.Defaults
import HandS.Head0
import HandS.Head1
import HandS.Head2
import HandS.HeadEnd
import HandS.HeadHook2
import KE.OsSort
import PySem.Challenge.RW_chunkshelf_k05_stock_counted
set_option Elab.async false
set_option linter.all false
set_option maxRecDepth 100000
set_option maxHeartbeats 4000000
namespace Ck
open PySem L2 Evl

/-! text times int -/
def rMulS : R2 := fun x y H Q => ∃ (l : List Nat) (k : Int), x = .str (SX.S l) ∧ y = .int k ∧ -100000 < k ∧ k < 100000 ∧ l.length * k.toNat ≤ 4000000 ∧ Q (.str (SX.S (List.replicate k.toNat l).flatten)) H
theorem foldl_cat (a : Array Nat) : ∀ (n : Nat) (acc : Array Nat), (List.replicate n a).foldl (· ++ ·) acc = (acc.toList ++ (List.replicate n a.toList).flatten).toArray
  | 0, acc => by simp
  | n + 1, acc => by
    rw [List.replicate_succ, List.foldl_cons, foldl_cat a n, List.replicate_succ, List.flatten_cons]
    simp
theorem mul_S (l : List Nat) (k : Int) : Txt.mul (SX.S l) k = SX.S (List.replicate k.toNat l).flatten := by
  unfold Txt.mul
  by_cases h1 : k < 1
  · rw [if_pos h1]
    have e : k.toNat = 0 := by omega
    rw [e]; rfl
  · rw [if_neg h1]
    by_cases h2 : (k == 1 || (SX.S l).length == 0) = true
    · rw [if_pos h2]
      rw [Bool.or_eq_true, beq_iff_eq, beq_iff_eq] at h2
      rcases h2 with h2 | h2
      · subst h2
        show SX.S l = SX.S (List.replicate 1 l).flatten
        simp
      · rw [SX.S_len] at h2
        have e : l = [] := List.length_eq_zero_iff.mp h2
        subst e
        simp
    · rw [if_neg h2, foldl_cat]
      simp
section
variable {X : Cx}
theorem op_mulS : OpR X (binaryOp .Mult) rMulS := by
  intro pins s σ H x y v u Q I rx ry h
  obtain ⟨l, k, rfl, rfl, hk0, hk, hz, q⟩ := h
  obtain ⟨t, rfl⟩ := rx
  obtain ⟨t', rfl⟩ := ry
  refine SB.mul ⟨?_, fun h1 h2 => ?_, fun h1 h2 => ?_⟩ (fun t2 k2 => ⟨.str (Txt.mul (SX.S l) k), H, I.tok _, ⟨_, rfl⟩, ?_⟩)
  · rw [Bool.or_eq_false_iff]
    exact ⟨decide_eq_false (by omega), decide_eq_false (by omega)⟩
  · rw [SX.S_len]
    have hl : l.length ≤ 4000000 := by
      have h3 : 1 ≤ k.toNat := by omega
      have := Nat.le_mul_of_pos_right l.length h3
      omega
    have h4 : (100000000 : Int) ≤ (2 ^ 63 - 1) / k := by
      rw [Int.le_ediv_iff_mul_le (by omega)]
      omega
    omega
  · rw [SX.S_len]
    unfold Builtin.Str.tooLong
    exact decide_eq_false (by rw [sizeLine_eq]; omega)
  · rw [mul_S]; exact q
end

/-! values evaluated, with a base heap -/
section
variable {K : PySem.W.Frag} {σ : L2.St} {H H' : Hp} {ta tb te tx : TE} {t u : TT} {x y z v : V} {D : Ends} {tu tw tz : TS} {g : TG}
theorem rv_eqI {i j : Int} : RV rEq (.int i) (.int j) H (.bl (decide (i = j))) := by
  refine rv_val fun H1 e Q q => ⟨rfl, ?_⟩
  have e : decide (V.int i = V.int j) = decide (i = j) := by simp
  rw [e]; exact q
theorem rv_neI {i j : Int} : RV rNe (.int i) (.int j) H (.bl (!decide (i = j))) := by
  refine rv_val fun H1 e Q q => ⟨rfl, ?_⟩
  have e : decide (V.int i = V.int j) = decide (i = j) := by simp
  rw [e]; exact q
theorem rv_eqS {i j : List Nat} : RV rEq (.str (SX.S i)) (.str (SX.S j)) H (.bl (decide (i = j))) := by
  refine rv_val fun H1 e Q q => ⟨rfl, ?_⟩
  have e : decide (V.str (SX.S i) = V.str (SX.S j)) = decide (i = j) := by
    rw [decide_eq_decide]
    exact ⟨fun h => SX.S_inj (V.str.inj h), fun h => by rw [h]⟩
  rw [e]; exact q
theorem rv_addS {i j : List Nat} (h : i.length + j.length ≤ 1000000) : RV (fun x y H Q => ∃ i j, x = .str i ∧ y = .str j ∧ i.length + j.length ≤ sizeLine ∧ Q (.str (i ++ j)) H) (.str (SX.S i)) (.str (SX.S j)) H (.str (SX.S (i ++ j))) := by
  refine rv_val fun H1 e Q q => ⟨SX.S i, SX.S j, rfl, rfl, ?_, ?_⟩
  · rw [SX.S_len, SX.S_len, sizeLine_eq]; omega
  · rw [SX.S_cat]; exact q
theorem rv_mulS {l : List Nat} {k : Int} (h1 : -100000 < k) (h2 : k < 100000) (h3 : l.length * k.toNat ≤ 4000000) : RV rMulS (.str (SX.S l)) (.int k) H (.str (SX.S (List.replicate k.toNat l).flatten)) :=
  rv_val fun _ _ _ q => ⟨l, k, rfl, rfl, h1, h2, h3, q⟩
theorem rv_ixS' {l : List Nat} {i : Int} {c : Nat} (h : l.length ≤ 100000) (h0 : 0 ≤ i) (hc : l[i.toNat]? = some c) : RV rIxS (.str (SX.S l)) (.int i) H (.str (SX.S [c])) := by
  refine rv_ixS (by rw [SX.S_len]; exact h) ?_
  have e : ((i.toNat : Nat) : Int) = i := by omega
  rw [← e]
  exact atI_nat hc
theorem rv_ixL' {p : Addr} {xs : List V} {i : Int} (h : SqL K H p xs) (h0 : 0 ≤ i) (ha : xs[i.toNat]? = some v) : RV (rIxL K) (.ref p) (.int i) H v := by
  refine rv_ixL h ?_
  have e : ((i.toNat : Nat) : Int) = i := by omega
  rw [← e]
  exact atI_nat ha
theorem ev_ord {c : Nat} (ha : Ev ta σ H (.str (SX.S [c]))) : Ev (tCB (fun xs H Q => ∃ x, xs = [.str x] ∧ x.length = 1 ∧ Q (.int (x.cps.getD 0 0 : Nat)) H) (tCons ta tNil)) σ H (.int (c : Int)) := fun H1 e Q q =>
  ha H1 e _ fun H2 e2 => ⟨SX.S [c], rfl, rfl, q H2 e2⟩
theorem ev_lenS {l : List Nat} (ha : Ev ta σ H (.str (SX.S l))) (hl : l.length ≤ 1000000) : Ev (tCB (fun xs H Q => ∃ z, xs = [.str z] ∧ z.length ≤ sizeLine ∧ Q (.int z.length) H) (tCons ta tNil)) σ H (.int (l.length : Int)) := fun H1 e Q q =>
  ha H1 e _ fun H2 e2 => ⟨SX.S l, rfl, by rw [SX.S_len, sizeLine_eq]; omega, by rw [SX.S_len]; exact q H2 e2⟩
theorem ev_sliceS {l : List Nat} {tl th : TO} {lo hi : Option Int} (h : Ev te σ H (.str (SX.S l))) (hl : l.length ≤ 4000000) (h1 : EvO tl σ H lo) (h2 : EvO th σ H hi) : Ev (tSl rSlS te tl th) σ H (.str (cutS (SX.S l) lo hi)) := fun H1 e Q q =>
  h H1 e _ fun H2 e2 => h1 H2 (e.trans e2) _ fun H3 e3 => h2 H3 ((e.trans e2).trans e3) _ fun H4 e4 => ⟨SX.S l, rfl, by rw [SX.S_len, sizeLine_eq]; omega, q H4 ((e2.trans e3).trans e4)⟩
theorem cut_S (l : List Nat) (lo hi : Option Int) : cutS (SX.S l) lo hi = SX.S ((l.drop (HT.sIx l.length 0 lo)).take (HT.sIx l.length l.length hi - HT.sIx l.length 0 lo)) := by
  unfold cutS
  rw [SX.S_len]
theorem cut_to {l : List Nat} {i : Int} (h : 0 ≤ i) : cutS (SX.S l) none (some i) = SX.S (l.take i.toNat) := by
  rw [C8.cutS_slice, SX.slice_to h]
theorem cut_from {l : List Nat} {i : Int} (h : 0 ≤ i) : cutS (SX.S l) (some i) none = SX.S (l.drop i.toNat) := by
  rw [C8.cutS_slice, SX.slice_from h]
theorem cut_mid {l : List Nat} {i j : Int} (h : 0 ≤ i) (hj : 0 ≤ j) : cutS (SX.S l) (some i) (some j) = SX.S ((l.drop i.toNat).take (j.toNat - i.toNat)) := by
  rw [cut_S]
  have e1 : HT.sIx l.length 0 (some i) = min i.toNat l.length := by
    have := HT.sIx_nat l.length 0 i.toNat
    rwa [show ((i.toNat : Nat) : Int) = i by omega] at this
  have e2 : HT.sIx l.length l.length (some j) = min j.toNat l.length := by
    have := HT.sIx_nat l.length l.length j.toNat
    rwa [show ((j.toNat : Nat) : Int) = j by omega] at this
  rw [e1, e2]
  congr 1
  by_cases hl : i.toNat ≤ l.length
  · rw [Nat.min_eq_left hl]
    by_cases hl2 : j.toNat ≤ l.length
    · rw [Nat.min_eq_left hl2]
    · rw [Nat.min_eq_right (by omega)]
      rw [List.take_of_length_le (by rw [List.length_drop]; omega), List.take_of_length_le (by rw [List.length_drop]; omega)]
  · rw [List.drop_eq_nil_of_le (show l.length ≤ i.toNat by omega), List.drop_eq_nil_of_le (by omega)]
    simp
end
/-! kinds of values -/
inductive TN (H : Hp) : V → String → Prop where
  | non : TN H .non "NoneType"
  | bl (b : Bool) : TN H (.bl b) "bool"
  | int (i : Int) : TN H (.int i) "int"
  | str (x : Str) : TN H (.str x) "str"
  | lst {a : Addr} {xs : List V} (e : H a = some (.lst xs)) : TN H (.ref a) "list"
  | tup {a : Addr} {xs : List V} (e : H a = some (.tup xs)) : TN H (.ref a) "tuple"
  | dK {a : Addr} {kvs : List (Key × V)} (e : H a = some (.dK kvs)) : TN H (.ref a) "dict"
  | dT {a : Addr} {kvs : List (List Key × V)} (e : H a = some (.dT kvs)) : TN H (.ref a) "dict"
theorem TN.ex {H H' : Hp} {x : V} {n : String} (t : TN H x n) (e : Ex H H') : TN H' x n := by
  cases t with
  | non => exact .non
  | bl b => exact .bl b
  | int i => exact .int i
  | str x => exact .str x
  | lst h => exact .lst (e _ _ h)
  | tup h => exact .tup (e _ _ h)
  | dK h => exact .dK (e _ _ h)
  | dT h => exact .dT (e _ _ h)
theorem TN.ty {K : PySem.W.Frag} {H : Hp} {x : V} {n : String} (t : TN H x n) : TyX K H x (.type n) := by
  cases t with
  | non => exact .base .non
  | bl b => exact .base (.bl b)
  | int i => exact .base (.int i)
  | str x => exact .base (.str x)
  | lst h => exact .base (.lst h)
  | tup h => exact .base (.tup h)
  | dK h => exact .base (.dK h)
  | dT h => exact .base (.dT h)
section
variable {K : PySem.W.Frag} {σ : L2.St} {H H' : Hp} {ta tb te tx : TE} {t u : TT} {x y z v : V}
theorem ev_isi {n c : String} {b : Bool} (ha : Ev ta σ H x) (ht : TN H x n) (hk : kitB n c = some b) : Ev (tCB (rIsi K) (tCons ta (tCons (tC (.ty c)) tNil))) σ H (.bl b) := fun H1 e Q q =>
  ha H1 e _ fun H2 e2 => ⟨x, .ty c, .type n, .type c, b, rfl, .ty c, (ht.ex (e.trans e2)).ty, kit_ty hk, q H2 e2⟩
/-- is it a whole number -/
def isW : V → Bool
  | .int _ => true
  | _ => false
theorem isW_tn {n : String} (ht : TN H x n) : kitB n "int" = some (isW x || (n == "bool")) ∧ kitB n "bool" = some (n == "bool") ∧ (isW x && (n == "bool")) = false := by
  cases ht with
  | non => exact ⟨by show kitB "NoneType" "int" = some false; decide +kernel, by show kitB "NoneType" "bool" = some false; decide +kernel, rfl⟩
  | bl b => exact ⟨by show kitB "bool" "int" = some true; decide +kernel, by show kitB "bool" "bool" = some true; decide +kernel, rfl⟩
  | int i => exact ⟨by show kitB "int" "int" = some true; decide +kernel, by show kitB "int" "bool" = some false; decide +kernel, rfl⟩
  | str x => exact ⟨by show kitB "str" "int" = some false; decide +kernel, by show kitB "str" "bool" = some false; decide +kernel, rfl⟩
  | lst h => exact ⟨by show kitB "list" "int" = some false; decide +kernel, by show kitB "list" "bool" = some false; decide +kernel, rfl⟩
  | tup h => exact ⟨by show kitB "tuple" "int" = some false; decide +kernel, by show kitB "tuple" "bool" = some false; decide +kernel, rfl⟩
  | dK h => exact ⟨by show kitB "dict" "int" = some false; decide +kernel, by show kitB "dict" "bool" = some false; decide +kernel, rfl⟩
  | dT h => exact ⟨by show kitB "dict" "int" = some false; decide +kernel, by show kitB "dict" "bool" = some false; decide +kernel, rfl⟩
theorem isW_and {n : String} (ht : TN H x n) : ((isW x || (n == "bool")) && !(n == "bool")) = isW x := by
  have h := (isW_tn ht).2.2
  cases e : isW x <;> cases e2 : (n == "bool") <;> simp_all
/-- a written text by its codes -/
def cd (s : String) : List Nat := s.toList.map Char.toNat
theorem lit (s : String) : Str.ofString s = SX.S (cd s) := Str.ofString_eq_toList s
theorem ev_str {s : String} : Ev (tC (.str (Str.ofString s))) σ H (.str (SX.S (cd s))) := by
  rw [← lit s]
  exact ev_c
theorem ev_min {i j : Int} (ha : Ev ta σ H (.int i)) (hb : Ev tb σ H (.int j)) : Ev (tCB (fun xs H Q => ∃ i j, xs = [.int i, .int j] ∧ Q (.int (if j < i then j else i)) H) (tCons ta (tCons tb tNil))) σ H (.int (if j < i then j else i)) := fun H1 e Q q =>
  ha H1 e _ fun H2 e2 => hb H2 (e.trans e2) _ fun H3 e3 => ⟨i, j, rfl, q H3 (e2.trans e3)⟩
theorem ev_max {i j : Int} (ha : Ev ta σ H (.int i)) (hb : Ev tb σ H (.int j)) : Ev (tCB (fun xs H Q => ∃ i j, xs = [.int i, .int j] ∧ Q (.int (if j > i then j else i)) H) (tCons ta (tCons tb tNil))) σ H (.int (if j > i then j else i)) := fun H1 e Q q =>
  ha H1 e _ fun H2 e2 => hb H2 (e.trans e2) _ fun H3 e3 => ⟨i, j, rfl, q H3 (e2.trans e3)⟩
/-- int(flag), int(n) -/
theorem ev_intB {b : Bool} (ha : Ev ta σ H (.bl b)) : Ev (tCB (fun xs H Q => (∃ i, xs = [.int i] ∧ Q (.int i) H) ∨ ∃ k, xs = [.bl k] ∧ Q (.int (if k then 1 else 0)) H) (tCons ta tNil)) σ H (.int (if b then 1 else 0)) := fun H1 e Q q =>
  ha H1 e _ fun H2 e2 => .inr ⟨b, rfl, q H2 e2⟩
theorem RetV.mono {Q : VK} (e : Ex H H') (k : RetV v H Q) : RetV v H' Q := fun H2 e2 => k H2 (e.trans e2)
/-- [a, b, ..][i] -/
theorem ev_pick {ta : TA} {vs : List V} {i : Int} (ha : EvA ta σ H vs) (hb : ∀ H1, Ex H H1 → Ev tb σ H1 (.int i)) (h0 : 0 ≤ i) (hi : vs[i.toNat]? = some z) (hl : vs.length ≤ 100000 := by decide) : Ev (tOp (rIxL K) (tLst ta) tb) σ H z :=
  ev_opL1 (el_lst ha hl) hb fun _ _ hp _ => rv_ixL' (sq_of hp) h0 hi
theorem EvA.one {te : TE} (h : Ev te σ H v) : EvA (tCons te tNil) σ H [v] := ea_cons h ea_nil
end

/-! defs, called -/
/-- the def at f keeps its promise, by at most level k -/
def junk : FuncData := PySem.W.fnOf "x" "x" (defArgs (.Pass ⟨0, 0, 0, 0⟩)) [] (defScope (.Pass ⟨0, 0, 0, 0⟩)) .none .none .none .none none .none .none
def fdOf (K : PySem.W.Frag) (f : Addr) : FuncData := match K.lookup f with
  | some o => (match o.data with
    | .func fd => fd
    | _ => junk)
  | none => junk
theorem fdOf_eq {K : PySem.W.Frag} {f : Addr} {fd : FuncData} {oc : Value} {od : Option Addr} {osl : Array (Option Value)} (h : K.lookup f = some ⟨oc, od, .func fd, osl⟩) : fdOf K f = fd := by
  unfold fdOf
  rw [h]
def DefC (CX : CXT) (P : Program) (w : World) (K : PySem.W.Frag) (mg : Str → Option Value) (base : Heap) (k : Nat) (f : Addr) (ps : List Str) (sp : Sp) : Prop :=
  FnOk P w K mg base CX k f (fdOf K f) ps sp ∧ (∀ us : List Value, us.length = ps.length → bindArgs (fdOf K f) ⟨us, []⟩ = pure (ps.zip us)) ∧ PySem.W.keepIn K (.ref f) = true
/-- what it lets out was raised where nothing was handled -/
abbrev Def (P : Program) (w : World) (K : PySem.W.Frag) (mg : Str → Option Value) (base : Heap) (k : Nat) (f : Addr) (ps : List Str) (sp : Sp) : Prop := DefC (L2N.CX P w) P w K mg base k f ps sp
theorem passN {X : Cx} : Passes (L2N.CX X.prog X.w) X E0 := fun _ _ _ _ _ _ _ h => by
  obtain ⟨_, _, _, _, _, _, _, _, _, _, _, _, z⟩ := h
  exact z.elim
theorem takesN0 {X : Cx} : L2N.Takes X (fun _ _ _ _ => False) := fun _ _ x => by
  obtain ⟨_, _, _, _, _, _, _, _, _, _, _, _, _, _, _, _, z⟩ := x
  exact z.elim
section
variable {P : Program} {w : World} {K : PySem.W.Frag} {mg : Str → Option Value} {base : Heap} {f : Addr} {x qual : Str} {st : Stmt} {N ps : List Str} {k : Nat} {sp : Sp}
abbrev BindsTx (x qual : Str) (st : Stmt) (ps : List Str) : Prop :=
  ∀ (kV doc pm : Value) (an : Option Addr) (cdv ct : Value) (us : List Value), us.length = ps.length → bindArgs (PySem.W.fnOf x qual (defArgs st) (defBody st) (defScope st) .none kV doc pm an cdv ct) ⟨us, []⟩ = pure (ps.zip us)
/-- a def that may raise -/
theorem def_mkC {CX : CXT} (F : ∃ fd, Fun K x qual st f fd) (S : FnScope N ps (defScope st)) (hb : BindsTx x qual st ps) (len : ∀ vs H Q E, sp vs H Q E → vs.length = ps.length)
    (hbody : ∀ (cdv : Value) (A : Around) (outer : List Env) (s : Shared) (H : Hp) (vs : List V) (Q : VK) (E : XK), Room k (A.deeper (PyProof.Rows.envOfC qual (defScope st) s.heap.objs.size f cdv)) → sp vs H Q E →
      ∃ t, PSs (cxOf CX P w K mg base N qual (defScope st) f cdv A outer s H E) (defBody st) t ∧ t { nx := fun _ H' => Q .non H', rt := Q } (start N vs) H) : DefC CX P w K mg base (k + 1) f ps sp := by
  obtain ⟨fd, F⟩ := F
  have e : fdOf K f = fd := by
    obtain ⟨_, _, _, _, _, _, _, _, _, _, h, _⟩ := F.ex
    exact fdOf_eq h
  unfold DefC
  rw [e]
  have kp := F.kp
  obtain ⟨oc, od, kV, doc, pm, an, cdv, ct, osl, rfl, lk, hcd⟩ := F.ex
  exact ⟨fn_of lk hcd S len fun A outer s H vs Q E hr hsp => hbody cdv A outer s H vs Q E hr hsp, hb kV doc pm an cdv ct, kp⟩
theorem def_mkX (F : ∃ fd, Fun K x qual st f fd) (S : FnScope N ps (defScope st)) (hb : BindsTx x qual st ps) (len : ∀ vs H Q E, sp vs H Q E → vs.length = ps.length)
    (hbody : ∀ (cdv : Value) (A : Around) (outer : List Env) (s : Shared) (H : Hp) (vs : List V) (Q : VK) (E : XK), Room k (A.deeper (PyProof.Rows.envOfC qual (defScope st) s.heap.objs.size f cdv)) → sp vs H Q E →
      ∃ t, PSs (cxOf (L2N.CX P w) P w K mg base N qual (defScope st) f cdv A outer s H E) (defBody st) t ∧ t { nx := fun _ H' => Q .non H', rt := Q } (start N vs) H) : Def P w K mg base (k + 1) f ps sp := def_mkC F S hb len hbody
/-- a def out of which nothing is raised -/
theorem def_mk (F : ∃ fd, Fun K x qual st f fd) (S : FnScope N ps (defScope st)) (hb : BindsTx x qual st ps) (len : ∀ vs H Q E, sp vs H Q E → vs.length = ps.length)
    (hbody : ∀ (cdv : Value) (A : Around) (outer : List Env) (s : Shared) (H : Hp) (vs : List V) (Q : VK) (E : XK), Room k (A.deeper (PyProof.Rows.envOfC qual (defScope st) s.heap.objs.size f cdv)) → sp vs H Q E →
      ∃ t, PSs (cxOf (L2N.CX P w) P w K mg base N qual (defScope st) f cdv A outer s H E).nox (defBody st) t ∧ t { nx := fun _ H' => Q .non H', rt := Q } (start N vs) H) : Def P w K mg base (k + 1) f ps sp :=
  def_mkX F S hb len fun cdv A outer s H vs Q E hr h => by
    obtain ⟨t, h1, h2⟩ := hbody cdv A outer s H vs Q E hr h
    exact ⟨t, h1.nox, h2⟩
theorem DefC.imp {CX : CXT} {sp' : Sp} (D : DefC CX P w K mg base k f ps sp) (h : ∀ vs H Q E, sp' vs H Q E → sp vs H Q E) : DefC CX P w K mg base k f ps sp' := by
  obtain ⟨F, b, kp⟩ := D
  exact ⟨F.imp h, b, kp⟩
theorem DefC.mono {CX : CXT} {j : Nat} (D : DefC CX P w K mg base j f ps sp) (h : j ≤ k) : DefC CX P w K mg base k f ps sp := by
  obtain ⟨F, b, kp⟩ := D
  exact ⟨F.mono h, b, kp⟩
end
section
variable {X : Cx} {CX : CXT} {k n : Nat} {f C : Addr} {ps : List Str} {sp : Sp} {E : XK} {x m : Str} {p pos apos : Pos} {e o : Expr} {es : List Expr} {ta : TE} {t : TA}
/-- f(e, ..), what it raises being wished for by E -/
theorem pcX (D : DefC CX X.prog X.w X.K X.mg X.base k f ps sp) (hr : Room n X.A) (hm : X.mg x = some (.ref f)) (hx : Passes CX X E) (ha : PA X (e :: es) t) (hg : Gl X x := by rfl) (hk : k ≤ n := by decide)
    (hdb : (x == ("__debug__" : Str)) = false := by decide) (he : starEach (e :: es) X.env = (false, eval e X.env) :: starEach es X.env := by rfl) (hpl : (backTo pos (starEach es X.env)).any (·.1) = false := by rfl) :
    PE X (.Call (.Name x p) (e :: es) [] pos) (tCall sp [] E t) := by
  obtain ⟨F, b0, kp⟩ := D
  have b := Binds.all (K := X.K) b0
  exact pe_call F (hr.mono hk) hg hm kp b .nil hx ha hdb he hpl
theorem pc (D : Def X.prog X.w X.K X.mg X.base k f ps sp) (hr : Room n X.A) (hm : X.mg x = some (.ref f)) (ha : PA X (e :: es) t) (hg : Gl X x := by rfl) (hk : k ≤ n := by decide)
    (hdb : (x == ("__debug__" : Str)) = false := by decide) (he : starEach (e :: es) X.env = (false, eval e X.env) :: starEach es X.env := by rfl) (hpl : (backTo pos (starEach es X.env)).any (·.1) = false := by rfl) :
    PE X (.Call (.Name x p) (e :: es) [] pos) (tCall sp [] E0 t) := pcX D hr hm passN ha hg hk hdb he hpl
/-- o.m(e, ..) -/
theorem pmX {pl : Sem Bool} (he : PE X o ta) (c : Cls X.K C) (hm : Meth X.K C m f) (D : DefC CX X.prog X.w X.K X.mg X.base k f ps sp) (hr : Room n X.A) (hx : Passes CX X E) (ha : PA X (e :: es) t) (hk : k ≤ n := by decide)
    (hst : starEach (e :: es) X.env = (false, eval e X.env) :: starEach es X.env := by rfl) (hpl : (backTo pos (starEach es X.env)).any (·.1) = false := by rfl)
    (ht : eval (.Call (.Attribute o m apos) (e :: es) [] pos) X.env = (do
      let ov ← eval o X.env
      standAt apos.atName
      let (f, first) ← holding [ov] (getMethod ov m pl)
      callWith pos f first (backTo pos (starEach (e :: es) X.env)) (backToKw pos (keywordEach [] X.env))) := by rfl) :
    PE X (.Call (.Attribute o m apos) (e :: es) [] pos) (tMeth C m sp [] E ta t) := by
  obtain ⟨F, b0, kp⟩ := D
  have b := Binds.all (K := X.K) b0
  exact pe_meth he c hm F (hr.mono hk) b .nil hx ha hst hpl ht
theorem pm {pl : Sem Bool} (he : PE X o ta) (c : Cls X.K C) (hm : Meth X.K C m f) (D : Def X.prog X.w X.K X.mg X.base k f ps sp) (hr : Room n X.A) (ha : PA X (e :: es) t) (hk : k ≤ n := by decide)
    (hst : starEach (e :: es) X.env = (false, eval e X.env) :: starEach es X.env := by rfl) (hpl : (backTo pos (starEach es X.env)).any (·.1) = false := by rfl)
    (ht : eval (.Call (.Attribute o m apos) (e :: es) [] pos) X.env = (do
      let ov ← eval o X.env
      standAt apos.atName
      let (f, first) ← holding [ov] (getMethod ov m pl)
      callWith pos f first (backTo pos (starEach (e :: es) X.env)) (backToKw pos (keywordEach [] X.env))) := by rfl) :
    PE X (.Call (.Attribute o m apos) (e :: es) [] pos) (tMeth C m sp [] E0 ta t) := pmX he c hm D hr passN ha hk hst hpl ht
/-- o.m() -/
theorem pm0X {pl : Sem Bool} (he : PE X o ta) (c : Cls X.K C) (hm : Meth X.K C m f) (D : DefC CX X.prog X.w X.K X.mg X.base k f ps sp) (hr : Room n X.A) (hx : Passes CX X E) (hk : k ≤ n := by decide)
    (ht : eval (.Call (.Attribute o m apos) [] [] pos) X.env = (do
      let ov ← eval o X.env
      standAt apos.atName
      let (f, first) ← holding [ov] (getMethod ov m pl)
      callWith pos f first (backTo pos (starEach [] X.env)) (backToKw pos (keywordEach [] X.env))) := by rfl) :
    PE X (.Call (.Attribute o m apos) [] [] pos) (tMeth C m sp [] E ta tNil) := by
  obtain ⟨F, b0, kp⟩ := D
  have b := Binds.all (K := X.K) b0
  exact pe_meth0 he c hm F (hr.mono hk) b .nil hx ht
theorem pm0 {pl : Sem Bool} (he : PE X o ta) (c : Cls X.K C) (hm : Meth X.K C m f) (D : Def X.prog X.w X.K X.mg X.base k f ps sp) (hr : Room n X.A) (hk : k ≤ n := by decide)
    (ht : eval (.Call (.Attribute o m apos) [] [] pos) X.env = (do
      let ov ← eval o X.env
      standAt apos.atName
      let (f, first) ← holding [ov] (getMethod ov m pl)
      callWith pos f first (backTo pos (starEach [] X.env)) (backToKw pos (keywordEach [] X.env))) := by rfl) :
    PE X (.Call (.Attribute o m apos) [] [] pos) (tMeth C m sp [] E0 ta tNil) := pm0X he c hm D hr passN hk ht
/-- C(e, ..) -/
theorem pmkX (M : Mk X.K C f) (D : DefC CX X.prog X.w X.K X.mg X.base k f ps sp) (hr : Room n X.A) (hm : X.mg x = some (.ref C)) (hx : Passes CX X E) (ha : PA X (e :: es) t) (hg : Gl X x := by rfl) (hk : k + 1 ≤ n := by decide)
    (hdb : (x == ("__debug__" : Str)) = false := by decide) (he : starEach (e :: es) X.env = (false, eval e X.env) :: starEach es X.env := by rfl) (hpl : (backTo pos (starEach es X.env)).any (·.1) = false := by rfl) :
    PE X (.Call (.Name x p) (e :: es) [] pos) (tMake C sp [] E t) := by
  obtain ⟨F, b0, kp⟩ := D
  have b := Binds.all (K := X.K) b0
  exact pe_make M F (hr.mono hk) hg hm b .nil hx ha hdb he hpl
theorem pmk0 (M : Mk X.K C f) (D : Def X.prog X.w X.K X.mg X.base k f ps sp) (hr : Room n X.A) (hm : X.mg x = some (.ref C)) (hg : Gl X x := by rfl) (hk : k + 1 ≤ n := by decide)
    (hdb : (x == ("__debug__" : Str)) = false := by decide) : PE X (.Call (.Name x p) [] [] pos) (tMake C sp [] E0 tNil) := by
  obtain ⟨F, b0, kp⟩ := D
  have b := Binds.all (K := X.K) b0
  exact pe_make0 M F (hr.mono hk) hg hm b .nil passN hdb
end
section
variable {K : PySem.W.Frag} {σ : L2.St} {H H' : Hp} {ta tb te tx : TE} {t u : TT} {x y z v : V}
/-- o.m(..) as a value -/
theorem ev_meth {C a dx : Addr} {m : Str} {sp : Sp} {E : XK} {fs : List (Str × V)} {tas : TA} {vs : List V} (ha : Ev ta σ H (.ref a)) (hi : H a = some (.ins C dx fs)) (hl : fs.lookup m = none) (h : EvA tas σ H vs) (hs : SpV sp (.ref a :: (vs ++ [])) H z) :
    Ev (tMeth C m sp [] E ta tas) σ H z := fun H1 e Q q =>
  ha H1 e _ fun H2 e2 => ⟨a, dx, fs, rfl, (e.trans e2) _ _ hi, hl, h H2 (e.trans e2) _ fun H3 e3 => hs H3 ((e.trans e2).trans e3) Q (fun H4 e4 => q H4 ((e2.trans e3).trans e4)) E⟩
/-- o.f -/
theorem ev_fld {C a dx : Addr} {f : Str} {fs : List (Str × V)} (ha : Ev ta σ H (.ref a)) (hi : H a = some (.ins C dx fs)) (c : Cls K C) (n : NoAttr K C f) (hl : fs.lookup f = some v) : Ev (tFld K ta f) σ H v := fun H1 e Q q =>
  ha H1 e _ fun H2 e2 => ⟨a, C, dx, fs, v, rfl, (e.trans e2) _ _ hi, c, n, hl, q H2 e2⟩
end

section
variable {P : Program} {w : World} {K : PySem.W.Frag} {mg : Str → Option Value} {base : Heap} {f : Addr} {ps : List Str} {k : Nat} {sp : Sp}
theorem cx_no {outer : List Env} {H : Hp} {s : Shared} {u : Value} {s' : Shared} (h : L2N.CX P w outer H s E0 u s') : False := by
  obtain ⟨_, _, _, _, _, _, _, _, _, _, _, _, z⟩ := h
  exact z
/-- a def out of which nothing comes, at the law's end -/
theorem fnok_law {fd : FuncData} (F : FnOk P w K mg base (L2N.CX P w) k f fd ps sp) (h : ∀ vs H Q E, sp vs H Q E → sp vs H Q E0) : FnOk P w K mg base CX0 k f fd ps sp := by
  refine ⟨F.len, fun A outer s H args us vs Q E hr e0 hb r hsp => ?_⟩
  refine codeAny_mono (F.run A outer s H args us vs Q E0 hr e0 hb r (h _ _ _ _ hsp)) fun x s' q => ?_
  cases x with
  | error e => exact (cx_no q).elim
  | ok fl => cases fl <;> exact q
theorem DefC.law (D : ∀ base : Heap, K.In base → base.Ns mainGlobals mg → Def P w K mg base k f ps sp) (h : ∀ vs H Q E, sp vs H Q E → sp vs H Q E0) (base : Heap) (hb : K.In base) (hn : base.Ns mainGlobals mg) : FnOk P w K mg base CX0 k f (fdOf K f) ps sp := fnok_law (D base hb hn).1 h
end

/-! more rules -/
section
variable {X : Cx} {x : Str} {pos : Pos}
theorem pg_int {i : Int} (h : ∃ t, X.mg x = some (.int i t)) (hg : Gl X x := by rfl) (hd : (x == ("__debug__" : Str)) = false := by decide) : PE X (.Name x pos) (tC (.int i)) := by
  obtain ⟨t, h⟩ := h
  exact pe_glob hg h ⟨_, rfl⟩ hd
theorem pg_str {z : Str} (h : ∃ t, X.mg x = some (.str z t)) (hg : Gl X x := by rfl) (hd : (x == ("__debug__" : Str)) = false := by decide) : PE X (.Name x pos) (tC (.str z)) := by
  obtain ⟨t, h⟩ := h
  exact pe_glob hg h ⟨_, rfl⟩ hd
/-- x is True -/
def rIsTrue : R2 := fun x y H Q => y = .bl true ∧ Q (.bl (decide (x = .bl true))) H
theorem relTrue {x : V} {v : Value} (r : RelV x v) : (v == Value.bool true) = decide (x = .bl true) := by
  cases x with
  | bl b => cases r; cases b <;> rfl
  | non => cases r; rfl
  | int _ => obtain ⟨t, rfl⟩ := r; rfl
  | str _ => obtain ⟨t, rfl⟩ := r; rfl
  | byt _ => obtain ⟨t, rfl⟩ := r; rfl
  | flt _ => obtain ⟨t, rfl⟩ := r; rfl
  | ref _ => cases r; rfl
  | ty _ => cases r; rfl
theorem op_is_True : OpR X (compareOp .Is) rIsTrue := by
  intro pins s σ H x y v u Q I rx ry h
  obtain ⟨rfl, q⟩ := h
  cases (show u = Value.bool true from ry)
  have hp : plainIs v (.bool true) = true := by
    cases x with
    | bl b => cases rx; rfl
    | non => cases rx; rfl
    | int _ => obtain ⟨t, rfl⟩ := rx; rfl
    | str _ => obtain ⟨t, rfl⟩ := rx; rfl
    | byt _ => obtain ⟨t, rfl⟩ := rx; rfl
    | flt _ => obtain ⟨t, rfl⟩ := rx; rfl
    | ref _ => cases rx; rfl
    | ty _ => cases rx; rfl
  exact wpAny_is_plain hp ⟨.bl _, H, I, rfl, by rw [relTrue rx]; exact q⟩
end
section
variable {K : PySem.W.Frag} {σ : L2.St} {H H' : Hp} {ta tb te tx : TE} {t u : TT} {x y z v : V}
theorem rv_isTrue : RV rIsTrue x (.bl true) H (.bl (decide (x = .bl true))) := rv_val fun _ _ _ q => ⟨rfl, q⟩
theorem rv_isN : RV (fun x y H Q => y = .non ∧ Q (.bl (decide (x = .non))) H) x .non H (.bl (decide (x = .non))) := rv_val fun _ _ _ q => ⟨rfl, q⟩
/-- [e for x in range(lo, n) if t] -/
theorem el_lcR2 {ta : TA} {j : Nat} {vs : List Nat} {lo n : Int} (f : Nat → Bool) (v : Nat → V) (h : EvA ta σ H [.int lo, .int n]) (hn : 0 ≤ lo ∧ lo ≤ 40000 ∧ -40000 ≤ n ∧ n ≤ 40000) (hw : ∀ x, wipe ((wipe σ vs).set j (some x)) vs = wipe σ vs)
    (ht : ∀ (i : Nat) H1, Ex H H1 → lo + (i : Int) < n → EvT t ((wipe σ vs).set j (some (.int (lo + (i : Int))))) H1 (f i)) (he : ∀ (i : Nat) H1, Ex H H1 → lo + (i : Int) < n → f i = true → Ev te ((wipe σ vs).set j (some (.int (lo + (i : Int))))) H1 (v i)) :
    EvL (tLc (iRng2 ta) (gName j) t te vs) σ H (given (n - lo).toNat f v) := fun H0 e Q q => h H0 e _ fun H1 e1 => ⟨lo, n, rfl, ⟨by omega, by omega, by omega, by omega⟩, fun Dl hD =>
  lc_range (lo := lo) (n := (n - lo).toNat) (Cw H1 f v Dl) ⟨hD, Ex.new hD, upd_same⟩ (fun i H' hi p => ⟨hw _, cw_turn p (by omega) (ht i H1 (e.trans e1) (by omega)) (fun hf => he i H1 (e.trans e1) (by omega) hf)⟩) (fun H' p => q Dl H' (fresh_back e1 p.1) (e1.trans p.2.1) p.2.2)⟩
theorem et_yes : EvT tYes σ H true := fun H1 _ _ q => q H1 (Ex.refl H1)
theorem given_all (n : Nat) (v : Nat → V) : given n (fun _ => true) v = (List.range n).map v := by
  unfold given
  rw [List.filter_eq_self.mpr (fun _ _ => rfl)]
theorem ev_lenT {p : Addr} {xs : List V} (ha : Ev ta σ H (.ref p)) (h : SqT K H p xs) : Ev (tCB (rLenS K) (tCons ta tNil)) σ H (.int (xs.length : Int)) := fun H1 e Q q =>
  ha H1 e _ fun H2 e2 => ⟨p, xs, rfl, Or.inr (ex_t (e.trans e2) h), q H2 e2⟩
theorem rv_ixSL {p : Addr} {xs : List V} {j : Nat} (h : SqL K H p xs) (ha : xs[j]? = some v) : RV (rIx K) (.ref p) (.int (j : Int)) H v := fun H1 e _ q => .inl ⟨p, xs, _, v, rfl, rfl, ex_l e h, atI_nat ha, q H1 (Ex.refl H1)⟩
theorem rv_ixST {p : Addr} {xs : List V} {j : Nat} (h : SqT K H p xs) (ha : xs[j]? = some v) : RV (rIx K) (.ref p) (.int (j : Int)) H v := fun H1 e _ q => .inr (.inl ⟨p, xs, _, v, rfl, rfl, ex_t e h, atI_nat ha, q H1 (Ex.refl H1)⟩)
theorem v_int {i j : Int} (e : i = j) (h : Ev te σ H (.int i)) : Ev te σ H (.int j) := by
  rw [← e]
  exact h
/-- an expression's new list let go -/
theorem s_dropL {D : Ends} {xs : List V} (h : EvL te σ H xs) (k : ∀ p H1, H p = none → Ex H H1 → H1 p = some (.lst xs) → D.nx σ H1) : tDrop te D σ H := h H (Ex.refl H) _ fun p H1 hp e h1 => k p H1 hp e h1
theorem q_dropL {D : Ends} {tz : TS} {xs : List V} (h : EvL te σ H xs) (k : ∀ p H1, H p = none → Ex H H1 → H1 p = some (.lst xs) → tz D σ H1) : tSeq (tDrop te) tz D σ H := s_dropL (D := { D with nx := tz D }) h k
/-- which items of a typed list, and what of them -/
theorem given_list {α : Type} (p : α → Bool) (u : α → V) : ∀ l : List α, given l.length (fun i => match l[i]? with | some a => p a | none => false) (fun i => match l[i]? with | some a => u a | none => .non) = (l.filter p).map u
  | [] => rfl
  | a :: l => by
    have ih := given_list p u l
    unfold given at ih ⊢
    rw [List.length_cons, List.range_succ_eq_map, List.filter_cons, List.filter_map, List.filter_cons]
    have e1 : (match (a :: l)[0]? with | some a => p a | none => false) = p a := rfl
    rw [e1]
    by_cases h : p a = true
    · rw [if_pos h, if_pos h, List.map_cons, List.map_cons, List.map_map]
      exact congrArg (List.cons (u a)) ih
    · rw [if_neg h, if_neg h, List.map_map]
      exact ih
/-- [e for x in xs if t], xs a list of typed things -/
theorem el_lcF {α : Type} {a : Addr} {l : List α} {gv : α → V} {tl : TE} {j : Nat} {vs : List Nat} (p : α → Bool) (u : α → V) (h : Ev tl σ H (.ref a)) (hx : SqL K H a (l.map gv)) (hz : l.length ≤ 40000) (hw : ∀ x, wipe ((wipe σ vs).set j (some x)) vs = wipe σ vs)
    (ht : ∀ x H1, x ∈ l → Ex H H1 → EvT t ((wipe σ vs).set j (some (gv x))) H1 (p x)) (he : ∀ x H1, x ∈ l → Ex H H1 → p x = true → Ev te ((wipe σ vs).set j (some (gv x))) H1 (u x)) : EvL (tLc (iList K tl) (gName j) t te vs) σ H ((l.filter p).map u) := by
  have g := el_lcL (te := te) (t := t) (fun i => match l[i]? with | some a => p a | none => false) (fun i => match l[i]? with | some a => u a | none => .non) h hx (by rw [List.length_map]; exact hz) hw (fun i x H1 e hi => ?_) (fun i x H1 e hi hf => ?_)
  · rw [List.length_map, given_list] at g
    exact g
  · rw [List.getElem?_map] at hi
    cases q : l[i]? with
    | none =>
      rw [q] at hi
      cases hi
    | some b =>
      rw [q] at hi
      cases hi
      exact ht b H1 (List.mem_of_getElem? q) e
  · rw [List.getElem?_map] at hi
    cases q : l[i]? with
    | none =>
      rw [q] at hi
      cases hi
    | some b =>
      rw [q] at hi hf
      cases hi
      exact he b H1 (List.mem_of_getElem? q) e hf
/-- .. a new list -/
theorem el_lcNF {α : Type} {l : List α} {gv : α → V} {tl : TE} {j : Nat} {vs : List Nat} (p : α → Bool) (u : α → V) (h : EvL tl σ H (l.map gv)) (hz : l.length ≤ 40000) (hw : ∀ x, wipe ((wipe σ vs).set j (some x)) vs = wipe σ vs)
    (ht : ∀ x H1, x ∈ l → Ex H H1 → EvT t ((wipe σ vs).set j (some (gv x))) H1 (p x)) (he : ∀ x H1, x ∈ l → Ex H H1 → p x = true → Ev te ((wipe σ vs).set j (some (gv x))) H1 (u x)) : EvL (tLc (iList K tl) (gName j) t te vs) σ H ((l.filter p).map u) := by
  have g := el_lcNL (K := K) (te := te) (t := t) (fun i => match l[i]? with | some a => p a | none => false) (fun i => match l[i]? with | some a => u a | none => .non) h (by rw [List.length_map]; exact hz) hw (fun i x H1 e hi => ?_) (fun i x H1 e hi hf => ?_)
  · rw [List.length_map, given_list] at g
    exact g
  · rw [List.getElem?_map] at hi
    cases q : l[i]? with
    | none =>
      rw [q] at hi
      cases hi
    | some b =>
      rw [q] at hi
      cases hi
      exact ht b H1 (List.mem_of_getElem? q) e
  · rw [List.getElem?_map] at hi
    cases q : l[i]? with
    | none =>
      rw [q] at hi
      cases hi
    | some b =>
      rw [q] at hi hf
      cases hi
      exact he b H1 (List.mem_of_getElem? q) e hf
theorem filter_yes {α : Type} (l : List α) : l.filter (fun _ => true) = l := List.filter_eq_self.mpr fun _ _ => rfl
theorem rv_pow {i j : Int} (h : 0 ≤ j ∧ j ≤ 1000000 ∧ i.natAbs < 2 ^ 64) : RV (rI CPow fun i j => .int (i ^ j.toNat)) (.int i) (.int j) H (.int (i ^ j.toNat)) := rv_I h
theorem ev_takeS {l : List Nat} {n : Nat} (h : Ev te σ H (.str (SX.S l))) (hn : Ev tx σ H (.int (n : Int))) (hl : l.length ≤ 4000000 := by omega) : Ev (tSl rSlS te tNoPart (tPart tx)) σ H (.str (SX.S (l.take n))) := by
  have g := ev_sliceS h hl eo_none (eo_some hn)
  rw [cut_to (Int.natCast_nonneg n), Int.toNat_natCast] at g
  exact g
theorem ev_dropS {l : List Nat} {n : Nat} (h : Ev te σ H (.str (SX.S l))) (hn : Ev tx σ H (.int (n : Int))) (hl : l.length ≤ 4000000 := by omega) : Ev (tSl rSlS te (tPart tx) tNoPart) σ H (.str (SX.S (l.drop n))) := by
  have g := ev_sliceS h hl (eo_some hn) eo_none
  rw [cut_from (Int.natCast_nonneg n), Int.toNat_natCast] at g
  exact g
theorem ev_midS {l : List Nat} {n m : Nat} (h : Ev te σ H (.str (SX.S l))) (hn : Ev tx σ H (.int (n : Int))) (hm : Ev tb σ H (.int (m : Int))) (hl : l.length ≤ 4000000 := by omega) : Ev (tSl rSlS te (tPart tx) (tPart tb)) σ H (.str (SX.S ((l.drop n).take (m - n)))) := by
  have g := ev_sliceS h hl (eo_some hn) (eo_some hm)
  rw [cut_mid (Int.natCast_nonneg n) (Int.natCast_nonneg m), Int.toNat_natCast, Int.toNat_natCast] at g
  exact g
end

/-! the same rules with the written part named apart (a block's context does not show it) -/
section
variable {X : Cx} {K : PySem.W.Frag} {e o l tg : Expr} {f : Str} {pos apos : Pos} {ta to tl te tx : TE}
theorem kop_in (h : X.K = K) : OpR X (compareOp .In) (rIn K false) := by
  subst h
  exact op_in_seq
theorem kop_notIn (h : X.K = K) : OpR X (compareOp .NotIn) (rIn K true) := by
  subst h
  exact op_notIn_seq
theorem kop_eqD (h : X.K = K) (hu : X.A.units + 64 < cLine) : OpR X (compareOp .Eq) (rEqD K) := by
  subst h
  exact op_eqD hu
theorem kop_neD (h : X.K = K) (hu : X.A.units + 64 < cLine) : OpR X (compareOp .NotEq) (rNeD K) := by
  subst h
  exact op_neD hu
theorem kix_list (h : X.K = K) : IxR X (rIxL K) := by
  subst h
  exact ix_list
theorem kix_tup (h : X.K = K) : IxR X (rIxT K) := by
  subst h
  exact ix_tup
theorem kix_seq (h : X.K = K) : IxR X (rIx K) := by
  subst h
  exact ix_seq
theorem ksl_list (h : X.K = K) : SlR X (rSlL K) := by
  subst h
  exact sl_list
theorem kcall_len (h : X.K = K) : CallR X (.builtin "len") (rLenS K) := by
  subst h
  exact call_len_seq
theorem kcall_isi (h : X.K = K) : CallR X (.builtin "isinstance") (rIsi K) := by
  subst h
  exact call_isi
theorem kcall_list (h : X.K = K) : CallR X (.type "list") (rListS K) := by
  subst h
  exact call_list_of
def rTupS (K : PySem.W.Frag) : List V → Hp → VK → Prop := fun xs H Q => ∃ p ys, xs = [.ref p] ∧ ((SqL K H p ys ∧ ∀ l, H l = none → Q (.ref l) (upd H l (.tup ys))) ∨ (SqT K H p ys ∧ Q (.ref p) H))
theorem kcall_tup (h : X.K = K) : CallR X (.type "tuple") (rTupS K) := by
  subst h
  exact call_tuple_of
theorem kpi_list (h : X.K = K) (hl : PE X l tl) : PI X tg l (iList K tl) := by
  subst h
  exact pi_list hl
theorem kpi_tup (h : X.K = K) (hl : PE X l tl) : PI X tg l (iTup K tl) := by
  subst h
  exact pi_tup hl
theorem kfld (h : X.K = K) (he : PE X e ta) (hb : attributeBase e f X.env (eval e X.env) = eval e X.env := by rfl) : PE X (.Attribute e f pos) (tFld K ta f) := by
  subst h
  exact pe_fld he hb
/-- sep.join(xs) -/
def rJoin (K : PySem.W.Frag) : V → List V → Hp → VK → Prop := fun x xs H Q => ∃ a p, ∃ ys : List Str, x = .str a ∧ xs = [.ref p] ∧ (SqL K H p (ys.map V.str) ∨ SqT K H p (ys.map V.str)) ∧ (ys.map (·.length)).sum + ys.length * a.length ≤ 16777216 ∧ Q (.str (Txt.join a ys)) H
theorem kjoin (h : X.K = K) (ho : PE X o to) (he : PE X e te) (hs : starEach [e] X.env = [(false, eval e X.env)] := by rfl) (hbase : attributeBase o "join" X.env (eval o X.env) = eval o X.env := by rfl) (hline : (apos.endLine == pos.line) = true := by rfl) :
    PE X (.Call (.Attribute o "join" apos) [e] [] pos) (tM1 (rJoin K) to te) := by
  subst h
  exact pe_join ho he hs hbase hline
/-- xs.append(e) -/
theorem kappend (h : X.K = K) {es : List Expr} {t : TA} {cpos : Pos} (ho : PE X o to) (ha : PA X (e :: es) t)
    (hbase : attributeBase o "append" X.env (eval o X.env) = eval o X.env := by rfl)
    (hfew : ((backTo cpos (starEach (e :: es) X.env)).all (fun x => !x.1) && (backToKw cpos (keywordEach [] X.env)).all (fun x => x.1.isSome) && decide ((e :: es).length + ([] : List Keyword).length + (if ([] : List Keyword).isEmpty then 0 else 1) < 30)) = true := by rfl)
    (hline : (apos.endLine == cpos.line) = true := by rfl) (hs : starEach (e :: es) X.env = (false, eval e X.env) :: starEach es X.env := by rfl) (hplain : (backTo cpos (starEach es X.env)).any (·.1) = false := by rfl) :
    PE X (.Call (.Attribute o "append" apos) (e :: es) [] cpos) (tBM K "list" rAppend to t) := by
  subst h
  exact pe_bm PySem.F.plainAttrs_list PySem.F.slot_list_append PySem.F.type_list_append mt_append ho ha hbase hfew hline hs hplain
theorem kextend (h : X.K = K) {es : List Expr} {t : TA} {cpos : Pos} (ho : PE X o to) (ha : PA X (e :: es) t)
    (hbase : attributeBase o "extend" X.env (eval o X.env) = eval o X.env := by rfl)
    (hfew : ((backTo cpos (starEach (e :: es) X.env)).all (fun x => !x.1) && (backToKw cpos (keywordEach [] X.env)).all (fun x => x.1.isSome) && decide ((e :: es).length + ([] : List Keyword).length + (if ([] : List Keyword).isEmpty then 0 else 1) < 30)) = true := by rfl)
    (hline : (apos.endLine == cpos.line) = true := by rfl) (hs : starEach (e :: es) X.env = (false, eval e X.env) :: starEach es X.env := by rfl) (hplain : (backTo cpos (starEach es X.env)).any (·.1) = false := by rfl) :
    PE X (.Call (.Attribute o "extend" apos) (e :: es) [] cpos) (tBM K "list" rExtend to t) := by
  subst h
  exact pe_bm PySem.F.plainAttrs_list PySem.F.slot_list_extend PySem.F.type_list_extend mt_extend ho ha hbase hfew hline hs hplain
end

/-- the slots written out -/
theorem at_ {t : TS} {D : Ends} {σ σ' : L2.St} {H : Hp} (e : σ = σ') (h : t D σ' H) : t D σ H := by
  rw [e]
  exact h
end Ck

set_option maxHeartbeats 4000000
namespace Ck
open PySem PySem.Spec PyProof.Rows L2 Evl

/-! ### own exceptions -/
def exNames : List Str := ["NoSize", "NoName", "NotThere", "NoPlace", "NoText", "TooLong", "TooMany", "NoNote"]
/-- what the written part says of the exception x -/
structure ExF (K : PySem.W.Frag) (mg : Str → Option Value) (x : Str) : Prop where
  gl : mg x = some (.ref (He.ga K x))
  ex : PySem.W.excIn K (He.ga K x) He.veBase "ValueError.__new__" = true
  kp : PySem.W.keepIn K (.ref (He.ga K x)) = true
  bs : PySem.W.subIn K (.ref (He.ga K x)) (.type "BaseException") = some true
  ty : PySem.W.typeIn K (.ref (He.ga K x)) = some (.type "type")
  up : PySem.W.exmOne K (.ref (He.ga K x)) (.ref (He.ga K "ShelfError")) = some true
  cc : ExcC K (He.ga K x)
  ve : PySem.W.kitOne K (.ref (He.ga K x)) (.type "ValueError") = some true
  is : ∀ y ∈ exNames, PySem.W.kitOne K (.ref (He.ga K x)) (.ref (He.ga K y)) = some (decide (y = x))
def exB (K : PySem.W.Frag) (x : Str) : Bool :=
  (He.Fa.exc x).ok K && (He.Fa.exm x "ShelfError" true).ok K &&
  (He.eqO (PySem.W.findIn K (.ref (He.ga K x)) "__getattribute__") (some (some (.builtin "BaseException.__getattribute__"))) && He.eqO (PySem.W.findIn K (.ref (He.ga K x)) "__getattr__") (some none) && PySem.W.hasDictIn K (He.ga K x)) &&
  (He.eqO (PySem.W.findIn K (.ref (He.ga K x)) "__class__") (some (some (.builtin "object.__class__"))) && He.eqO (PySem.W.specialIn K (.builtin "object.__class__") "__get__") (some (some (.builtin "getset_descriptor.__get__"))) &&
    decide (PySem.W.takesIn K (.builtin "object.__class__") = some true) && decide (PySem.W.mroIn K (He.ga K x) (.type "object") = some true)) &&
  decide (PySem.W.kitOne K (.ref (He.ga K x)) (.type "ValueError") = some true) && exNames.all fun y => decide (PySem.W.kitOne K (.ref (He.ga K x)) (.ref (He.ga K y)) = some (decide (y = x)))
theorem exF_of {K : PySem.W.Frag} {mg : Str → Option Value} {x : Str} (g : mg x = some (.ref (He.ga K x))) (h : exB K x = true) : ExF K mg x := by
  unfold exB at h
  simp only [Bool.and_eq_true] at h
  obtain ⟨⟨⟨⟨⟨h1, h2⟩, ⟨h3, h4⟩, h5⟩, ⟨⟨h6, h7⟩, h8⟩, h9⟩, h10⟩, h11⟩ := h
  obtain ⟨a1, a2, a3, a4⟩ := He.exc_ok h1
  exact ⟨g, a1, a2, a3, a4, He.exm_ok h2, ⟨He.eqO_ok h3, He.eqO_ok h4, a3, h5, He.eqO_ok h6, He.eqO_ok h7, of_decide_eq_true h8, of_decide_eq_true h9⟩, of_decide_eq_true h10, fun y hy => of_decide_eq_true (List.all_eq_true.mp h11 y hy)⟩
/-- X('m') -/
theorem pmk_e {X : Cx} {x m : Str} {j : Nat} {p p2 pos : Pos} (F : ExF X.K X.mg x) (hg : Gl X x := by rfl) (hdb : (x == ("__debug__" : Str)) = false := by decide) :
    L2N.PMk X (.Call (.Name x p) [.Constant (.str m) j p2] [] pos) (fun _ H Q => Q (.ref (He.ga X.K x)) none H) := L2N.pmk_own PySem.F.excBase_ValueError F.ex F.gl F.kp (raises_own F.bs F.ty) hg hdb
/-- what is let out -/
def Rz (K : PySem.W.Frag) (x : Str) (H : Hp) (E : XK) : Prop := ∀ H', Ex H H' → E (.ref (He.ga K x)) none H'

/-! ### calls in a try's body -/
section
variable {X : Cx} {CX : CXT} {k n : Nat} {f C : Addr} {ps : List Str} {sp : Sp} {E : L2.St → XK} {x m : Str} {p pos apos : Pos} {e o : Expr} {es : List Expr} {ta : TE} {t : TA}
theorem pcS (D : DefC CX X.prog X.w X.K X.mg X.base k f ps sp) (hr : Room n X.A) (hm : X.mg x = some (.ref f)) (hx : ∀ σ, PassesAt CX X σ (E σ)) (ha : PA X (e :: es) t) (hg : Gl X x := by rfl) (hk : k ≤ n := by decide)
    (hdb : (x == ("__debug__" : Str)) = false := by decide) (he : starEach (e :: es) X.env = (false, eval e X.env) :: starEach es X.env := by rfl) (hpl : (backTo pos (starEach es X.env)).any (·.1) = false := by rfl) :
    PE X (.Call (.Name x p) (e :: es) [] pos) (tCallS sp E t) := pe_callS D.1 (hr.mono hk) hg hm D.2.2 (Binds.all D.2.1) hx ha hdb he hpl
theorem meth_run {pins : List (Addr × Obj)} {σ : L2.St} {H : Hp} {s : Shared} {Q : VK} {E : L2.St → XK} (D : DefC CX X.prog X.w X.K X.mg X.base k f ps sp) (hr : Room k X.A) (hx : ∀ σ, PassesAt CX X σ (E σ))
    (I : Inv X pins σ H s) {vs : List V} {us : List Value} (r : Vals vs us) (h : sp vs H Q (E σ)) : wpAny (model X.prog X.w) X.A (call (.ref f) us) (EP X pins σ Q) X.xe s :=
  run_fnS D.1 hr (Binds.all D.2.1) (hx σ) I r h
theorem pmS {pl : Sem Bool} (he : PE X o ta) (c : Cls X.K C) (hm : Meth X.K C m f) (D : DefC CX X.prog X.w X.K X.mg X.base k f ps sp) (hr : Room n X.A) (hx : ∀ σ, PassesAt CX X σ (E σ)) (ha : PA X (e :: es) t) (hk : k ≤ n := by decide)
    (hst : starEach (e :: es) X.env = (false, eval e X.env) :: starEach es X.env := by rfl) (hpl : (backTo pos (starEach es X.env)).any (·.1) = false := by rfl)
    (ht : eval (.Call (.Attribute o m apos) (e :: es) [] pos) X.env = (do
      let ov ← eval o X.env
      standAt apos.atName
      let (f, first) ← holding [ov] (getMethod ov m pl)
      callWith pos f first (backTo pos (starEach (e :: es) X.env)) (backToKw pos (keywordEach [] X.env))) := by rfl) :
    PE X (.Call (.Attribute o m apos) (e :: es) [] pos) (L2H.tMethH C m sp E ta t) := ⟨fun pins s σ H Q I h =>
  PySem.W.methodCall_KW (pl := pl) (thn (he.run pins s σ H _ I h) fun u s1 hh => by
    obtain ⟨x, H1, I1, rx, a, dx, fs, rfl, ea, l, q⟩ := hh
    cases rx
    exact getmeth_ok I1 ea c hm l (PySem.W.callWith_K (first := [.ref a]) (h₀ := X.base) I.ok.mod.kin hm.kp (thn (ha.run pos pins s1 σ H1 _ I1 q) fun us s2 h2 => by
      obtain ⟨vs, H2, I2, r, q2⟩ := h2
      exact ⟨I2.kIn, meth_run (us := .ref a :: us) (vs := .ref a :: vs) D (hr.mono hk) hx I2 (.cons rfl r) q2⟩) hst hpl)) ht⟩
end

/-! ### a def called in an except suite, of the exception that is handled; it lets nothing out -/
structure FnE (P : Program) (w : World) (K : PySem.W.Frag) (mg : Str → Option Value) (base : Heap) (k : Nat) (f : Addr) (fd : FuncData) (ps : List Str) (spe : Addr → Value → Option Addr → Sp) : Prop where
  len : ∀ a cls d vs H Q, spe a cls d vs H Q E0 → vs.length = ps.length
  run : ∀ (A : Around) (outer : List Env) (s : Shared) (H : Hp) (args : Args) (us : List Value) (vs : List V) (Q : VK) (p : Addr × Obj) (cls : Value) (d : Option Addr), L2H.RoomH k A → L2H.PinOk outer H s p → Zc cls d p.2 → (∃ vs, p.2.data = .fields vs) →
    Env0 P w K mg base A outer s H → BindsTo s fd args (ps.zip us) → Vals vs us → spe p.1 cls d vs H Q E0 → codeAny (model P w) A (.call (.ref f) args) (CR CX0 outer P w H s Q E0) s
def DefE (P : Program) (w : World) (K : PySem.W.Frag) (mg : Str → Option Value) (base : Heap) (k : Nat) (f : Addr) (ps : List Str) (spe : Addr → Value → Option Addr → Sp) : Prop :=
  FnE P w K mg base k f (fdOf K f) ps spe ∧ (∀ us : List Value, us.length = ps.length → bindArgs (fdOf K f) ⟨us, []⟩ = pure (ps.zip us)) ∧ PySem.W.keepIn K (.ref f) = true
section
variable {P : Program} {w : World} {K : PySem.W.Frag} {mg : Str → Option Value} {base : Heap} {f : Addr} {x qual : Str} {st : Stmt} {N ps : List Str} {k : Nat} {spe : Addr → Value → Option Addr → Sp}
theorem zip_kinds {scope : Scope} (S : FnScope N ps scope) {us : List Value} {c : Nat} : ∀ y ∈ ps.zip us, scope.names.lookup y.1 = some .local ∨ (scope.names.lookup y.1 = some .cell ∧ ((cellsFrom c scope.names []).lookup y.1).isSome = true) := by
  rintro ⟨n, v⟩ hy
  have hn := (List.of_mem_zip hy).1
  rcases S.par n hn with z | z
  · exact Or.inl z
  · exact Or.inr ⟨z, PySem.W.cellsFrom_some _ _ _ (Or.inl z)⟩
theorem def_mkE (F : ∃ fd, Fun K x qual st f fd) (S : FnScope N ps (defScope st)) (hb : BindsTx x qual st ps) (len : ∀ a cls d vs H Q, spe a cls d vs H Q E0 → vs.length = ps.length)
    (hbody : ∀ (cdv : Value) (A : Around) (outer : List Env) (s : Shared) (H : Hp) (vs : List V) (Q : VK) (p : Addr × Obj) (cls : Value) (d : Option Addr), L2H.RoomH k (A.deeper (PyProof.Rows.envOfC qual (defScope st) s.heap.objs.size f cdv)) → Zc cls d p.2 → (∃ vs, p.2.data = .fields vs) → spe p.1 cls d vs H Q E0 →
      ∃ t, PSs (L2H.cxH CX0 P w K mg base N qual (defScope st) f cdv A outer s H E0 p).nox (defBody st) t ∧ t { nx := fun _ H' => Q .non H', rt := Q } (start N vs) H) : DefE P w K mg base (k + 1) f ps spe := by
  obtain ⟨fd, F⟩ := F
  have efd : fdOf K f = fd := by
    obtain ⟨_, _, _, _, _, _, _, _, _, _, l, _⟩ := F.ex
    exact fdOf_eq l
  unfold DefE
  rw [efd]
  have kp := F.kp
  obtain ⟨oc, od, kV, doc, pm, an, cdv, ct, osl, rfl, lk, hcd⟩ := F.ex
  refine ⟨⟨len, ?_⟩, hb kV doc pm an cdv ct, kp⟩
  intro A outer s H args us vs Q p cls d hr hpin hz hf e0 hbt r hsp
  have stays : ∀ b o, base.get? b = some o → s.heap.get? b = some o := fun b o z => (e0.bs b o z).1
  have hin : K.In s.heap := e0.mod.kin.keeps stays
  have hnl : s.heap.NoLimit := e0.mod.nolimit.keeps stays
  refine codeAny_call_function hr.depth (hin _ _ lk) rfl S.co S.gen rfl (PySem.W.codeRec_of hin hcd) (hbt _ _ _ _ (wpAny_newFunctionEnv_cells S.kind (zip_kinds S) ?_))
  intro env he s1 x1
  subst he
  obtain ⟨t, h1, h2⟩ := hbody cdv A outer s H vs Q p cls d (hr.deeper _) hz hf hsp
  have I := L2H.inv_startH (CX := CX0) (E := E0) S hpin e0 (len _ _ _ _ _ _ hsp) r x1
  refine ⟨hnl.keeps x1.toInCall.keep, codeAny_func (wpAny_mono (h1.nox.run [] s1 _ H _ I h2) (fun fl s' hs => ?_) fun _ _ z => z)⟩
  match fl, hs with
  | .ret u, ⟨v, σ', H', J, rv, q⟩ => exact ⟨v, H', J.os, J.bare, J.base, J.hok, rv, q⟩
  | .next, ⟨σ', H', J, q⟩ => exact ⟨.non, H', J.os, J.bare, J.base, J.hok, (rfl : RelV .non Value.none), q⟩
  | .brk, ⟨_, _, _, q⟩ => exact q.elim
  | .cont, ⟨_, _, _, q⟩ => exact q.elim
end
section
variable {X : Cx} {k n : Nat} {f D a : Addr} {oe : Obj} {cls : Value} {d : Option Addr} {ps : List Str} {spe : Addr → Value → Option Addr → Sp} {x : Str} {p pos : Pos} {e : Expr} {es : List Expr} {t : TA}
theorem pcE (F : DefE X.prog X.w X.K X.mg X.base k f ps spe) (hr : L2H.RoomH n X.A) (hp : (a, oe) ∈ X.pn) (hz : Zc cls d oe) (hf : ∃ vs, oe.data = .fields vs) (hm : X.mg x = some (.ref f)) (ha : PA X (e :: es) t) (hg : Gl X x := by rfl) (hk : k ≤ n := by decide)
    (hdb : (x == ("__debug__" : Str)) = false := by decide) (he : starEach (e :: es) X.env = (false, eval e X.env) :: starEach es X.env := by rfl) (hpl : (backTo pos (starEach es X.env)).any (·.1) = false := by rfl) :
    PE X (.Call (.Name x p) (e :: es) [] pos) (tCall (spe a cls d) [] E0 t) := by
  obtain ⟨F, b0, kp⟩ := F
  refine ⟨fun pins s σ H Q I h => wpAny_Call_Name_kw (ld_glob I hg hm (PySem.W.callWith_K (h₀ := X.base) I.ok.mod.kin kp (thn (ha.run pos pins s σ H _ I h) fun us s1 hh => ?_) he hpl) hdb)⟩
  obtain ⟨vs, H1, I1, r, q⟩ := hh
  rw [List.append_nil] at q
  have hl : us.length = ps.length := by
    rw [← r.length]
    exact F.len _ _ _ _ _ _ q
  have b := Binds.all (K := X.K) b0 s1 us I1.kIn (by rw [List.append_nil]; exact hl)
  rw [List.append_nil] at b
  obtain ⟨z1, z2, z3, z4, z5⟩ := I1.pin (a, oe) (List.mem_append_left _ hp)
  have hpin : L2H.PinOk X.stack H1 s1 (a, oe) := ⟨z1, z2, fun hm => (List.mem_cons.mp (I1.stkSub a hm)).elim z3 z4, z5⟩
  refine ⟨I1.kIn, wpAny_call (codeAny_mono (F.run X.A X.stack s1 H1 ⟨us, []⟩ us vs Q (a, oe) cls d (hr.mono hk) hpin hz hf I1.env0 b r q) fun r s' hq => ?_)⟩
  match r, hq with
  | .error _, hq => exact hq.elim
  | .ok (.ret u), hq => exact I1.after hq
  | .ok .next, hq => exact hq.elim
  | .ok .brk, hq => exact hq.elim
  | .ok .cont, hq => exact hq.elim
theorem roomE {A : Around} {h : Option Value} (r : Room n A) : L2H.RoomH n (A.mark h) := ⟨r.dp, r.un⟩
/-- isinstance(e, c), e an exception that is pinned -/
theorem call_isP (C : ExcC X.K D) (hp : (a, oe) ∈ X.pn) (hz : Zc (.ref D) none oe) (hf : ∃ vs, oe.data = .fields vs) : CallR X (.builtin "isinstance") (rIsE X.K D a) := by
  intro pins s σ H xs us Q I r h
  obtain ⟨c, cv, b, rfl, hcv, e, q⟩ := h
  obtain ⟨u1, u2, rfl, r1, r2⟩ := vals2 r
  cases r1
  cases hcv _ r2
  obtain ⟨oc, od, oda, osl⟩ := oe
  obtain ⟨rfl, rfl⟩ : oc = Value.ref D ∧ od = none := hz
  obtain ⟨vs, rfl⟩ : ∃ vs, oda = .fields vs := hf
  have J : PySem.W.InstAt s.heap a ⟨.ref D, none, .fields vs, osl⟩ D none := ⟨(I.pin _ (List.mem_append_left _ hp)).1, rfl, rfl, trivial⟩
  refine PySem.W.kia_one (PySem.W.handS_kitx_exc C.hg C.hk C.hs C.hd C.ha C.hn C.ht C.hm) I.kIn J e (fun z => nomatch z) fun tk => ?_
  exact ⟨.bl b, H, I.kept (t' := tk) fun _ _ z => z, rfl, q⟩
end
section
variable {K : PySem.W.Frag} {mg : Str → Option Value} {σ : L2.St} {H H' : Hp} {ta tb te tx : TE} {t u : TT} {x y z v : V}
theorem ev_isO {n m : Str} {a : Addr} (F : ExF K mg n) (ha : Ev ta σ H (.ref a)) (hm : m ∈ exNames) : Ev (tCB (rIsE K (He.ga K n) a) (tCons ta (tCons (tC (.ref (He.ga K m))) tNil))) σ H (.bl (decide (m = n))) := fun H1 e Q q =>
  ha H1 e _ fun H2 e2 => ⟨.ref (He.ga K m), .ref (He.ga K m), _, rfl, fun u ru => by cases ru; rfl, F.is m hm, q H2 e2⟩
theorem ev_isV {n : Str} {a : Addr} (F : ExF K mg n) (ha : Ev ta σ H (.ref a)) : Ev (tCB (rIsE K (He.ga K n) a) (tCons ta (tCons (tC (.ty "ValueError")) tNil))) σ H (.bl true) := fun H1 e Q q =>
  ha H1 e _ fun H2 e2 => ⟨.ty "ValueError", .type "ValueError", _, rfl, fun u ru => by cases ru; rfl, F.ve, q H2 e2⟩
def RetU (xs : List V) (H : Hp) (Q : VK) : Prop := ∀ p H2, H p = none → Ex H H2 → H2 p = some (.tup xs) → Q (.ref p) H2
end
end Ck

set_option maxHeartbeats 4000000
namespace Ck
open PySem PySem.Spec PyProof.Rows L2 Evl

/-! ### sorted(d), d's keys ints, any number of them -/
def rSortedDN : List V → Hp → VK → Prop := fun xs H Q => ∃ (a : Addr) (kvs : List (Key × V)) (ks : List Int), xs = [.ref a] ∧ Rd H a (.dK kvs) ∧ kvs.map (·.1) = ks.map Sum.inl ∧
  ∀ (ys : List Int) (p : Addr), ys.Perm ks → ys.Pairwise (· ≤ ·) → H p = none → Q (.ref p) (upd H p (.lst (ys.map V.int)))
theorem keys_int {vs : List (Key × Value)} {ks : List Int} {us : List Value} (hl : us.length = ks.length) (hk : vs.map (·.1) = ks.map Sum.inl) (h : ∀ (j : Nat) (v : Value), us[j]? = some v → ∃ (k : Key) (x : Value), vs[j]? = some (k, x) ∧ keyIs k v = true) : IntsAre us ks :=
  ints_each hl fun j v e => by
    obtain ⟨k, x, e1, e2⟩ := h j v e
    have g : (ks.map (Sum.inl : Int → Key))[j]? = some k := by rw [← hk, List.getElem?_map, e1]; rfl
    rw [List.getElem?_map, Option.map_eq_some_iff] at g
    obtain ⟨y, ey, rfl⟩ := g
    rcases keyIs_shape e2 with ⟨i, t, ek, ev⟩ | ⟨z, t, ek, _⟩
    · cases ek
      exact ⟨y, t, ey, ev⟩
    · cases ek
theorem cr_sortedDN {X : Cx} (hcalm : X.calm = true) : CallR X (.builtin "sorted") rSortedDN := by
  intro pins s σ H xs us Q I r q
  obtain ⟨a, kvs, ks, rfl, hd, hks, q⟩ := q
  obtain ⟨u, rfl, rx⟩ := vals1 r
  cases rx
  obtain ⟨hz, lo, vs, rel, dd⟩ := dk_rd I.hok hd
  obtain ⟨ep, hat⟩ := dd.dictAt
  have hkv : vs.map (·.1) = ks.map Sum.inl := by rw [← hks]; exact rel.keys.symm
  have hlen : vs.length = ks.length := by simpa using congrArg List.length hkv
  have hsz : vs.length ≤ sizeLine := by rw [← rel.length]; exact hz
  refine Calls.call_function_entry PyProof.Rows.kind_sorted PyProof.Rows.plain_sorted PyProof.Rows.entry_sorted (PyProof.Rows.args_sorted1 _) ?_
  unfold Builtin.«sorted»
  refine wpAny_bind (m := checkCount "sorted" 1 1 _) (wpAny_pure (wpAny_bind (PySem.W.kdu_collect (A := X.A.in1) (PySem.W.kdl_dict (knd := mixKind X.prog X.w) (kvs := vs) (ep := ep) lo) (I.ok.hd hcalm) hat hsz fun h' tk acc hk hacc => ?_)))
  have I1 : Inv X pins σ H { s with heap := h', toks := tk } := I.kept hk
  have hL : acc.toList.length = ks.length := by rw [Array.length_toList, hacc.1, hlen]
  have hI : IntsAre acc.toList ks := keys_int hL hkv fun j v e => hacc.2 j v (by rw [← Array.getElem?_toList]; exact e)
  have hz2 : acc.toList.length ≤ sizeLine := by rw [hL, ← hlen]; exact hsz
  refine wpAny_bind (wpAny_newList ?_ hz2)
  have hob : (h'.push (seqObj "list" acc.toList.toArray 0)).get? h'.objs.size = some (seqObj "list" acc.toList.toArray 0) := Heap.get?_push_size _ rfl
  show wpAny _ _ _ _ _ { s with heap := h'.push (seqObj "list" acc.toList.toArray 0), toks := tk }
  refine wpAny_bind (wpAny_holding (wpAny_call_entry PyProof.Rows.slot_list_sort ⟨_, hob, rfl⟩ PyProof.Rows.entry_list_sort (SrtO.list_sort_ord (s := { s with heap := h'.push (seqObj "list" acc.toList.toArray 0), toks := tk }) SrtO.swo_int hob hz2 (fun h2 => SrtO.ints_sortable hI h2) fun out g1 g2 => ⟨_, rfl, ?_⟩) (PyProof.Rows.args_list_sort _)))
  obtain ⟨k1, k2, k3⟩ := SrtO.ints_out hI g1 g2
  obtain ⟨ep2, he2⟩ := PyProof.Rows.sortedHeap_at (vs := acc.toList) (out := out.toArray) hob
  have hfin : ((out.map SrtO.iv).map V.int).length ≤ sizeLine := by rw [List.length_map, k2.length_eq, ← hL]; exact hz2
  refine wpAny_pure ⟨_, rfl, .ref h'.objs.size, upd H h'.objs.size (.lst ((out.map SrtO.iv).map V.int)), I1.laid (t' := tk) (fun b u e => ?_) (Nat.le_refl _) ⟨hfin, out, ep2, vals_of_ints k1, he2⟩, rfl, q _ _ k2 k3 (I1.hok.fresh (Nat.le_refl _))⟩
  have hb : b < h'.objs.size := Heap.lt_size e
  exact (PyProof.Rows.sortedHeap_old (Nat.ne_of_lt hb) (by rw [size_push']; exact Nat.lt_succ_of_lt hb)).trans (Heap.get?_push_of_some _ e)
end Ck

set_option maxHeartbeats 4000000
namespace Ck
open PySem L2 Evl
/-! ### things that change -/
/-- all but S stays -/
def Mo (S : List Addr) (H H' : Hp) : Prop := ∀ x o, x ∉ S → H x = some o → H' x = some o
theorem _root_.Evl.Ex.mo {S : List Addr} {H H' : Hp} (e : Ex H H') : Mo S H H' := fun x o _ h => e x o h
theorem Mo.trans {S : List Addr} {H H1 H2 : Hp} (a : Mo S H H1) (b : Mo S H1 H2) : Mo S H H2 := fun x o n h => b x o n (a x o n h)
theorem Mo.put {S : List Addr} {H H1 : Hp} {a : Addr} {o : HO} (m : Mo S H H1) (h : a ∈ S) : Mo S H (upd H1 a o) := fun x u n hx => by
  rw [upd_ne (fun z => n (by rw [z]; exact h))]
  exact m x u n hx
theorem Mo.sub {S T : List Addr} {H H1 : Hp} (m : Mo S H H1) (h : ∀ x ∈ S, x ∈ T) : Mo T H H1 := fun x u n hx => m x u (fun z => n (h x z)) hx
theorem Mo.ex {H H1 : Hp} (m : Mo [] H H1) : Ex H H1 := fun x u hx => m x u (by simp) hx
theorem _root_.Evl.Ex.put {H H1 : Hp} {a : Addr} {o : HO} (e : Ex H H1) : Mo [a] H (upd H1 a o) := e.mo.put (List.mem_singleton.mpr rfl)
theorem Mo.ex0 {S : List Addr} {H0 H H1 : Hp} (m : Mo S H H1) (e : Ex H0 H) (f : ∀ x ∈ S, H0 x = none) : Ex H0 H1 := fun x o h => m x o (fun z => by rw [f x z] at h; cases h) (e x o h)
/-- what evaluates to a new thing -/
def EvN (te : TE) (σ : L2.St) (H : Hp) (o : HO) : Prop := ∀ H1, Ex H H1 → ∀ Q : VK, (∀ p H2, H1 p = none → Ex H1 H2 → H2 p = some o → Q (.ref p) H2) → te σ H1 Q
section
variable {K : PySem.W.Frag} {σ : L2.St} {H H' : Hp} {D : Ends} {ta tb te tx td ty tv : TE} {t u : TT} {x y z v : V} {tz : TS} {a : Addr}
theorem en_dK : EvN tDNewK σ H (.dK []) := fun H1 _ Q q p hp => q p _ hp (Ex.new hp) upd_same
theorem en_dT : EvN tDNewT σ H (.dT []) := fun H1 _ Q q p hp => q p _ hp (Ex.new hp) upd_same
theorem s_asgN {i : Nat} {o : HO} (h : EvN te σ H o) (k : ∀ p H1, H p = none → Ex H H1 → H1 p = some o → D.nx (σ.set i (some (.ref p))) H1) : tAsg te (gName i) D σ H := h H (Ex.refl H) _ fun p H1 hp e h1 => k p H1 hp e h1
theorem q_asgN {i : Nat} {o : HO} (h : EvN te σ H o) (k : ∀ p H1, H p = none → Ex H H1 → H1 p = some o → tz D (σ.set i (some (.ref p))) H1) : tSeq (tAsg te (gName i)) tz D σ H := s_asgN (D := { D with nx := tz D }) h k
/-- a.f = e -/
theorem s_fld {C dx : Addr} {f : Str} {fs : List (Str × V)} (hv : Ev tv σ H y) (ha : Ev ta σ H (.ref a)) (hi : H a = some (.ins C dx fs)) (c : Cls K C) (n : NoAttr K C f) (hl : fs.length < 1000) (k : ∀ H1, Ex H H1 → D.nx σ (upd H1 a (.ins C dx (putF f y fs)))) : sFld K ta tv f D σ H :=
  hv H (Ex.refl H) _ fun H1 e1 => ha H1 e1 _ fun H2 e2 => ⟨a, C, dx, fs, rfl, (e1.trans e2) _ _ hi, c, n, hl, k H2 (e1.trans e2)⟩
theorem q_fld {C dx : Addr} {f : Str} {fs : List (Str × V)} (hv : Ev tv σ H y) (ha : Ev ta σ H (.ref a)) (hi : H a = some (.ins C dx fs)) (c : Cls K C) (n : NoAttr K C f) (hl : fs.length < 1000) (k : ∀ H1, Ex H H1 → tz D σ (upd H1 a (.ins C dx (putF f y fs)))) : tSeq (sFld K ta tv f) tz D σ H :=
  s_fld (D := { D with nx := tz D }) hv ha hi c n hl k
theorem s_fldN {C dx : Addr} {f : Str} {fs : List (Str × V)} {o : HO} (hv : EvN tv σ H o) (ha : Ev ta σ H (.ref a)) (hi : H a = some (.ins C dx fs)) (c : Cls K C) (n : NoAttr K C f) (hl : fs.length < 1000) (k : ∀ p H1, H p = none → Ex H H1 → H1 p = some o → D.nx σ (upd H1 a (.ins C dx (putF f (.ref p) fs)))) : sFld K ta tv f D σ H :=
  hv H (Ex.refl H) _ fun p H1 hp e1 h1 => ha H1 e1 _ fun H2 e2 => ⟨a, C, dx, fs, rfl, (e1.trans e2) _ _ hi, c, n, hl, k p H2 hp (e1.trans e2) (e2 _ _ h1)⟩
theorem q_fldN {C dx : Addr} {f : Str} {fs : List (Str × V)} {o : HO} (hv : EvN tv σ H o) (ha : Ev ta σ H (.ref a)) (hi : H a = some (.ins C dx fs)) (c : Cls K C) (n : NoAttr K C f) (hl : fs.length < 1000) (k : ∀ p H1, H p = none → Ex H H1 → H1 p = some o → tz D σ (upd H1 a (.ins C dx (putF f (.ref p) fs)))) : tSeq (sFld K ta tv f) tz D σ H :=
  s_fldN (D := { D with nx := tz D }) hv ha hi c n hl k
/-! dicts -/
theorem ev_dget {kvs : List (Key × V)} {k : Key} (hd : Ev td σ H (.ref a)) (hy : Ev ty σ H (kV k)) (ha : Rd H a (.dK kvs)) (hv : valV kvs k = some v) : Ev (tDGet td ty) σ H v := fun H1 e Q q =>
  hd H1 e _ fun H2 e2 => hy H2 (e.trans e2) _ fun H3 e3 => ⟨a, v, rfl, .inl ⟨kvs, k, ex_rd ((e.trans e2).trans e3) ha, rfl, hv.symm⟩, q H3 (e2.trans e3)⟩
theorem ev_din {kvs : List (Key × V)} {k : Key} (hy : Ev ty σ H (kV k)) (hd : Ev td σ H (.ref a)) (ha : Rd H a (.dK kvs)) : Ev (tDIn ty td) σ H (.bl (valV kvs k).isSome) := fun H1 e Q q =>
  hy H1 e _ fun H2 e2 => hd H2 (e.trans e2) _ fun H3 e3 => ⟨a, _, rfl, .inl ⟨kvs, k, ex_rd ((e.trans e2).trans e3) ha, rfl, rfl⟩, q H3 (e2.trans e3)⟩
theorem ev_dni {kvs : List (Key × V)} {k : Key} (hy : Ev ty σ H (kV k)) (hd : Ev td σ H (.ref a)) (ha : Rd H a (.dK kvs)) : Ev (tDNotIn ty td) σ H (.bl (!(valV kvs k).isSome)) := fun H1 e Q q =>
  hy H1 e _ fun H2 e2 => hd H2 (e.trans e2) _ fun H3 e3 => ⟨a, _, rfl, .inl ⟨kvs, k, ex_rd ((e.trans e2).trans e3) ha, rfl, rfl⟩, q H3 (e2.trans e3)⟩
theorem ev_dgetD {kvs : List (Key × V)} {k : Key} (hd : Ev td σ H (.ref a)) (hy : Ev ty σ H (kV k)) (hx : Ev tx σ H z) (ha : Rd H a (.dK kvs)) : Ev (tDGet2 td ty tx) σ H ((valV kvs k).getD z) := fun H1 e Q q =>
  hd H1 e _ fun H2 e2 => ⟨a, rfl, .inl ⟨kvs, ex_rd (e.trans e2) ha⟩, hy H2 (e.trans e2) _ fun H3 e3 => hx H3 ((e.trans e2).trans e3) _ fun H4 e4 => ⟨_, .inl ⟨kvs, k, ex_rd (((e.trans e2).trans e3).trans e4) ha, rfl, rfl⟩, q H4 ((e2.trans e3).trans e4)⟩⟩
theorem s_dput {kvs : List (Key × V)} {k : Key} (hv : Ev tv σ H v) (hd : Ev td σ H (.ref a)) (hy : Ev ty σ H (kV k)) (ha : H a = some (.dK kvs)) (hz : kvs.length < 100000) (q : ∀ H1, Ex H H1 → D.nx σ (upd H1 a (.dK (putK kvs k v)))) : sDPut td ty tv D σ H :=
  hv H (Ex.refl H) _ fun H1 e1 => hd H1 e1 _ fun H2 e2 => hy H2 (e1.trans e2) _ fun H3 e3 => ⟨a, _, rfl, DPut.k (((e1.trans e2).trans e3) _ _ ha) (sz_lt hz), q H3 ((e1.trans e2).trans e3)⟩
theorem q_dput {kvs : List (Key × V)} {k : Key} (hv : Ev tv σ H v) (hd : Ev td σ H (.ref a)) (hy : Ev ty σ H (kV k)) (ha : H a = some (.dK kvs)) (hz : kvs.length < 100000) (q : ∀ H1, Ex H H1 → tz D σ (upd H1 a (.dK (putK kvs k v)))) : tSeq (sDPut td ty tv) tz D σ H :=
  s_dput (D := { D with nx := tz D }) hv hd hy ha hz q
theorem s_dputN {kvs : List (Key × V)} {k : Key} {o : HO} (hv : EvN tv σ H o) (hd : Ev td σ H (.ref a)) (hy : Ev ty σ H (kV k)) (ha : H a = some (.dK kvs)) (hz : kvs.length < 100000) (q : ∀ p H1, H p = none → Ex H H1 → H1 p = some o → D.nx σ (upd H1 a (.dK (putK kvs k (.ref p))))) : sDPut td ty tv D σ H :=
  hv H (Ex.refl H) _ fun p H1 hp e1 h1 => hd H1 e1 _ fun H2 e2 => hy H2 (e1.trans e2) _ fun H3 e3 => ⟨a, _, rfl, DPut.k (((e1.trans e2).trans e3) _ _ ha) (sz_lt hz), q p H3 hp ((e1.trans e2).trans e3) ((e2.trans e3) _ _ h1)⟩
theorem s_dpop {kvs : List (Key × V)} {k : Key} (hd : Ev td σ H (.ref a)) (hy : Ev ty σ H (kV k)) (ha : H a = some (.dK kvs)) (hv : valV kvs k = some v) (q : ∀ H1, Ex H H1 → D.nx σ (upd H1 a (.dK (dropK kvs k)))) : tDrop (tDPop1 td ty) D σ H :=
  hd H (Ex.refl H) _ fun H1 e1 => ⟨a, rfl, .inl ⟨kvs, .inl (e1 _ _ ha)⟩, hy H1 e1 _ fun H2 e2 => ⟨kvs, k, v, (e1.trans e2) _ _ ha, rfl, hv, q H2 (e1.trans e2)⟩⟩
theorem q_dpop {kvs : List (Key × V)} {k : Key} (hd : Ev td σ H (.ref a)) (hy : Ev ty σ H (kV k)) (ha : H a = some (.dK kvs)) (hv : valV kvs k = some v) (q : ∀ H1, Ex H H1 → tz D σ (upd H1 a (.dK (dropK kvs k)))) : tSeq (tDrop (tDPop1 td ty)) tz D σ H :=
  s_dpop (D := { D with nx := tz D }) hd hy ha hv q
theorem el_sortDN {kvs : List (Key × V)} {ks : List Int} {ns : List Int} {ta : TE} (ha : Ev ta σ H (.ref a)) (hd : Rd H a (.dK kvs)) (hk : kvs.map (·.1) = ks.map Sum.inl) (hs : ∀ ys : List Int, ys.Perm ks → ys.Pairwise (· ≤ ·) → ys = ns) : EvL (tCB rSortedDN (tCons ta tNil)) σ H (ns.map V.int) := fun H1 e Q q =>
  ha H1 e _ fun H2 e2 => ⟨a, kvs, ks, rfl, ex_rd (e.trans e2) hd, hk, fun ys p h1 h2 hp => by
    rw [hs ys h1 h2]
    exact q p _ (fresh_back e2 hp) (e2.trans (Ex.new hp)) upd_same⟩
theorem cutV_to {xs : List V} {k : Nat} : cutV xs none (some (k : Int)) = xs.take k := by
  unfold cutV
  rw [HT.sIx_none, HT.sIx_nat, List.drop_zero, Nat.sub_zero]
  by_cases h : k ≤ xs.length
  · rw [Nat.min_eq_left h]
  · rw [Nat.min_eq_right (by omega), List.take_of_length_le (Nat.le_refl _), List.take_of_length_le (by omega)]
/-! walks of a dict, it being locked -/
theorem _root_.Evl.Ex.lock {H H1 : Hp} {d : Addr} {o : HO} (e : Ex H H1) : Ex (upd H d o) (upd H1 d o) := fun x u h => by
  by_cases z : x = d
  · rw [z, upd_same] at h ⊢
    exact h
  · rw [upd_ne z] at h ⊢
    exact e x u h
theorem _root_.Evl.Ex.unlock {H H2 : Hp} {d : Addr} {f o : HO} (hd : H d = some o) (e : Ex (upd H d f) H2) : Ex H (upd H2 d o) := fun x u h => by
  by_cases z : x = d
  · rw [z] at h ⊢
    rw [upd_same, ← hd, h]
  · rw [upd_ne z]
    exact e x u (by rw [upd_ne z]; exact h)
theorem el_lock {d : Addr} {o : HO} {xs : List V} (hd : H d = some o) (mu : Mut (some o)) (h : ∀ od, EvL te σ (upd H d (.frz od o)) xs) : EvL (tLockE te) σ H xs := fun H1 e Q q =>
  ⟨d, o, e _ _ hd, mu, fun od => h od _ e.lock _ fun p H2 hp e2 h2 => ⟨e2 _ _ upd_same, by
    have nd : p ≠ d := fun z => by
      rw [z, upd_same] at hp
      cases hp
    rw [upd_ne nd] at hp
    exact q p _ hp (Evl.Ex.unlock (e _ _ hd) e2) (by rw [upd_ne nd]; exact h2)⟩⟩
theorem q_asgLock {i : Nat} {d : Addr} {o : HO} {xs : List V} (hd : H d = some o) (mu : Mut (some o)) (h : ∀ od, EvL te σ (upd H d (.frz od o)) xs) (k : ∀ p H1, H p = none → Ex H H1 → H1 p = some (.lst xs) → tz D (σ.set i (some (.ref p))) H1) : tSeq (tLock (tAsg te (gName i))) tz D σ H :=
  ⟨d, o, hd, mu, fun od => h od _ (Ex.refl _) _ fun p H2 hp e2 h2 => ⟨e2 _ _ upd_same, by
    have nd : p ≠ d := fun z => by
      rw [z, upd_same] at hp
      cases hp
    rw [upd_ne nd] at hp
    exact k p _ hp (Evl.Ex.unlock hd e2) (by rw [upd_ne nd]; exact h2)⟩⟩
/-- [e for k in d if t] -/
theorem el_lcK {α : Type} {d : Addr} {od : Obj} {kvs : List (Key × V)} {l : List α} {gk : α → Key} {gv : α → V} {j : Nat} {vs : List Nat} (p : α → Bool) (w : α → V) (hd : Ev td σ H (.ref d)) (hx : H d = some (.frz od (.dK kvs))) (hl : kvs = l.map fun b => (gk b, gv b)) (hz : l.length ≤ 40000)
    (hw : ∀ x, wipe ((wipe σ vs).set j (some x)) vs = wipe σ vs) (ht : ∀ b H1, b ∈ l → Ex H H1 → EvT t ((wipe σ vs).set j (some (kV (gk b)))) H1 (p b)) (he : ∀ b H1, b ∈ l → Ex H H1 → p b = true → Ev te ((wipe σ vs).set j (some (kV (gk b)))) H1 (w b)) :
    EvL (tLc (iKeys td) (gName j) t te vs) σ H ((l.filter p).map w) := fun H0 e Q q => hd H0 e _ fun H1 e1 => ⟨d, od, rfl, .inl ⟨kvs, (e.trans e1) _ _ hx, fun Dl hD => by
  rw [← given_list p w l] at q
  refine lc_it walk_keys (Cw H1 (fun i => match l[i]? with | some a => p a | none => false) (fun i => match l[i]? with | some a => w a | none => .non) Dl) ⟨hD, Ex.new hD, upd_same⟩ (fun i H' _ c => c.2.1 _ _ ((e.trans e1) _ _ hx)) (fun i x H' H2 hi c y => ?_) (fun H' c => ?_)
  · obtain ⟨rfl, k, v, hk, rfl⟩ := y
    have hb : ∃ b, l[i]? = some b ∧ k = gk b := by
      rw [hl, List.getElem?_map, Option.map_eq_some_iff] at hk
      obtain ⟨b, h1, h2⟩ := hk
      cases h2
      exact ⟨b, h1, rfl⟩
    obtain ⟨b, hb, rfl⟩ := hb
    have hm := List.mem_of_getElem? hb
    have hi2 := (List.getElem?_eq_some_iff.mp hb).1
    refine ⟨hw _, cw_turn c (by omega) ?_ fun hf => ?_⟩
    · rw [hb]
      exact ht b H1 hm (e.trans e1)
    · rw [hb] at hf ⊢
      exact he b H1 hm (e.trans e1) hf
  · have hn : kvs.length = l.length := by rw [hl, List.length_map]
    rw [hn] at c
    exact q Dl H' (fresh_back e1 c.1) (e1.trans c.2.1) c.2.2⟩⟩
/-! calls that change things -/
theorem m_go {C dx : Addr} {m : Str} {sp : Sp} {E : XK} {fs : List (Str × V)} {tas : TA} {vs : List V} {Q : VK} (ha : Ev ta σ H (.ref a)) (hi : H a = some (.ins C dx fs)) (hl : fs.lookup m = none) (h : EvA tas σ H vs) (k : ∀ H1, Ex H H1 → sp (.ref a :: vs) H1 Q E) : tMeth C m sp [] E ta tas σ H Q :=
  ha H (Ex.refl H) _ fun H1 e1 => ⟨a, dx, fs, rfl, e1 _ _ hi, hl, h H1 e1 _ fun H2 e2 => by
    rw [List.append_nil]
    exact k H2 (e1.trans e2)⟩
theorem mH_go {C dx : Addr} {m : Str} {sp : Sp} {E : L2.St → XK} {fs : List (Str × V)} {tas : TA} {vs : List V} {Q : VK} (ha : Ev ta σ H (.ref a)) (hi : H a = some (.ins C dx fs)) (hl : fs.lookup m = none) (h : EvA tas σ H vs) (k : ∀ H1, Ex H H1 → sp (.ref a :: vs) H1 Q (E σ)) : L2H.tMethH C m sp E ta tas σ H Q :=
  ha H (Ex.refl H) _ fun H1 e1 => ⟨a, dx, fs, rfl, e1 _ _ hi, hl, h H1 e1 _ fun H2 e2 => k H2 (e1.trans e2)⟩
theorem c_go {sp : Sp} {E : XK} {tas : TA} {vs : List V} {Q : VK} (h : EvA tas σ H vs) (k : ∀ H1, Ex H H1 → sp vs H1 Q E) : tCall sp [] E tas σ H Q := h H (Ex.refl H) _ fun H1 e1 => by
  rw [List.append_nil]
  exact k H1 e1
theorem mk_go {C : Addr} {sp : Sp} {E : XK} {tas : TA} {vs : List V} {Q : VK} (h : EvA tas σ H vs) (k : ∀ H1 x dx, Ex H H1 → H1 x = none → H1 dx = none → dx ≠ x → sp (.ref x :: vs) (upd (upd H1 dx (.own x)) x (.ins C dx [])) (fun v H2 => v = .non ∧ Q (.ref x) H2) E) : tMake C sp [] E tas σ H Q := h H (Ex.refl H) _ fun H1 e1 x dx hx hd hn => by
  rw [List.append_nil]
  exact k H1 x dx e1 hx hd hn
theorem el_meth {C dx : Addr} {m : Str} {sp : Sp} {E : XK} {fs : List (Str × V)} {tas : TA} {vs xs : List V} (ha : Ev ta σ H (.ref a)) (hi : H a = some (.ins C dx fs)) (hl : fs.lookup m = none) (h : EvA tas σ H vs) (hs : SpL sp (.ref a :: (vs ++ [])) H xs) : EvL (tMeth C m sp [] E ta tas) σ H xs := fun H1 e Q q =>
  ha H1 e _ fun H2 e2 => ⟨a, dx, fs, rfl, (e.trans e2) _ _ hi, hl, h H2 (e.trans e2) _ fun H3 e3 => hs H3 ((e.trans e2).trans e3) Q (fun p H4 hp e4 h4 => q p H4 (fresh_back (e2.trans e3) hp) ((e2.trans e3).trans e4) h4) E⟩
/-- l.append((e, ys)), ys a new list -/
theorem q_appPL {l : Addr} {xs ys : List V} (hl : H l = some (.lst xs)) (ha : Ev ta σ H (.ref l)) (h1 : Ev tb σ H x) (h2 : EvL te σ H ys) (hz : xs.length < 100000)
    (k : ∀ p q H1, H p = none → H q = none → Ex H H1 → H1 q = some (.lst ys) → H1 p = some (.tup [x, .ref q]) → tz D σ (upd H1 l (.lst (xs ++ [.ref p])))) :
    tSeq (tDrop (tBM K "list" rAppend ta (tCons (tTup (tCons tb (tCons te tNil))) tNil))) tz D σ H := ha H (Ex.refl H) _ fun H1 e1 =>
  ⟨Or.inl ⟨rfl, xs, sq_of (e1 l _ hl)⟩, h1 H1 e1 _ fun H2 e2 => h2 H2 (e1.trans e2) _ fun q H3 hq e3 h3 => ⟨by show 2 ≤ sizeLine; rw [sizeLine_eq]; omega, fun p hp => by
    have e13 := (e1.trans e2).trans e3
    have np : p ≠ q := (ne_of_none h3 hp).symm
    refine ⟨l, xs, .ref p, rfl, rfl, (e13.trans (Ex.new hp)) l _ hl, sz_lt hz, k p q _ (fresh_back e13 hp) (fresh_back (e1.trans e2) hq) (e13.trans (Ex.new hp)) ?_ upd_same⟩
    rw [upd_ne np.symm]
    exact h3⟩⟩
/-- what evaluates to something, told by P -/
def EvX (te : TE) (σ : L2.St) (H : Hp) (P : Hp → V → Hp → Prop) : Prop := ∀ H1, Ex H H1 → ∀ Q : VK, (∀ v H2, Ex H1 H2 → P H1 v H2 → Q v H2) → te σ H1 Q
theorem q_asgX {i : Nat} {P : Hp → V → Hp → Prop} (h : EvX te σ H P) (k : ∀ v H1, Ex H H1 → P H v H1 → tz D (σ.set i (some v)) H1) : tSeq (tAsg te (gName i)) tz D σ H := h H (Ex.refl H) _ k
/-- if not e: .., e changing things -/
theorem s_ifn_go {tu tw : TS} (h : te σ H fun x H1 => ∃ c, x = .bl c ∧ (if (!c) = true then tu D σ H1 else tw D σ H1)) : tIfS (tNot (tB te)) tu tw D σ H := h
theorem q_ifn_go {tu tw : TS} (h : te σ H fun x H1 => ∃ c, x = .bl c ∧ (if (!c) = true then tu { D with nx := tz D } σ H1 else tw { D with nx := tz D } σ H1)) : tSeq (tIfS (tNot (tB te)) tu tw) tz D σ H := h
/-- an expression that changes things, by what it leaves -/
theorem q_if_go {tc : TT} {tu tw : TS} (h : tc σ H fun b H1 => if b = true then tu { D with nx := tz D } σ H1 else tw { D with nx := tz D } σ H1) : tSeq (tIfS tc tu tw) tz D σ H := h
end
end Ck

namespace CkH
open PySem PySem.Spec PyProof.Rows L2 He
/-! the head's hook: facts by names, and one Bool more -/
abbrev AlC : Type := AlD × Bool
def obsC (n : Nat) (fa : List Fa) (fn : List DefD) (ex : PySem.W.Frag → Bool) (g : Addr → Option Obj) : AlC := (obsD fa fn (frG g (asD g n)), ex (frG g (asD g n)))
def SaysC (fa : List Fa) (fn : List DefD) (ex : PySem.W.Frag → Bool) (K : PySem.W.Frag) : Prop := SaysD fa fn K ∧ ex K = true
def hookC (n : Nat) (fa : List Fa) (fn : List DefD) (ex : PySem.W.Frag → Bool) : PySem.W.Hook where
  α := AlC
  obs := fun s => obsC n fa fn ex s.heap.get?
  val := fun _ => (valD fn, true)
  says := fun _ h => ∃ K : PySem.W.Frag, K.In h ∧ SaysC fa fn ex K
  of := fun _ _ e => ⟨_, frG_in, congrArg (fun z : AlC => z.1) e, congrArg (fun z : AlC => z.2) e⟩
  keeps := fun _ _ _ ⟨K, hK, c⟩ k => ⟨K, PySem.W.Frag.In.keeps hK k, c⟩
theorem obsC_eq {n : Nat} {fa : List Fa} {fn : List DefD} {ex : PySem.W.Frag → Bool} {g : Addr → Option Obj} {s : Shared} (h : ∀ a, g a = s.heap.get? a) : obsC n fa fn ex g = (hookC n fa fn ex).obs s := by
  have e : g = s.heap.get? := funext h
  rw [e] <;> rfl
/-- a def by its hook's datum as HandS.Words has it -/
theorem fun_of {K : PySem.W.Frag} {x qual : Str} {st : Stmt} {f : Addr} {fd : FuncData} (F : FunD K x qual (defArgs st) (defBody st) (defScope st) [] [] f fd) : Fun K x qual st f fd := by
  obtain ⟨oc, od, dV, kV, doc, pm, an, cdv, ct, osl, rfl, lk, hcd, hd, _⟩ := F.ex
  have e : dV = .none := by
    rcases hd with ⟨_, h⟩ | ⟨h, _⟩
    · exact h
    · exact absurd rfl h
  subst e
  exact ⟨⟨oc, od, kV, doc, pm, an, cdv, ct, osl, rfl, lk, hcd⟩, F.kp⟩
end CkH

namespace Ck
open PySem L2 Evl
def top (i : Nat) : Stmt := PySem.Challenge.pw_chunkshelf_k05_stock_counted.main.body.getD i (.Pass ⟨0, 0, 0, 0⟩)
abbrev s_is_whole : Stmt := top 11
abbrev s_Stock_init : Stmt := inClass (top 13) 0
abbrev s_Stock_need : Stmt := inClass (top 13) 1
abbrev s_Stock_put : Stmt := inClass (top 13) 2
abbrev s_Stock_free : Stmt := inClass (top 13) 3
abbrev s_Stock_piece : Stmt := inClass (top 13) 4
abbrev s_Stock_count : Stmt := inClass (top 13) 5
abbrev s_Stock_numbers : Stmt := inClass (top 13) 6
abbrev s__law_cell_at : Stmt := top 15
abbrev s__law_whole : Stmt := top 16
abbrev s__law_sign_by : Stmt := top 17
abbrev s__law_text_by : Stmt := top 18
abbrev s__law_alike : Stmt := top 19
abbrev s__law_word_of : Stmt := top 20
abbrev s__law_answer : Stmt := top 21
abbrev s__law_counted : Stmt := top 22
abbrev s__law_look : Stmt := top 23
abbrev s__law_needed : Stmt := top 24
abbrev s__law_freed : Stmt := top 25
abbrev s_law : Stmt := top 26
structure Txt (K : PySem.W.Frag) (mg : Str → Option Value) : Prop where
  b_ValueError : mg "ValueError" = none
  b_bool : mg "bool" = none
  b_int : mg "int" = none
  b_isinstance : mg "isinstance" = none
  b_len : mg "len" = none
  b_list : mg "list" = none
  b_min : mg "min" = none
  b_range : mg "range" = none
  b_sorted : mg "sorted" = none
  b_str : mg "str" = none
  b_tuple : mg "tuple" = none
  m_is_whole : mg "is_whole" = some (.ref (He.ga K "is_whole"))
  F_is_whole : ∃ fd, Fun K "is_whole" "is_whole" s_is_whole (He.ga K "is_whole") fd
  F_Stock_init : ∃ fd, Fun K "__init__" "Stock.__init__" s_Stock_init (He.ma K (He.ga K "Stock") "__init__") fd
  me_Stock_need : Meth K (He.ga K "Stock") "need" (He.ma K (He.ga K "Stock") "need")
  F_Stock_need : ∃ fd, Fun K "need" "Stock.need" s_Stock_need (He.ma K (He.ga K "Stock") "need") fd
  me_Stock_put : Meth K (He.ga K "Stock") "put" (He.ma K (He.ga K "Stock") "put")
  F_Stock_put : ∃ fd, Fun K "put" "Stock.put" s_Stock_put (He.ma K (He.ga K "Stock") "put") fd
  me_Stock_free : Meth K (He.ga K "Stock") "free" (He.ma K (He.ga K "Stock") "free")
  F_Stock_free : ∃ fd, Fun K "free" "Stock.free" s_Stock_free (He.ma K (He.ga K "Stock") "free") fd
  me_Stock_piece : Meth K (He.ga K "Stock") "piece" (He.ma K (He.ga K "Stock") "piece")
  F_Stock_piece : ∃ fd, Fun K "piece" "Stock.piece" s_Stock_piece (He.ma K (He.ga K "Stock") "piece") fd
  me_Stock_count : Meth K (He.ga K "Stock") "count" (He.ma K (He.ga K "Stock") "count")
  F_Stock_count : ∃ fd, Fun K "count" "Stock.count" s_Stock_count (He.ma K (He.ga K "Stock") "count") fd
  me_Stock_numbers : Meth K (He.ga K "Stock") "numbers" (He.ma K (He.ga K "Stock") "numbers")
  F_Stock_numbers : ∃ fd, Fun K "numbers" "Stock.numbers" s_Stock_numbers (He.ma K (He.ga K "Stock") "numbers") fd
  m__law_cell_at : mg "_law_cell_at" = some (.ref (He.ga K "_law_cell_at"))
  F__law_cell_at : ∃ fd, Fun K "_law_cell_at" "_law_cell_at" s__law_cell_at (He.ga K "_law_cell_at") fd
  m__law_whole : mg "_law_whole" = some (.ref (He.ga K "_law_whole"))
  F__law_whole : ∃ fd, Fun K "_law_whole" "_law_whole" s__law_whole (He.ga K "_law_whole") fd
  m__law_sign_by : mg "_law_sign_by" = some (.ref (He.ga K "_law_sign_by"))
  F__law_sign_by : ∃ fd, Fun K "_law_sign_by" "_law_sign_by" s__law_sign_by (He.ga K "_law_sign_by") fd
  m__law_text_by : mg "_law_text_by" = some (.ref (He.ga K "_law_text_by"))
  F__law_text_by : ∃ fd, Fun K "_law_text_by" "_law_text_by" s__law_text_by (He.ga K "_law_text_by") fd
  m__law_alike : mg "_law_alike" = some (.ref (He.ga K "_law_alike"))
  F__law_alike : ∃ fd, Fun K "_law_alike" "_law_alike" s__law_alike (He.ga K "_law_alike") fd
  m__law_word_of : mg "_law_word_of" = some (.ref (He.ga K "_law_word_of"))
  F__law_word_of : ∃ fd, Fun K "_law_word_of" "_law_word_of" s__law_word_of (He.ga K "_law_word_of") fd
  m__law_answer : mg "_law_answer" = some (.ref (He.ga K "_law_answer"))
  F__law_answer : ∃ fd, Fun K "_law_answer" "_law_answer" s__law_answer (He.ga K "_law_answer") fd
  m__law_counted : mg "_law_counted" = some (.ref (He.ga K "_law_counted"))
  F__law_counted : ∃ fd, Fun K "_law_counted" "_law_counted" s__law_counted (He.ga K "_law_counted") fd
  m__law_look : mg "_law_look" = some (.ref (He.ga K "_law_look"))
  F__law_look : ∃ fd, Fun K "_law_look" "_law_look" s__law_look (He.ga K "_law_look") fd
  m__law_needed : mg "_law_needed" = some (.ref (He.ga K "_law_needed"))
  F__law_needed : ∃ fd, Fun K "_law_needed" "_law_needed" s__law_needed (He.ga K "_law_needed") fd
  m__law_freed : mg "_law_freed" = some (.ref (He.ga K "_law_freed"))
  F__law_freed : ∃ fd, Fun K "_law_freed" "_law_freed" s__law_freed (He.ga K "_law_freed") fd
  m_law : mg "law" = some (.ref (He.ga K "law"))
  F_law : ∃ fd, Fun K "law" "law" s_law (He.ga K "law") fd
  m_ShelfError : mg "ShelfError" = some (.ref (He.ga K "ShelfError"))
  k_ShelfError : PySem.W.keepIn K (.ref (He.ga K "ShelfError")) = true
  m_NoSize : mg "NoSize" = some (.ref (He.ga K "NoSize"))
  k_NoSize : PySem.W.keepIn K (.ref (He.ga K "NoSize")) = true
  m_NoName : mg "NoName" = some (.ref (He.ga K "NoName"))
  k_NoName : PySem.W.keepIn K (.ref (He.ga K "NoName")) = true
  m_NotThere : mg "NotThere" = some (.ref (He.ga K "NotThere"))
  k_NotThere : PySem.W.keepIn K (.ref (He.ga K "NotThere")) = true
  m_NoPlace : mg "NoPlace" = some (.ref (He.ga K "NoPlace"))
  k_NoPlace : PySem.W.keepIn K (.ref (He.ga K "NoPlace")) = true
  m_NoText : mg "NoText" = some (.ref (He.ga K "NoText"))
  k_NoText : PySem.W.keepIn K (.ref (He.ga K "NoText")) = true
  m_TooLong : mg "TooLong" = some (.ref (He.ga K "TooLong"))
  k_TooLong : PySem.W.keepIn K (.ref (He.ga K "TooLong")) = true
  m_TooMany : mg "TooMany" = some (.ref (He.ga K "TooMany"))
  k_TooMany : PySem.W.keepIn K (.ref (He.ga K "TooMany")) = true
  m_NoNote : mg "NoNote" = some (.ref (He.ga K "NoNote"))
  k_NoNote : PySem.W.keepIn K (.ref (He.ga K "NoNote")) = true
  m_Stock : mg "Stock" = some (.ref (He.ga K "Stock"))
  cl_Stock : Cls K (He.ga K "Stock")
  mk_Stock : Mk K (He.ga K "Stock") (He.ma K (He.ga K "Stock") "__init__")
  na_Stock_greatest : NoAttr K (He.ga K "Stock") "greatest"
  na_Stock_by_text : NoAttr K (He.ga K "Stock") "by_text"
  na_Stock_texts : NoAttr K (He.ga K "Stock") "texts"
  na_Stock_counts : NoAttr K (He.ga K "Stock") "counts"
  x_NoSize : ExF K mg "NoSize"
  x_NoName : ExF K mg "NoName"
  x_NotThere : ExF K mg "NotThere"
  x_NoPlace : ExF K mg "NoPlace"
  x_NoText : ExF K mg "NoText"
  x_TooLong : ExF K mg "TooLong"
  x_TooMany : ExF K mg "TooMany"
  x_NoNote : ExF K mg "NoNote"
/-! the reckoning of values by itself -/
local macro_rules | `(tactic| walk_at "rv") => `(tactic| first
  | with_reducible exact rv_I0
  | ((with_reducible apply rv_I); first | (show (0 : Int) < _; decide) | exact Or.inr ⟨by decide, by decide⟩ | exact Or.inl ⟨by decide, by decide⟩ | exact ⟨by decide, by decide⟩ | assumption)
  | with_reducible exact rv_eqI
  | with_reducible exact rv_neI
  | with_reducible exact rv_eqS)
local macro_rules | `(tactic| walk_at "ea") => `(tactic| first
  | with_reducible exact ea_nil
  | ((with_reducible apply ea_cons); (walk_at "ev"); (walk_at "ea")))
local macro_rules | `(tactic| walk_at "ev") => `(tactic| first
  | with_reducible exact ev_str
  | with_reducible exact ev_c
  | ((with_reducible apply ev_var); rfl)
  | ((with_reducible apply ev_op); (walk_at "ev"); (walk_at "ev"); (walk_at "rv"))
  | ((with_reducible apply ev_call); (walk_at "ea"); (walk_at "sv"))
  | ((with_reducible apply ev_andV); (walk_at "ev"); (intro _; walk_at "ev"))
  | ((with_reducible apply ev_orV); (walk_at "ev"); (intro _; walk_at "ev"))
  | ((with_reducible apply ev_notV); (walk_at "ev"))
  | ((with_reducible apply ev_ord); (walk_at "ev"))
  | ((with_reducible apply ev_lenS); (walk_at "ev"); (first | omega | assumption))
  | ((with_reducible apply ev_min); (walk_at "ev"); (walk_at "ev"))
  | ((with_reducible apply ev_max); (walk_at "ev"); (walk_at "ev"))
  | ((with_reducible apply ev_intB); (walk_at "ev")))
local macro_rules | `(tactic| walk_at "et") => `(tactic| first
  | ((with_reducible apply et_test); walk_at "ev")
  | ((with_reducible apply et_B); walk_at "ev")
  | ((with_reducible apply et_not); walk_at "et"))
/-! the slots written out, n of them -/
local macro_rules | `(tactic| walk_at "n2") => `(tactic| refine at_ (σ' := [_, _]) rfl ?_)
local macro_rules | `(tactic| walk_at "n3") => `(tactic| refine at_ (σ' := [_, _, _]) rfl ?_)
local macro_rules | `(tactic| walk_at "n4") => `(tactic| refine at_ (σ' := [_, _, _, _]) rfl ?_)
local macro_rules | `(tactic| walk_at "n5") => `(tactic| refine at_ (σ' := [_, _, _, _, _]) rfl ?_)
local macro_rules | `(tactic| walk_at "n6") => `(tactic| refine at_ (σ' := [_, _, _, _, _, _]) rfl ?_)
local macro_rules | `(tactic| walk_at "n7") => `(tactic| refine at_ (σ' := [_, _, _, _, _, _, _]) rfl ?_)
local macro_rules | `(tactic| walk_at "n8") => `(tactic| refine at_ (σ' := [_, _, _, _, _, _, _, _]) rfl ?_)
local macro_rules | `(tactic| walk_at "n9") => `(tactic| refine at_ (σ' := [_, _, _, _, _, _, _, _, _]) rfl ?_)
local macro_rules | `(tactic| walk_at "n10") => `(tactic| refine at_ (σ' := [_, _, _, _, _, _, _, _, _, _]) rfl ?_)
local macro_rules | `(tactic| walk_at "n11") => `(tactic| refine at_ (σ' := [_, _, _, _, _, _, _, _, _, _, _]) rfl ?_)
local macro_rules | `(tactic| walk_at "n12") => `(tactic| refine at_ (σ' := [_, _, _, _, _, _, _, _, _, _, _, _]) rfl ?_)
local macro_rules | `(tactic| walk_at "n13") => `(tactic| refine at_ (σ' := [_, _, _, _, _, _, _, _, _, _, _, _, _]) rfl ?_)
local macro_rules | `(tactic| walk_at "n14") => `(tactic| refine at_ (σ' := [_, _, _, _, _, _, _, _, _, _, _, _, _, _]) rfl ?_)
local macro_rules | `(tactic| walk_at "n15") => `(tactic| refine at_ (σ' := [_, _, _, _, _, _, _, _, _, _, _, _, _, _, _]) rfl ?_)
local macro_rules | `(tactic| walk_at "n16") => `(tactic| refine at_ (σ' := [_, _, _, _, _, _, _, _, _, _, _, _, _, _, _, _]) rfl ?_)
local macro_rules | `(tactic| walk_at "n17") => `(tactic| refine at_ (σ' := [_, _, _, _, _, _, _, _, _, _, _, _, _, _, _, _, _]) rfl ?_)
local macro_rules | `(tactic| walk_at "n18") => `(tactic| refine at_ (σ' := [_, _, _, _, _, _, _, _, _, _, _, _, _, _, _, _, _, _]) rfl ?_)
local macro_rules | `(tactic| walk_at "n19") => `(tactic| refine at_ (σ' := [_, _, _, _, _, _, _, _, _, _, _, _, _, _, _, _, _, _, _]) rfl ?_)
local macro_rules | `(tactic| walk_at "n20") => `(tactic| refine at_ (σ' := [_, _, _, _, _, _, _, _, _, _, _, _, _, _, _, _, _, _, _, _]) rfl ?_)
local macro_rules | `(tactic| walk_at "n21") => `(tactic| refine at_ (σ' := [_, _, _, _, _, _, _, _, _, _, _, _, _, _, _, _, _, _, _, _, _]) rfl ?_)
local macro_rules | `(tactic| walk_at "n22") => `(tactic| refine at_ (σ' := [_, _, _, _, _, _, _, _, _, _, _, _, _, _, _, _, _, _, _, _, _, _]) rfl ?_)
local macro_rules | `(tactic| walk_at "n23") => `(tactic| refine at_ (σ' := [_, _, _, _, _, _, _, _, _, _, _, _, _, _, _, _, _, _, _, _, _, _, _]) rfl ?_)

/-! the law helpers' values -/
def cellAt (ns : List Int) (k : Nat) : Int := ns.getD k 0
def sp_cell_at (K : PySem.W.Frag) : Sp := fun vs H Q _ => ∃ (a : Addr) (ns : List Int) (k : Int), vs = [.ref a, .int k] ∧ 0 ≤ k ∧ SqL K H a (ns.map V.int) ∧ RetV (.int (cellAt ns k.toNat)) H Q
theorem sv_cell_at {K : PySem.W.Frag} {H : Hp} {a : Addr} {ns : List Int} {k : Int} (hS : SqL K H a (ns.map V.int)) (h0 : 0 ≤ k) : SpV (sp_cell_at K) ([.ref a, .int k] ++ []) H (.int (cellAt ns k.toNat)) :=
  fun H1 e Q q E => ⟨a, ns, k, rfl, h0, ex_l e hS, q⟩
def sp_whole : Sp := fun vs H Q _ => ∃ (x : V) (n : String), vs = [x] ∧ TN H x n ∧ RetV (.bl (isW x)) H Q
theorem sv_whole {H : Hp} {x : V} {n : String} (h : TN H x n) : SpV sp_whole ([x] ++ []) H (.bl (isW x)) := fun H1 e Q q E => ⟨x, n, rfl, h.ex e, q⟩
def signs95 : List Nat := cd " !\"#$&'()*+,-./0123456789:;<=>?@ABCDEFGHIJKLMNOPQRSTUVWXYZ[\\]^_`" ++ cd "abcdefghijklmnopqrstuvwxyz{|}~\n"
theorem signs95_len : signs95.length = 95 := by decide +kernel
def okc (c : Nat) : Bool := c == 10 || (32 ≤ c && c ≤ 126 && c != 37)
theorem signs95_ok : signs95.all okc = true := by decide +kernel
def signBy (x : Int) : Nat := signs95.getD (x % 95).toNat 10
theorem signBy_get (x : Int) : signs95[(x % 95).toNat]? = some (signBy x) := by
  have h : (x % 95).toNat < signs95.length := by rw [signs95_len]; omega
  unfold signBy
  rw [List.getD_eq_getElem?_getD, List.getElem?_eq_getElem h]
  rfl
theorem signBy_ok (x : Int) : okc (signBy x) = true := List.all_eq_true.mp signs95_ok _ (List.mem_of_getElem? (signBy_get x))
def sp_sign_by : Sp := fun vs H Q _ => ∃ c : Int, vs = [.int c] ∧ RetV (.str (SX.S [signBy c])) H Q
theorem sv_sign_by {H : Hp} {c : Int} : SpV sp_sign_by ([.int c] ++ []) H (.str (SX.S [signBy c])) := fun H1 e Q q E => ⟨c, rfl, q⟩
def sizeBy (c : Int) : Int := if c % 8 = 7 then c / 8 % 300 else c / 8 % 60
theorem sizeBy_lo (c : Int) : 0 ≤ sizeBy c ∧ sizeBy c ≤ 299 := by
  unfold sizeBy
  split <;> omega
def sp_size_by : Sp := fun vs H Q _ => ∃ c : Int, vs = [.int c] ∧ RetV (.int (sizeBy c)) H Q
theorem sv_size_by {H : Hp} {c : Int} : SpV sp_size_by ([.int c] ++ []) H (.int (sizeBy c)) := fun H1 e Q q E => ⟨c, rfl, q⟩
def tbl4 (c : Int) : Int := ([2, 95, 95, 1] : List Int).getD (c % 4).toNat 1
theorem tbl4_pos (c : Int) : 0 < tbl4 c := by
  have h : c % 4 = 0 ∨ c % 4 = 1 ∨ c % 4 = 2 ∨ c % 4 = 3 := by omega
  unfold tbl4
  rcases h with h | h | h | h <;> rw [h] <;> decide
theorem tbl4_get (c : Int) : ([V.int 2, V.int 95, V.int 95, V.int 1] : List V)[(c % 4).toNat]? = some (V.int (tbl4 c)) := by
  have h : c % 4 = 0 ∨ c % 4 = 1 ∨ c % 4 = 2 ∨ c % 4 = 3 := by omega
  unfold tbl4
  rcases h with h | h | h | h <;> rw [h] <;> rfl
def blockBy (c n : Int) : Int := if c % 4 = 2 then (if 1 + c / 4 % 50 < n then 1 + c / 4 % 50 else n) else n
theorem blockBy_le (c : Int) {n : Int} (h : 0 ≤ n) : 0 ≤ blockBy c n ∧ blockBy c n ≤ n ∧ (blockBy c n = 0 → n = 0) := by
  unfold blockBy
  split
  · split <;> omega
  · omega
def numAt (c : Int) : Nat → Int
  | 0 => c
  | i + 1 => (numAt c i * 48271 + 11) % 2147483647
def gotAt (c : Int) (i : Nat) : List Nat := (List.range i).map fun j => signBy (65 + numAt c (j + 1) / 7 % tbl4 c)
theorem gotAt_succ (c : Int) (i : Nat) : gotAt c (i + 1) = gotAt c i ++ [signBy (65 + numAt c (i + 1) / 7 % tbl4 c)] := by
  unfold gotAt
  rw [List.range_succ, List.map_append]
  rfl
theorem gotAt_len (c : Int) (i : Nat) : (gotAt c i).length = i := by
  unfold gotAt
  rw [List.length_map, List.length_range]
theorem gotAt_ok (c : Int) (i : Nat) : ∀ x ∈ gotAt c i, okc x = true := by
  intro x hx
  obtain ⟨j, _, rfl⟩ := List.mem_map.mp hx
  exact signBy_ok _
def textBy (c n : Int) : List Nat := if blockBy c n = 0 then [] else ((List.replicate (n / blockBy c n + 1).toNat (gotAt c (blockBy c n).toNat)).flatten).take n.toNat
theorem flat_len (n : Nat) (l : List Nat) : (List.replicate n l).flatten.length = n * l.length := by
  induction n with
  | zero => simp
  | succ n ih => rw [List.replicate_succ, List.flatten_cons, List.length_append, ih, Nat.succ_mul, Nat.add_comm]
theorem textBy_len (c : Int) {n : Int} (h : 0 ≤ n) : (textBy c n).length = n.toNat := by
  obtain ⟨h1, h2, h3⟩ := blockBy_le c h
  unfold textBy
  split
  · rename_i h0
    rw [h3 h0]; rfl
  · rename_i h0
    rw [List.length_take, flat_len, gotAt_len]
    have hb : 0 < blockBy c n := by omega
    have h4 : n < (n / blockBy c n + 1) * blockBy c n := by
      have := Int.lt_ediv_add_one_mul_self n hb
      omega
    have h5 : 0 ≤ n / blockBy c n := Int.ediv_nonneg h h1
    have h6 : (((n / blockBy c n + 1).toNat * (blockBy c n).toNat : Nat) : Int) = (n / blockBy c n + 1) * blockBy c n := by
      rw [Int.natCast_mul, Int.toNat_of_nonneg (by omega), Int.toNat_of_nonneg h1]
    omega
theorem textBy_ok (c n : Int) : ∀ x ∈ textBy c n, okc x = true := by
  intro x hx
  unfold textBy at hx
  split at hx
  · cases hx
  · have h1 := List.mem_of_mem_take hx
    obtain ⟨l, hl, hx2⟩ := List.mem_flatten.mp h1
    rw [List.eq_of_mem_replicate hl] at hx2
    exact gotAt_ok _ _ x hx2
def sp_text_by : Sp := fun vs H Q _ => ∃ c n : Int, vs = [.int c, .int n] ∧ 0 ≤ n ∧ n ≤ 1000 ∧ RetV (.str (SX.S (textBy c n))) H Q
theorem sv_text_by {H : Hp} {c n : Int} (h : 0 ≤ n) (h1 : n ≤ 1000) : SpV sp_text_by ([.int c, .int n] ++ []) H (.str (SX.S (textBy c n))) := fun H1 e Q q E => ⟨c, n, rfl, h, h1, q⟩

/-! the weight of some signs -/
def wt (l : List Nat) : Int := l.foldl (fun (n : Int) (c : Nat) => (n * 131 + (c : Int)) % 65521) 7
theorem wt_take {l : List Nat} {i c : Nat} (h : l[i]? = some c) : wt (l.take (i + 1)) = (wt (l.take i) * 131 + (c : Int)) % 65521 := by
  have e : l.take (i + 1) = l.take i ++ [c] := by
    obtain ⟨hi, rfl⟩ := List.getElem?_eq_some_iff.mp h
    exact (List.take_append_getElem hi).symm
  unfold wt
  rw [e, List.foldl_append]
  rfl
def sp_weight : Sp := fun vs H Q _ => ∃ l : List Nat, vs = [.str (SX.S l)] ∧ RetV (.int (wt l)) H Q
theorem sv_weight {H : Hp} {l : List Nat} : SpV sp_weight ([.str (SX.S l)] ++ []) H (.int (wt l)) := fun H1 e Q q E => ⟨l, rfl, q⟩

/-! where a text is cut -/
def weightsOf (l : List Nat) (w : Nat) : List Int := (List.range (l.length + 1 - w)).map fun i => wt ((l.drop i).take w)
theorem weightsOf_len (l : List Nat) (w : Nat) : (weightsOf l w).length = l.length + 1 - w := by
  unfold weightsOf
  rw [List.length_map, List.length_range]
def lowAt (row : List Int) (at_ r j : Nat) : Bool := decide (j = r) || decide (row.getD at_ 0 < row.getD (at_ - r + j) 0)
def isLow (row : List Int) (at_ r : Nat) : Bool := (List.range (2 * r + 1)).all (lowAt row at_ r)
def cutsOf (l : List Nat) (w r : Nat) : List Nat := ((List.range ((weightsOf l w).length - 2 * r)).filter fun i => isLow (weightsOf l w) (r + i) r).map fun i => w + (r + i)
/-- the pieces behind the cuts cs, from start on -/
def piecesFrom (l : List Nat) : Nat → List Nat → List (List Nat)
  | s, [] => if s < l.length then [l.drop s] else []
  | s, c :: cs => (l.drop s).take (c - s) :: piecesFrom l c cs
def piecesOf (l : List Nat) (w r : Nat) : List (List Nat) := piecesFrom l 0 (cutsOf l w r)
theorem cutsOf_mem {l : List Nat} {w r c : Nat} (h : c ∈ cutsOf l w r) : w + r ≤ c ∧ c + r ≤ l.length := by
  unfold cutsOf at h
  obtain ⟨i, hi, rfl⟩ := List.mem_map.mp h
  have h1 := List.mem_range.mp (List.mem_filter.mp hi).1
  rw [weightsOf_len] at h1
  omega
/-- numbers as values -/
def vN (cs : List Nat) : List V := cs.map fun c : Nat => V.int (c : Int)
def sp_weights : Sp := fun vs H Q _ => ∃ (l : List Nat) (w : Nat), vs = [.str (SX.S l), .int (w : Int)] ∧ l.length ≤ 10000 ∧ w ≤ 100 ∧ RetL ((weightsOf l w).map V.int) H Q
theorem sl_weights {H : Hp} {l : List Nat} {w : Nat} (hl : l.length ≤ 10000) (hw : w ≤ 100) : SpL sp_weights ([.str (SX.S l), .int (w : Int)] ++ []) H ((weightsOf l w).map V.int) := fun H1 e Q q E => ⟨l, w, rfl, hl, hw, fun p H2 hp e2 h2 => q p H2 hp e2 h2⟩
def sp_is_low (K : PySem.W.Frag) : Sp := fun vs H Q _ => ∃ (a : Addr) (row : List Int) (i r : Nat), vs = [.ref a, .int (i : Int), .int (r : Int)] ∧ SqL K H a (row.map V.int) ∧ r ≤ i ∧ i + r < row.length ∧ row.length ≤ 20000 ∧ RetV (.bl (isLow row i r)) H Q
theorem sv_is_low {K : PySem.W.Frag} {H : Hp} {a : Addr} {row : List Int} {i r : Nat} (h : SqL K H a (row.map V.int)) (h1 : r ≤ i) (h2 : i + r < row.length) (h3 : row.length ≤ 20000) : SpV (sp_is_low K) ([.ref a, .int (i : Int), .int (r : Int)] ++ []) H (.bl (isLow row i r)) := fun H1 e Q q E => ⟨a, row, i, r, rfl, ex_l e h, h1, h2, h3, q⟩
def sp_cuts : Sp := fun vs H Q _ => ∃ (l : List Nat) (w r : Nat), vs = [.str (SX.S l), .int (w : Int), .int (r : Int)] ∧ l.length ≤ 10000 ∧ w ≤ 100 ∧ r ≤ 100 ∧ RetL (vN (cutsOf l w r)) H Q
theorem sl_cuts {H : Hp} {l : List Nat} {w r : Nat} (hl : l.length ≤ 10000) (hw : w ≤ 100) (hr : r ≤ 100) : SpL sp_cuts ([.str (SX.S l), .int (w : Int), .int (r : Int)] ++ []) H (vN (cutsOf l w r)) := fun H1 e Q q E => ⟨l, w, r, rfl, hl, hw, hr, fun p H2 hp e2 h2 => q p H2 hp e2 h2⟩
theorem isLow_no {row : List Int} {i r j : Nat} (hj : j < 2 * r + 1) (h : lowAt row i r j = false) : isLow row i r = false := by
  unfold isLow
  rw [List.all_eq_false]
  exact ⟨j, List.mem_range.mpr hj, by rw [h]; decide⟩
theorem isLow_yes {row : List Int} {i r : Nat} (h : ∀ j, j < 2 * r + 1 → lowAt row i r j = true) : isLow row i r = true := List.all_eq_true.mpr fun j hj => h j (List.mem_range.mp hj)
theorem low_false {row : List Int} {i r j : Nat} (h1 : j ≠ r) (h2 : row.getD (i - r + j) 0 ≤ row.getD i 0) : lowAt row i r j = false := by
  unfold lowAt
  rw [decide_eq_false h1, decide_eq_false (by omega)]
  rfl
theorem low_true {row : List Int} {i r j : Nat} (h : j = r ∨ ¬ row.getD (i - r + j) 0 ≤ row.getD i 0) : lowAt row i r j = true := by
  unfold lowAt
  rcases h with h | h
  · rw [decide_eq_true h]
    rfl
  · rw [decide_eq_true (show row.getD i 0 < row.getD (i - r + j) 0 by omega), Bool.or_true]
theorem given_cuts (l : List Nat) (w r : Nat) (n : Int) (hn : n = ((weightsOf l w).length : Int) - (r : Int) - (r : Int)) :
    given n.toNat (fun i => isLow (weightsOf l w) (r + i) r) (fun i => V.int ((w : Int) + ((r : Int) + (i : Int)))) = vN (cutsOf l w r) := by
  have e : n.toNat = (weightsOf l w).length - 2 * r := by omega
  unfold given cutsOf vN
  rw [e, List.map_map]
  refine List.map_congr_left fun i _ => ?_
  show V.int _ = V.int ((w + (r + i) : Nat) : Int)
  rw [Int.natCast_add, Int.natCast_add]
theorem getI {row : List Int} {i : Nat} (h : i < row.length) : (row.map V.int)[i]? = some (V.int (row.getD i 0)) := by
  rw [List.getElem?_map, List.getElem?_eq_getElem h, List.getD_eq_getElem?_getD, List.getElem?_eq_getElem h]
  rfl
theorem el_wrow {σ : L2.St} {H : Hp} {ta : TA} {te : TE} {j : Nat} {vs : List Nat} {l : List Nat} {n : Nat} (ha : EvA ta σ H [.int (n : Int), .int ((l.length : Int) + 1)]) (hl : l.length ≤ 10000) (hn : n ≤ 100) (hw : ∀ x, wipe ((wipe σ vs).set j (some x)) vs = wipe σ vs)
    (he : ∀ (i : Nat) H1, Ex H H1 → Ev te ((wipe σ vs).set j (some (.int ((n : Int) + (i : Int))))) H1 (.int (wt ((l.drop i).take n)))) : EvL (tLc (iRng2 ta) (gName j) tYes te vs) σ H ((weightsOf l n).map V.int) := by
  have g := el_lcR2 (te := te) (fun _ => true) (fun i => .int (wt ((l.drop i).take n))) ha ⟨by omega, by omega, by omega, by omega⟩ hw (fun i H1 e1 hi => et_yes) (fun i H1 e1 hi _ => he i H1 e1)
  have e2 : given ((l.length : Int) + 1 - (n : Int)).toNat (fun _ => true) (fun i => V.int (wt ((l.drop i).take n))) = (weightsOf l n).map V.int := by
    rw [given_all]
    unfold weightsOf
    have e1 : ((l.length : Int) + 1 - (n : Int)).toNat = l.length + 1 - n := by omega
    rw [e1, List.map_map]
    rfl
  rw [e2] at g
  exact g
theorem cut_at {l : List Nat} {n i : Nat} : V.str (cutS (SX.S l) (some ((n : Int) + (i : Int) - (n : Int))) (some ((n : Int) + (i : Int)))) = V.str (SX.S ((l.drop i).take n)) := by
  rw [cut_mid (by omega) (by omega)]
  have e1 : ((n : Int) + (i : Int) - (n : Int)).toNat = i := by omega
  have e2 : ((n : Int) + (i : Int)).toNat - i = n := by omega
  rw [e1, e2]

/-! pieces -/
abbrev vS (p : List Nat) : V := V.str (SX.S p)
def sp_pieces : Sp := fun vs H Q _ => ∃ (l : List Nat) (w r : Nat), vs = [vS l, .int (w : Int), .int (r : Int)] ∧ l.length ≤ 10000 ∧ w ≤ 100 ∧ r ≤ 100 ∧ RetL ((piecesOf l w r).map vS) H Q
theorem sl_pieces {H : Hp} {l : List Nat} {w r : Nat} (hl : l.length ≤ 10000) (hw : w ≤ 100) (hr : r ≤ 100) : SpL sp_pieces ([vS l, .int (w : Int), .int (r : Int)] ++ []) H ((piecesOf l w r).map vS) := fun H1 e Q q E => ⟨l, w, r, rfl, hl, hw, hr, fun p H2 hp e2 h2 => q p H2 hp e2 h2⟩
theorem cut_nn {l : List Nat} {s c : Nat} : cutS (SX.S l) (some (s : Int)) (some (c : Int)) = SX.S ((l.drop s).take (c - s)) := by
  rw [cut_mid (by omega) (by omega)]
  have e1 : (s : Int).toNat = s := by omega
  have e2 : (c : Int).toNat = c := by omega
  rw [e1, e2]
theorem cutsOf_len_le (l : List Nat) (w r : Nat) : (cutsOf l w r).length ≤ l.length + 1 := by
  unfold cutsOf
  rw [List.length_map]
  have h := List.length_filter_le (fun i => isLow (weightsOf l w) (r + i) r) (List.range ((weightsOf l w).length - 2 * r))
  rw [List.length_range] at h
  have h2 := weightsOf_len l w
  omega
theorem get_vN {cs : List Nat} {i : Nat} {x : V} (h : (vN cs)[i]? = some x) : ∃ c, cs[i]? = some c ∧ x = V.int (c : Int) := by
  unfold vN at h
  rw [List.getElem?_map] at h
  cases e : cs[i]? with
  | none =>
    rw [e] at h
    cases h
  | some c =>
    rw [e] at h
    exact ⟨c, rfl, (Option.some.inj h).symm⟩
theorem len_vN (cs : List Nat) : (vN cs).length = cs.length := List.length_map _
theorem drop_get {α : Type} {xs : List α} {i : Nat} {c : α} (h : xs[i]? = some c) : xs.drop i = c :: xs.drop (i + 1) := by
  obtain ⟨hi, rfl⟩ := List.getElem?_eq_some_iff.mp h
  exact List.drop_eq_getElem_cons hi
theorem piecesFrom_len (l : List Nat) : ∀ (cs : List Nat) (s : Nat), (piecesFrom l s cs).length ≤ cs.length + 1
  | [], s => by
    unfold piecesFrom
    split <;> simp
  | c :: cs, s => by
    unfold piecesFrom
    rw [List.length_cons, List.length_cons]
    have := piecesFrom_len l cs c
    omega
theorem piecesOf_len (l : List Nat) (w r : Nat) : (piecesOf l w r).length ≤ l.length + 2 := by
  have h1 := piecesFrom_len l (cutsOf l w r) 0
  have h2 := cutsOf_len_le l w r
  unfold piecesOf
  omega

/-! ### a stock in the heap -/
structure SkA where
  p : Addr
  a : Addr
  b : Addr
  c : Addr
def SkA.fp (A : SkA) : List Addr := [A.p, A.a, A.b, A.c]
def skFs (A : SkA) (g : Int) : List (Str × V) := [("greatest", .int g), ("by_text", .ref A.a), ("texts", .ref A.b), ("counts", .ref A.c)]
/-- the stock at A: its greatest number, its three dicts -/
structure SkAt (K : PySem.W.Frag) (H : Hp) (A : SkA) (g : Int) (bt tx ct : List (Key × V)) : Prop where
  ob : ∃ dx, H A.p = some (.ins (He.ga K "Stock") dx (skFs A g))
  ha : H A.a = some (.dK bt)
  hb : H A.b = some (.dK tx)
  hc : H A.c = some (.dK ct)
  ab : A.a ≠ A.b
  ac : A.a ≠ A.c
  bc : A.b ≠ A.c
abbrev tK (l : List Nat) : Key := Sum.inr (SX.S l)
abbrev nK (n : Int) : Key := Sum.inl n
section
variable {K : PySem.W.Frag} {H H' : Hp} {A : SkA} {g : Int} {bt tx ct : List (Key × V)}
theorem SkAt.pa (S : SkAt K H A g bt tx ct) : A.p ≠ A.a := by
  obtain ⟨dx, h⟩ := S.ob
  exact ne_of h S.ha (fun z => nomatch z)
theorem SkAt.pb (S : SkAt K H A g bt tx ct) : A.p ≠ A.b := by
  obtain ⟨dx, h⟩ := S.ob
  exact ne_of h S.hb (fun z => nomatch z)
theorem SkAt.pc (S : SkAt K H A g bt tx ct) : A.p ≠ A.c := by
  obtain ⟨dx, h⟩ := S.ob
  exact ne_of h S.hc (fun z => nomatch z)
theorem SkAt.mo {T : List Addr} (S : SkAt K H A g bt tx ct) (m : Mo T H H') (d : ∀ x ∈ A.fp, x ∉ T) : SkAt K H' A g bt tx ct := by
  obtain ⟨⟨dx, h⟩, ha, hb, hc, ab, ac, bc⟩ := S
  exact ⟨⟨dx, m _ _ (d _ (by simp [SkA.fp])) h⟩, m _ _ (d _ (by simp [SkA.fp])) ha, m _ _ (d _ (by simp [SkA.fp])) hb, m _ _ (d _ (by simp [SkA.fp])) hc, ab, ac, bc⟩
theorem SkAt.ex (S : SkAt K H A g bt tx ct) (e : Ex H H') : SkAt K H' A g bt tx ct := S.mo (T := []) e.mo (fun _ _ z => by cases z)
theorem SkAt.putP {f : Str} {v : V} {g' : Int} {dx : Addr} (S : SkAt K H A g bt tx ct) (h : H A.p = some (.ins (He.ga K "Stock") dx (skFs A g))) (e : putF f v (skFs A g) = skFs A g') : SkAt K (upd H A.p (.ins (He.ga K "Stock") dx (putF f v (skFs A g)))) A g' bt tx ct := by
  have z1 := S.pa.symm
  have z2 := S.pb.symm
  have z3 := S.pc.symm
  rw [e]
  exact ⟨⟨dx, upd_same⟩, by rw [upd_ne z1]; exact S.ha, by rw [upd_ne z2]; exact S.hb, by rw [upd_ne z3]; exact S.hc, S.ab, S.ac, S.bc⟩
theorem SkAt.putA {bt' : List (Key × V)} (S : SkAt K H A g bt tx ct) : SkAt K (upd H A.a (.dK bt')) A g bt' tx ct := by
  obtain ⟨dx, h⟩ := S.ob
  exact ⟨⟨dx, by rw [upd_ne S.pa]; exact h⟩, upd_same, by rw [upd_ne S.ab.symm]; exact S.hb, by rw [upd_ne S.ac.symm]; exact S.hc, S.ab, S.ac, S.bc⟩
theorem SkAt.putB {tx' : List (Key × V)} (S : SkAt K H A g bt tx ct) : SkAt K (upd H A.b (.dK tx')) A g bt tx' ct := by
  obtain ⟨dx, h⟩ := S.ob
  exact ⟨⟨dx, by rw [upd_ne S.pb]; exact h⟩, by rw [upd_ne S.ab]; exact S.ha, upd_same, by rw [upd_ne S.bc.symm]; exact S.hc, S.ab, S.ac, S.bc⟩
theorem SkAt.putC {ct' : List (Key × V)} (S : SkAt K H A g bt tx ct) : SkAt K (upd H A.c (.dK ct')) A g bt tx ct' := by
  obtain ⟨dx, h⟩ := S.ob
  exact ⟨⟨dx, by rw [upd_ne S.pc]; exact h⟩, by rw [upd_ne S.ac]; exact S.ha, by rw [upd_ne S.bc]; exact S.hb, upd_same, S.ab, S.ac, S.bc⟩
theorem SkAt.mp {H0 : Hp} {o : HO} (m : Mo A.fp H0 H) : Mo A.fp H0 (upd H A.p o) := m.put (by simp [SkA.fp])
theorem SkAt.ma {H0 : Hp} {o : HO} (m : Mo A.fp H0 H) : Mo A.fp H0 (upd H A.a o) := m.put (by simp [SkA.fp])
theorem SkAt.mb {H0 : Hp} {o : HO} (m : Mo A.fp H0 H) : Mo A.fp H0 (upd H A.b o) := m.put (by simp [SkA.fp])
theorem SkAt.mc {H0 : Hp} {o : HO} (m : Mo A.fp H0 H) : Mo A.fp H0 (upd H A.c o) := m.put (by simp [SkA.fp])
end
/-! promises -/
def sp_is_whole : Sp := fun vs H Q _ => ∃ (x : V) (n : String), vs = [x] ∧ TN H x n ∧ RetV (.bl (isW x)) H Q
theorem sv_is_whole {H : Hp} {x : V} {n : String} (h : TN H x n) : SpV sp_is_whole ([x] ++ []) H (.bl (isW x)) := fun H1 e Q q E => ⟨x, n, rfl, h.ex e, q⟩
def sp_Stock_init (K : PySem.W.Frag) : Sp := fun vs H Q _ => ∃ (p dx : Addr), vs = [.ref p] ∧ H p = some (.ins (He.ga K "Stock") dx []) ∧
  ∀ (A : SkA) H', A.p = p → H A.a = none → H A.b = none → H A.c = none → Mo [p] H H' → SkAt K H' A 0 [] [] [] → Q .non H'
def sp_Stock_put (K : PySem.W.Frag) : Sp := fun vs H Q _ => ∃ (A : SkA) (n : Int) (l : List Nat) (g : Int) (bt tx ct : List (Key × V)), vs = [.ref A.p, .int n, vS l] ∧ SkAt K H A g bt tx ct ∧ bt.length < 100000 ∧ tx.length < 100000 ∧ ct.length < 100000 ∧
  ∀ H', Mo A.fp H H' → SkAt K H' A g (putK bt (tK l) (.int n)) (putK tx (nK n) (vS l)) (putK ct (nK n) (.int 0)) → Q .non H'
def sp_Stock_need (K : PySem.W.Frag) : Sp := fun vs H Q _ => ∃ (A : SkA) (l : List Nat) (g : Int) (bt tx ct : List (Key × V)), vs = [.ref A.p, vS l] ∧ SkAt K H A g bt tx ct ∧ bt.length < 50000 ∧ tx.length < 50000 ∧ ct.length < 50000 ∧
  ((valV bt (tK l) = none ∧ ∀ H', Mo A.fp H H' → SkAt K H' A (g + 1) (putK bt (tK l) (.int (g + 1))) (putK tx (nK (g + 1)) (vS l)) (putK (putK ct (nK (g + 1)) (.int 0)) (nK (g + 1)) (.int 1)) → Q (.int (g + 1)) H') ∨
   ∃ n c : Int, valV bt (tK l) = some (.int n) ∧ valV ct (nK n) = some (.int c) ∧ ∀ H', Mo A.fp H H' → SkAt K H' A g bt tx (putK ct (nK n) (.int (c + 1))) → Q (.int n) H')
/-- what stands under x, a number -/
def atN (tx : List (Key × V)) : V → Option V
  | .int n => valV tx (nK n)
  | _ => none
def sp_Stock_piece (K : PySem.W.Frag) : Sp := fun vs H Q E => ∃ (A : SkA) (x : V) (n : String) (g : Int) (bt tx ct : List (Key × V)), vs = [.ref A.p, x] ∧ SkAt K H A g bt tx ct ∧ TN H x n ∧ (∀ v, atN tx x = some v → RetV v H Q) ∧ (atN tx x = none → Rz K "NotThere" H E)
def sp_Stock_count (K : PySem.W.Frag) : Sp := fun vs H Q _ => ∃ (A : SkA) (x : V) (n : String) (g : Int) (bt tx ct : List (Key × V)), vs = [.ref A.p, x] ∧ SkAt K H A g bt tx ct ∧ TN H x n ∧ RetV ((atN ct x).getD (.int 0)) H Q
def sp_Stock_free (K : PySem.W.Frag) : Sp := fun vs H Q E => ∃ (A : SkA) (x : V) (nm : String) (g : Int) (bt tx ct : List (Key × V)), vs = [.ref A.p, x] ∧ SkAt K H A g bt tx ct ∧ TN H x nm ∧ ct.length < 50000 ∧ (atN tx x = none → Rz K "NotThere" H E) ∧
  ∀ v, atN tx x = some v → ∃ (n c : Int) (l : List Nat), x = .int n ∧ v = vS l ∧ valV ct (nK n) = some (.int c) ∧ (valV bt (tK l)).isSome = true ∧
    (c ≠ 1 → ∀ H', Mo A.fp H H' → SkAt K H' A g bt tx (putK ct (nK n) (.int (c - 1))) → Q .non H') ∧
    (c = 1 → ∀ H', Mo A.fp H H' → SkAt K H' A g (dropK bt (tK l)) (dropK tx (nK n)) (dropK (putK ct (nK n) (.int (c - 1))) (nK n)) → Q .non H')
def sp_Stock_numbers (K : PySem.W.Frag) : Sp := fun vs H Q _ => ∃ (A : SkA) (g : Int) (bt tx ct : List (Key × V)) (ks ns : List Int), vs = [.ref A.p] ∧ SkAt K H A g bt tx ct ∧ tx.map (·.1) = ks.map Sum.inl ∧ (∀ ys : List Int, ys.Perm ks → ys.Pairwise (· ≤ ·) → ys = ns) ∧ RetL (ns.map V.int) H Q

/-! ### the stock's methods -/
theorem sc_is_whole : FnScope ["thing"] ["thing"] (defScope s_is_whole) := ⟨rfl, rfl, rfl, by decide +kernel, rfl, by decide +kernel, by decide +kernel⟩
theorem sc_Stock_init : FnScope ["self"] ["self"] (defScope s_Stock_init) := ⟨rfl, rfl, rfl, by decide +kernel, rfl, by decide +kernel, by decide +kernel⟩
theorem sc_Stock_need : FnScope ["self", "text", "number"] ["self", "text"] (defScope s_Stock_need) := ⟨rfl, rfl, rfl, by decide +kernel, rfl, by decide +kernel, by decide +kernel⟩
theorem sc_Stock_put : FnScope ["self", "number", "text"] ["self", "number", "text"] (defScope s_Stock_put) := ⟨rfl, rfl, rfl, by decide +kernel, rfl, by decide +kernel, by decide +kernel⟩
theorem sc_Stock_free : FnScope ["self", "number", "text"] ["self", "number"] (defScope s_Stock_free) := ⟨rfl, rfl, rfl, by decide +kernel, rfl, by decide +kernel, by decide +kernel⟩
theorem sc_Stock_piece : FnScope ["self", "number"] ["self", "number"] (defScope s_Stock_piece) := ⟨rfl, rfl, rfl, by decide +kernel, rfl, by decide +kernel, by decide +kernel⟩
theorem sc_Stock_count : FnScope ["self", "number"] ["self", "number"] (defScope s_Stock_count) := ⟨rfl, rfl, rfl, by decide +kernel, rfl, by decide +kernel, by decide +kernel⟩
theorem sc_Stock_numbers : FnScope ["self"] ["self"] (defScope s_Stock_numbers) := ⟨rfl, rfl, rfl, by decide +kernel, rfl, by decide +kernel, by decide +kernel⟩
section
variable {P : Program} {w : World} {K : PySem.W.Frag} {mg : Str → Option Value} {base : Heap}
theorem ok_is_whole (T : Txt K mg) : Def P w K mg base 1 (He.ga K "is_whole") ["thing"] sp_is_whole := by
  refine def_mk T.F_is_whole sc_is_whole (fun _ _ _ _ _ _ us hl => match us, hl with | [_], _ => rfl) (fun vs H Q E h => ?_) (fun cdv A outer s H vs Q E hr h => ?_)
  · obtain ⟨x, n, rfl, _⟩ := h
    rfl
  · obtain ⟨x, n, rfl, ht, q⟩ := h
    refine ⟨_, (pss_one (ps_ret (pe_and (pe_callB (kcall_isi (K := K) rfl) (by rfl) T.b_isinstance (by decide +kernel) (pa_cons (pv 0) (pa_cons (pe_bltn (v := .ty "int") (by rfl) T.b_int (by decide +kernel) rfl) pa_nil))) (pe_one (pe_not (pe_callB (kcall_isi (K := K) rfl) (by rfl) T.b_isinstance (by decide +kernel) (pa_cons (pv 0) (pa_cons (pe_bltn (v := .ty "bool") (by rfl) T.b_bool (by decide +kernel) rfl) pa_nil)))))))), ?_⟩
    rw [← isW_and ht] at q
    exact s_ret (ev_andV (ev_isi (ev_var rfl) ht (isW_tn ht).1) fun _ => ev_notV (ev_isi (ev_var rfl) ht (isW_tn ht).2.1)) q
theorem ok_Stock_init (T : Txt K mg) : Def P w K mg base 1 (He.ma K (He.ga K "Stock") "__init__") ["self"] (sp_Stock_init K) := by
  refine def_mk T.F_Stock_init sc_Stock_init (fun _ _ _ _ _ _ us hl => match us, hl with | [_], _ => rfl) (fun vs H Q E h => ?_) (fun cdv A outer s H vs Q E hr h => ?_)
  · obtain ⟨p, dx, rfl, _⟩ := h
    rfl
  · obtain ⟨p, dx, rfl, h0, q⟩ := h
    refine ⟨_, (pss_cons (ps_fld (pv 0) pe_int rfl) (pss_cons (ps_fld (pv 0) pe_dnewK rfl) (pss_cons (ps_fld (pv 0) pe_dnewK rfl) (pss_one (ps_fld (pv 0) pe_dnewK rfl))))), ?_⟩
    refine q_fld (fs := []) ev_c (ev_var rfl) h0 T.cl_Stock T.na_Stock_greatest (by decide) fun H1 e1 => ?_
    refine q_fldN en_dK (ev_var rfl) upd_same T.cl_Stock T.na_Stock_by_text (by show 1 < 1000; decide) fun a H2 ha e2 ha2 => ?_
    have h2 := e2 _ _ (upd_same (H := H1) (a := p))
    have npa : a ≠ p := (ne_of_none (upd_same (H := H1) (a := p)) ha).symm
    refine q_fldN en_dK (ev_var rfl) upd_same T.cl_Stock T.na_Stock_texts (by show 2 < 1000; decide) fun b H3 hb e3 hb3 => ?_
    have npb : b ≠ p := (ne_of_none (upd_same (H := H2) (a := p)) hb).symm
    have ha3 := fun o => (upd_ne (o := o) npa).trans ha2
    have nab : a ≠ b := ne_of_none (ha3 _) hb
    refine s_fldN en_dK (ev_var rfl) upd_same T.cl_Stock T.na_Stock_counts (by show 3 < 1000; decide) fun c H4 hc e4 hc4 => ?_
    have npc : c ≠ p := (ne_of_none (upd_same (H := H3) (a := p)) hc).symm
    have ha4 := fun o => (upd_ne (o := o) npa).trans (e3 _ _ (ha3 _))
    have hb4 := fun o => (upd_ne (o := o) npb).trans hb3
    have m1 := fun o => Evl.Ex.put (a := p) (o := o) e1
    have m2 := fun o => ((m1 _).trans e2.mo).put (o := o) (List.mem_singleton.mpr rfl)
    have m3 := fun o => ((m2 _).trans e3.mo).put (o := o) (List.mem_singleton.mpr rfl)
    have m4 := fun o => ((m3 _).trans e4.mo).put (o := o) (List.mem_singleton.mpr rfl)
    have back : ∀ {H5 : Hp} {z : Addr}, Mo [p] H H5 → z ≠ p → H5 z = none → H z = none := fun {H5 z} m nz h5 => by
      cases hz : H z with
      | none => rfl
      | some o =>
        rw [m z o (by simp [nz]) hz] at h5
        cases h5
    exact q ⟨p, a, b, c⟩ _ rfl (back (m1 _) npa ha) (back (m2 _) npb hb) (back (m3 _) npc hc) (m4 _) ⟨⟨dx, upd_same⟩, (upd_ne npa).trans (e4 _ _ (ha4 _)), (upd_ne npb).trans (e4 _ _ (hb4 _)), (upd_ne npc).trans hc4, nab, ne_of_none (ha4 _) hc, ne_of_none (hb4 _) hc⟩
theorem ok_Stock_put (T : Txt K mg) : Def P w K mg base 1 (He.ma K (He.ga K "Stock") "put") ["self", "number", "text"] (sp_Stock_put K) := by
  refine def_mk T.F_Stock_put sc_Stock_put (fun _ _ _ _ _ _ us hl => match us, hl with | [_, _, _], _ => rfl) (fun vs H Q E h => ?_) (fun cdv A outer s H vs Q E hr h => ?_)
  · obtain ⟨A, n, l, g, bt, tx, ct, rfl, _⟩ := h
    rfl
  · obtain ⟨A, n, l, g, bt, tx, ct, rfl, S, z1, z2, z3, q⟩ := h
    refine ⟨_, (pss_cons (ps_dput (hu_of hr) (kfld (K := K) rfl (pv 0)) (pv 2) (pv 1) rfl) (pss_cons (ps_dput (hu_of hr) (kfld (K := K) rfl (pv 0)) (pv 1) (pv 2) rfl) (pss_one (ps_dput (hu_of hr) (kfld (K := K) rfl (pv 0)) (pv 1) pe_int rfl)))), ?_⟩
    obtain ⟨dx, ho⟩ := S.ob
    refine q_dput (k := tK l) (ev_var rfl) (ev_fld (ev_var rfl) ho T.cl_Stock T.na_Stock_by_text rfl) (ev_var rfl) S.ha z1 fun H1 e1 => ?_
    have S1 := (S.ex e1).putA (bt' := putK bt (tK l) (.int n))
    have m1 := SkAt.ma (A := A) (o := .dK (putK bt (tK l) (.int n))) (Evl.Ex.mo e1)
    obtain ⟨dx1, ho1⟩ := S1.ob
    refine q_dput (k := nK n) (ev_var rfl) (ev_fld (ev_var rfl) ho1 T.cl_Stock T.na_Stock_texts rfl) (ev_var rfl) S1.hb z2 fun H2 e2 => ?_
    have S2 := (S1.ex e2).putB (tx' := putK tx (nK n) (vS l))
    have m2 := SkAt.mb (A := A) (o := .dK (putK tx (nK n) (vS l))) (m1.trans e2.mo)
    obtain ⟨dx2, ho2⟩ := S2.ob
    refine s_dput (k := nK n) ev_c (ev_fld (ev_var rfl) ho2 T.cl_Stock T.na_Stock_counts rfl) (ev_var rfl) S2.hc z3 fun H3 e3 => ?_
    exact q _ (SkAt.mc (m2.trans e3.mo)) (S2.ex e3).putC
theorem ok_Stock_need (T : Txt K mg) : Def P w K mg base 2 (He.ma K (He.ga K "Stock") "need") ["self", "text"] (sp_Stock_need K) := by
  refine def_mk T.F_Stock_need sc_Stock_need (fun _ _ _ _ _ _ us hl => match us, hl with | [_, _], _ => rfl) (fun vs H Q E h => ?_) (fun cdv A outer s H vs Q E hr h => ?_)
  · obtain ⟨A, l, g, bt, tx, ct, rfl, _⟩ := h
    rfl
  · obtain ⟨A, l, g, bt, tx, ct, rfl, S, z1, z2, z3, q⟩ := h
    refine ⟨_, (pss_cons (ps_if (pt_cmp (pc_dnotin (hu_of hr) (pv 1) (kfld (K := K) rfl (pv 0)))) (pss_cons (ps_fld (pv 0) (pe_op op_add (kfld (K := K) rfl (pv 0)) pe_int) rfl) (pss_one (ps_expr (pm (pv 0) T.cl_Stock T.me_Stock_put (ok_Stock_put T) hr (pa_cons (kfld (K := K) rfl (pv 0)) (pa_cons (pv 1) pa_nil)))))) pss_nil) (pss_cons (ps_set (i := 2) sc_Stock_need.nd rfl (.inl rfl) (pe_dget (hu_of hr) (kfld (K := K) rfl (pv 0)) (pv 1) (fun _ _ => rfl))) (pss_cons (ps_dput (hu_of hr) (kfld (K := K) rfl (pv 0)) (pv 2) (pe_op op_add (pe_dget (hu_of hr) (kfld (K := K) rfl (pv 0)) (pv 2) (fun _ _ => rfl)) pe_int) rfl) (pss_one (ps_ret (pv 2)))))), ?_⟩
    obtain ⟨dx, ho⟩ := S.ob
    have tail : ∀ {H1 : Hp} {g' : Int} {bt' tx' ct' : List (Key × V)} {n c : Int}, SkAt K H1 A g' bt' tx' ct' → valV bt' (tK l) = some (.int n) → valV ct' (nK n) = some (.int c) → ct'.length < 100000 →
        (∀ H', Mo A.fp H1 H' → SkAt K H' A g' bt' tx' (putK ct' (nK n) (.int (c + 1))) → Q (.int n) H') →
        tSeq (tAsg (tDGet (tFld K (tVar 0) "by_text") (tVar 1)) (gName 2)) (tSeq (sDPut (tFld K (tVar 0) "counts") (tVar 2) (tOp (rI0 fun i j => .int (i + j)) (tDGet (tFld K (tVar 0) "counts") (tVar 2)) (tC (.int 1)))) (tRet (tVar 2)))
          { nx := fun _ H' => Q .non H', rt := Q } [some (.ref A.p), some (vS l), none] H1 := fun {H1 g' bt' tx' ct' n c} S1 v1 v2 zc k => by
      obtain ⟨dx1, ho1⟩ := S1.ob
      refine q_asg (ev_dget (k := tK l) (ev_fld (ev_var rfl) ho1 T.cl_Stock T.na_Stock_by_text rfl) (ev_var rfl) (.inl S1.ha) v1) fun H2 e2 => ?_
      have S2 := S1.ex e2
      obtain ⟨dx2, ho2⟩ := S2.ob
      refine q_dput (k := nK n) (v := .int (c + 1)) (ev_op (ev_dget (k := nK n) (ev_fld (ev_var rfl) ho2 T.cl_Stock T.na_Stock_counts rfl) (ev_var rfl) (.inl S2.hc) v2) ev_c rv_I0) (ev_fld (ev_var rfl) ho2 T.cl_Stock T.na_Stock_counts rfl) (ev_var rfl) S2.hc zc fun H3 e3 => ?_
      have S3 := (S2.ex e3).putC (ct' := putK ct' (nK n) (.int (c + 1)))
      refine s_ret (ev_var rfl) fun H4 e4 => k H4 ((SkAt.mc (Evl.Ex.mo (e2.trans e3))).trans e4.mo) (S3.ex e4)
    rcases q with ⟨v0, k⟩ | ⟨n, c, v1, v2, k⟩
    · refine q_if_go ?_
      refine et_B (ev_dni (k := tK l) (ev_var rfl) (ev_fld (ev_var rfl) ho T.cl_Stock T.na_Stock_by_text rfl) (.inl S.ha)) H (Ex.refl _) _ fun H1 e1 => ?_
      rw [v0]
      have S1 := S.ex e1
      obtain ⟨dx1, ho1⟩ := S1.ob
      refine q_fld (y := .int (g + 1)) (ev_op (ev_fld (ev_var rfl) ho1 T.cl_Stock T.na_Stock_greatest rfl) ev_c rv_I0) (ev_var rfl) ho1 T.cl_Stock T.na_Stock_greatest (by show 4 < 1000; decide) fun H2 e2 => ?_
      have S2 := (S1.ex e2).putP (f := "greatest") (v := .int (g + 1)) (g' := g + 1) (e2 _ _ ho1) rfl
      have m2 := SkAt.mp (A := A) (o := .ins (He.ga K "Stock") dx1 (putF "greatest" (.int (g + 1)) (skFs A g))) (Evl.Ex.mo (e1.trans e2))
      obtain ⟨dx2, ho2⟩ := S2.ob
      refine m_go (vs := [.int (g + 1), vS l]) (ev_var rfl) ho2 rfl (ea_cons (ev_fld (ev_var rfl) ho2 T.cl_Stock T.na_Stock_greatest rfl) (EvA.one (ev_var rfl))) fun H3 e3 => ?_
      refine ⟨A, g + 1, l, g + 1, bt, tx, ct, rfl, S2.ex e3, by omega, by omega, by omega, fun H4 m4 S4 => ?_⟩
      refine tail S4 (by rw [valV_put, if_pos rfl]) (by rw [valV_put, if_pos rfl]) (by have := length_putK ct (nK (g + 1)) (.int 0); omega) fun H5 m5 S5 => ?_
      exact k H5 (((m2.trans e3.mo).trans m4).trans m5) S5
    · refine q_if_go ?_
      refine et_B (ev_dni (k := tK l) (ev_var rfl) (ev_fld (ev_var rfl) ho T.cl_Stock T.na_Stock_by_text rfl) (.inl S.ha)) H (Ex.refl _) _ fun H1 e1 => ?_
      rw [v1]
      exact tail (S.ex e1) v1 v2 (by omega) fun H5 m5 S5 => k H5 (Mo.trans e1.mo m5) S5
theorem ok_Stock_piece (T : Txt K mg) : Def P w K mg base 2 (He.ma K (He.ga K "Stock") "piece") ["self", "number"] (sp_Stock_piece K) := by
  refine def_mkX T.F_Stock_piece sc_Stock_piece (fun _ _ _ _ _ _ us hl => match us, hl with | [_, _], _ => rfl) (fun vs H Q E h => ?_) (fun cdv A outer s H vs Q E hr h => ?_)
  · obtain ⟨A, x, n, g, bt, tx, ct, rfl, _⟩ := h
    rfl
  · obtain ⟨A, x, n, g, bt, tx, ct, rfl, S, ht, q1, q2⟩ := h
    refine ⟨_, (pss_cons (ps_if (PW.pt (pw_or (pt_not (pt_val (pc (ok_is_whole T) hr T.m_is_whole (pa_cons (pv 1) pa_nil)))) (pw_or1 (pt_cmp (pc_dnotin (hu_of hr) (pv 1) (kfld (K := K) rfl (pv 0))))))) (pss_one (L2N.ps_raise rfl (L2N.takes_of rfl rfl rfl rfl) (pmk_e T.x_NotThere))) pss_nil) (pss_one (ps_ret (pe_dget (hu_of hr) (kfld (K := K) rfl (pv 0)) (pv 1) (fun _ _ => rfl))))), ?_⟩
    obtain ⟨dx, ho⟩ := S.ob
    cases ew : isW x with
    | false =>
      have e0 : atN tx x = none := by
        cases x with
        | int i => cases ew
        | _ => rfl
      refine q_when (b := true) (et_or (a := true) (b := true) (et_not (a := false) (et_B (ev_call (EvA.one (ev_var rfl)) (by rw [← ew]; exact sv_is_whole ht)))) fun hb => by cases hb) (fun _ H1 e1 => ?_) (fun hb => by cases hb)
      exact q2 e0 _ e1
    | true =>
      obtain ⟨i, rfl⟩ : ∃ i, x = .int i := by
        cases x with
        | int i => exact ⟨i, rfl⟩
        | _ => cases ew
      have hw : EvT (tNot (tB (tCall sp_is_whole [] E0 (tCons (tVar 1) tNil)))) [some (.ref A.p), some (.int i)] H false := et_not (a := true) (et_B (ev_call (EvA.one (ev_var rfl)) (sv_is_whole ht)))
      cases ev : valV tx (nK i) with
      | none =>
        refine q_when (b := true) (et_or (a := false) (b := true) hw fun _ => et_is (et_B (ev_dni (k := nK i) (ev_var rfl) (ev_fld (ev_var rfl) ho T.cl_Stock T.na_Stock_texts rfl) (.inl S.hb))) (by rw [ev]; rfl)) (fun _ H1 e1 => ?_) (fun hb => by cases hb)
        exact q2 ev _ e1
      | some v =>
        refine q_when (b := false) (et_or (a := false) (b := false) hw fun _ => et_is (et_B (ev_dni (k := nK i) (ev_var rfl) (ev_fld (ev_var rfl) ho T.cl_Stock T.na_Stock_texts rfl) (.inl S.hb))) (by rw [ev]; rfl)) (fun hb => by cases hb) (fun _ H1 e1 => ?_)
        exact s_ret (ev_dget (k := nK i) (ev_fld (ev_var rfl) (e1 _ _ ho) T.cl_Stock T.na_Stock_texts rfl) (ev_var rfl) (.inl (e1 _ _ S.hb)) ev) fun H2 e2 => q1 v ev _ (e1.trans e2)
theorem ok_Stock_count (T : Txt K mg) : Def P w K mg base 2 (He.ma K (He.ga K "Stock") "count") ["self", "number"] (sp_Stock_count K) := by
  refine def_mk T.F_Stock_count sc_Stock_count (fun _ _ _ _ _ _ us hl => match us, hl with | [_, _], _ => rfl) (fun vs H Q E h => ?_) (fun cdv A outer s H vs Q E hr h => ?_)
  · obtain ⟨A, x, n, g, bt, tx, ct, rfl, _⟩ := h
    rfl
  · obtain ⟨A, x, n, g, bt, tx, ct, rfl, S, ht, q⟩ := h
    refine ⟨_, (pss_cons (ps_if (pt_not (pt_val (pc (ok_is_whole T) hr T.m_is_whole (pa_cons (pv 1) pa_nil)))) (pss_one (ps_ret pe_int)) pss_nil) (pss_one (ps_ret (pe_dget2 (hu_of hr) (kfld (K := K) rfl (pv 0)) (pv 1) pe_int ⟨rfl, rfl, rfl, rfl⟩)))), ?_⟩
    obtain ⟨dx, ho⟩ := S.ob
    cases ew : isW x with
    | false =>
      have e0 : atN ct x = none := by
        cases x with
        | int i => cases ew
        | _ => rfl
      rw [e0] at q
      exact q_when (b := true) (et_not (a := false) (et_B (ev_call (EvA.one (ev_var rfl)) (by rw [← ew]; exact sv_is_whole ht)))) (fun _ H1 e1 => s_ret ev_c fun H2 e2 => q _ (e1.trans e2)) (fun hb => by cases hb)
    | true =>
      obtain ⟨i, rfl⟩ : ∃ i, x = .int i := by
        cases x with
        | int i => exact ⟨i, rfl⟩
        | _ => cases ew
      refine q_when (b := false) (et_not (a := true) (et_B (ev_call (EvA.one (ev_var rfl)) (sv_is_whole ht)))) (fun hb => by cases hb) (fun _ H1 e1 => ?_)
      exact s_ret (ev_dgetD (k := nK i) (ev_fld (ev_var rfl) (e1 _ _ ho) T.cl_Stock T.na_Stock_counts rfl) (ev_var rfl) ev_c (.inl (e1 _ _ S.hc))) fun H2 e2 => q _ (e1.trans e2)
theorem ok_Stock_numbers (T : Txt K mg) : Def P w K mg base 1 (He.ma K (He.ga K "Stock") "numbers") ["self"] (sp_Stock_numbers K) := by
  refine def_mk T.F_Stock_numbers sc_Stock_numbers (fun _ _ _ _ _ _ us hl => match us, hl with | [_], _ => rfl) (fun vs H Q E h => ?_) (fun cdv A outer s H vs Q E hr h => ?_)
  · obtain ⟨A, g, bt, tx, ct, ks, ns, rfl, _⟩ := h
    rfl
  · obtain ⟨A, g, bt, tx, ct, ks, ns, rfl, S, hk, hs, q⟩ := h
    refine ⟨_, (pss_one (ps_ret (pe_callB (cr_sortedDN rfl) (by rfl) T.b_sorted (by decide +kernel) (pa_cons (kfld (K := K) rfl (pv 0)) pa_nil)))), ?_⟩
    obtain ⟨dx, ho⟩ := S.ob
    exact s_retL (el_sortDN (ev_fld (ev_var rfl) ho T.cl_Stock T.na_Stock_texts rfl) (.inl S.hb) hk hs) q
theorem ok_Stock_free (T : Txt K mg) : Def P w K mg base 3 (He.ma K (He.ga K "Stock") "free") ["self", "number"] (sp_Stock_free K) := by
  refine def_mkX T.F_Stock_free sc_Stock_free (fun _ _ _ _ _ _ us hl => match us, hl with | [_, _], _ => rfl) (fun vs H Q E h => ?_) (fun cdv A outer s H vs Q E hr h => ?_)
  · obtain ⟨A, x, nm, g, bt, tx, ct, rfl, _⟩ := h
    rfl
  · obtain ⟨A, x, nm, g, bt, tx, ct, rfl, S, ht, zc, q0, q⟩ := h
    refine ⟨_, (pss_cons (ps_set (i := 2) sc_Stock_free.nd rfl (.inl rfl) (pmX (E := E) (pv 0) T.cl_Stock T.me_Stock_piece (ok_Stock_piece T) hr (L2N.passes_call (L2N.takes_of rfl rfl rfl rfl) (fun _ _ _ _ h => h)) (pa_cons (pv 1) pa_nil))) (pss_cons (ps_dput (hu_of hr) (kfld (K := K) rfl (pv 0)) (pv 1) (pe_op op_sub (pe_dget (hu_of hr) (kfld (K := K) rfl (pv 0)) (pv 1) (fun _ _ => rfl)) pe_int) rfl) (pss_one (ps_if (pt_cmpR op_eq (pe_dget (hu_of hr) (kfld (K := K) rfl (pv 0)) (pv 1) (fun _ _ => rfl)) pe_int (nomark _)) (pss_cons (ps_expr (pe_dpop1 (kfld (K := K) rfl (pv 0)) (pv 2) ⟨rfl, rfl, rfl, rfl⟩)) (pss_cons (ps_expr (pe_dpop1 (kfld (K := K) rfl (pv 0)) (pv 1) ⟨rfl, rfl, rfl, rfl⟩)) (pss_one (ps_expr (pe_dpop1 (kfld (K := K) rfl (pv 0)) (pv 1) ⟨rfl, rfl, rfl, rfl⟩))))) pss_nil)))), ?_⟩
    obtain ⟨dx, ho⟩ := S.ob
    refine m_go (vs := [x]) (ev_var rfl) ho rfl (EvA.one (ev_var rfl)) fun H1 e1 => ⟨A, x, nm, g, bt, tx, ct, rfl, S.ex e1, ht.ex e1, fun v hv H2 e2 => ?_, fun hn H2 e2 => q0 hn _ (e1.trans e2)⟩
    obtain ⟨n, c, l, rfl, rfl, v2, v3, k1, k2⟩ := q v hv
    have e12 := e1.trans e2
    have S2 := S.ex e12
    obtain ⟨dx2, ho2⟩ := S2.ob
    show tSeq _ _ _ [some (.ref A.p), some (.int n), some (vS l)] H2
    refine q_dput (k := nK n) (v := .int (c - 1)) (ev_op (ev_dget (k := nK n) (ev_fld (ev_var rfl) ho2 T.cl_Stock T.na_Stock_counts rfl) (ev_var rfl) (.inl S2.hc) v2) ev_c rv_I0) (ev_fld (ev_var rfl) ho2 T.cl_Stock T.na_Stock_counts rfl) (ev_var rfl) S2.hc (by omega) fun H3 e3 => ?_
    have S3 := (S2.ex e3).putC (ct' := putK ct (nK n) (.int (c - 1)))
    have m3 := SkAt.mc (A := A) (o := .dK (putK ct (nK n) (.int (c - 1)))) (Evl.Ex.mo (e12.trans e3))
    obtain ⟨dx3, ho3⟩ := S3.ob
    refine s_when (b := decide (c - 1 = 0)) (et_test (ev_op (ev_dget (v := .int (c - 1)) (k := nK n) (ev_fld (ev_var rfl) ho3 T.cl_Stock T.na_Stock_counts rfl) (ev_var rfl) (.inl S3.hc) (by rw [valV_put, if_pos rfl])) ev_c rv_eqI)) (fun hb H4 e4 => ?_) (fun hb H4 e4 => ?_)
    · have hc := of_decide_eq_true hb
      have S4 := S3.ex e4
      obtain ⟨dx4, ho4⟩ := S4.ob
      obtain ⟨v', hv'⟩ := Option.isSome_iff_exists.mp v3
      refine q_dpop (k := tK l) (ev_fld (ev_var rfl) ho4 T.cl_Stock T.na_Stock_by_text rfl) (ev_var rfl) S4.ha hv' fun H5 e5 => ?_
      have S5 := (S4.ex e5).putA (bt' := dropK bt (tK l))
      have m5 := SkAt.ma (A := A) (o := .dK (dropK bt (tK l))) (m3.trans (Evl.Ex.mo (e4.trans e5)))
      obtain ⟨dx5, ho5⟩ := S5.ob
      refine q_dpop (k := nK n) (ev_fld (ev_var rfl) ho5 T.cl_Stock T.na_Stock_texts rfl) (ev_var rfl) S5.hb hv fun H6 e6 => ?_
      have S6 := (S5.ex e6).putB (tx' := dropK tx (nK n))
      have m6 := SkAt.mb (A := A) (o := .dK (dropK tx (nK n))) (m5.trans e6.mo)
      obtain ⟨dx6, ho6⟩ := S6.ob
      refine s_dpop (v := .int (c - 1)) (k := nK n) (ev_fld (ev_var rfl) ho6 T.cl_Stock T.na_Stock_counts rfl) (ev_var rfl) S6.hc (by rw [valV_put, if_pos rfl]) fun H7 e7 => ?_
      exact k2 (by omega) _ (SkAt.mc (m6.trans e7.mo)) (S6.ex e7).putC
    · have hc := of_decide_eq_false hb
      exact k1 (by omega) _ (m3.trans e4.mo) (S3.ex e4)
end

/-! plain data, and where it stands in the heap -/
inductive Dt where
  | non | tru | int (i : Int) | str (l : List Nat) | lst (ds : List Dt) | tup (ds : List Dt)
mutual
/-- the value v is the datum d -/
def Rep (H : Hp) : Dt → V → Prop
  | .non, v => v = .non
  | .tru, v => v = .bl true
  | .int i, v => v = .int i
  | .str l, v => v = .str (SX.S l)
  | .lst ds, v => ∃ a xs, v = .ref a ∧ H a = some (.lst xs) ∧ RepL H ds xs
  | .tup ds, v => ∃ a xs, v = .ref a ∧ H a = some (.tup xs) ∧ RepL H ds xs
def RepL (H : Hp) : List Dt → List V → Prop
  | [], xs => xs = []
  | d :: ds, xs => ∃ x r, xs = x :: r ∧ Rep H d x ∧ RepL H ds r
end
/-- not deeper than n, no list too long -/
def Fit : Nat → Dt → Prop
  | _, .non => True
  | _, .tru => True
  | _, .int _ => True
  | _, .str _ => True
  | 0, _ => False
  | n + 1, .lst ds => ds.length ≤ 50000 ∧ ∀ d ∈ ds, Fit n d
  | n + 1, .tup ds => ds.length ≤ 50000 ∧ ∀ d ∈ ds, Fit n d
mutual
theorem Rep.ex {H H' : Hp} (e : Ex H H') : ∀ {d : Dt} {v : V}, Rep H d v → Rep H' d v
  | .non, _, h => h
  | .tru, _, h => h
  | .int _, _, h => h
  | .str _, _, h => h
  | .lst ds, _, h => by
    unfold Rep at h ⊢
    obtain ⟨a, xs, h1, h2, h3⟩ := h
    exact ⟨a, xs, h1, e _ _ h2, RepL.ex e h3⟩
  | .tup ds, _, h => by
    unfold Rep at h ⊢
    obtain ⟨a, xs, h1, h2, h3⟩ := h
    exact ⟨a, xs, h1, e _ _ h2, RepL.ex e h3⟩
theorem RepL.ex {H H' : Hp} (e : Ex H H') : ∀ {ds : List Dt} {xs : List V}, RepL H ds xs → RepL H' ds xs
  | [], _, h => h
  | d :: ds, _, h => by
    unfold RepL at h ⊢
    obtain ⟨x, r, h1, h2, h3⟩ := h
    exact ⟨x, r, h1, Rep.ex e h2, RepL.ex e h3⟩
end
theorem RepL.len {H : Hp} : ∀ {ds : List Dt} {xs : List V}, RepL H ds xs → xs.length = ds.length
  | [], _, h => by
    unfold RepL at h
    rw [h]
    rfl
  | d :: ds, _, h => by
    unfold RepL at h
    obtain ⟨x, r, rfl, _, h3⟩ := h
    rw [List.length_cons, List.length_cons, RepL.len h3]
theorem RepL.get {H : Hp} : ∀ {ds : List Dt} {xs : List V} {i : Nat} {d : Dt}, RepL H ds xs → ds[i]? = some d → ∃ x, xs[i]? = some x ∧ Rep H d x
  | [], _, i, d, _, e => by
    rw [List.getElem?_nil] at e
    cases e
  | d :: ds, _, 0, d', h, e => by
    unfold RepL at h
    obtain ⟨x, r, rfl, h2, _⟩ := h
    rw [List.getElem?_cons_zero] at e
    cases e
    exact ⟨x, rfl, h2⟩
  | d :: ds, _, i + 1, d', h, e => by
    unfold RepL at h
    obtain ⟨x, r, rfl, _, h3⟩ := h
    rw [List.getElem?_cons_succ] at e
    obtain ⟨y, h4, h5⟩ := RepL.get h3 e
    exact ⟨y, by rw [List.getElem?_cons_succ]; exact h4, h5⟩
theorem RepL.snoc {H : Hp} {d : Dt} {x : V} : ∀ {ds : List Dt} {xs : List V}, RepL H ds xs → Rep H d x → RepL H (ds ++ [d]) (xs ++ [x])
  | [], _, h, hx => by
    unfold RepL at h
    subst h
    show RepL H [d] [x]
    unfold RepL
    exact ⟨x, [], rfl, hx, by unfold RepL; rfl⟩
  | e :: ds, _, h, hx => by
    unfold RepL at h
    obtain ⟨y, r, rfl, h2, h3⟩ := h
    show RepL H (e :: (ds ++ [d])) (y :: (r ++ [x]))
    unfold RepL
    exact ⟨y, _, rfl, h2, RepL.snoc h3 hx⟩
theorem RepL.map {α : Type} {H : Hp} (f : α → Dt) (g : α → V) (h : ∀ a, Rep H (f a) (g a)) : ∀ l : List α, RepL H (l.map f) (l.map g)
  | [] => by
    unfold RepL
    rfl
  | a :: l => by
    unfold RepL
    exact ⟨_, _, rfl, h a, RepL.map f g h l⟩
theorem RepL.maps {α : Type} {H : Hp} (f : α → Dt) (g : α → V) : ∀ l : List α, (∀ a ∈ l, Rep H (f a) (g a)) → RepL H (l.map f) (l.map g)
  | [], _ => by
    unfold RepL
    rfl
  | a :: l, h => by
    unfold RepL
    exact ⟨_, _, rfl, h a (List.mem_cons_self ..), RepL.maps f g l fun b hb => h b (List.mem_cons_of_mem _ hb)⟩
/-- the kinds -/
def Dt.kd : Dt → String
  | .non => "NoneType" | .tru => "bool" | .int _ => "int" | .str _ => "str" | .lst _ => "list" | .tup _ => "tuple"
theorem Rep.tn {H : Hp} {d : Dt} {v : V} (h : Rep H d v) : TN H v d.kd := by
  cases d with
  | non =>
    unfold Rep at h
    subst h
    exact .non
  | tru =>
    unfold Rep at h
    subst h
    exact .bl _
  | int i =>
    unfold Rep at h
    subst h
    exact .int _
  | str l =>
    unfold Rep at h
    subst h
    exact .str _
  | lst ds =>
    unfold Rep at h
    obtain ⟨a, xs, rfl, h2, _⟩ := h
    exact .lst h2
  | tup ds =>
    unfold Rep at h
    obtain ⟨a, xs, rfl, h2, _⟩ := h
    exact .tup h2
def sp_alike (n : Nat) : Sp := fun vs H Q _ => ∃ (g u : V) (d : Dt), vs = [g, u] ∧ Rep H d g ∧ Rep H d u ∧ Fit n d ∧ RetV (.bl true) H Q
theorem sv_alike {n : Nat} {H : Hp} {g u : V} {d : Dt} (h1 : Rep H d g) (h2 : Rep H d u) (h3 : Fit n d) : SpV (sp_alike n) ([g, u] ++ []) H (.bl true) := fun H1 e Q q E => ⟨g, u, d, rfl, h1.ex e, h2.ex e, h3, q⟩

/-! what evaluates to a datum -/
def EvD (te : TE) (σ : L2.St) (H : Hp) (d : Dt) : Prop := ∀ H1, Ex H H1 → ∀ Q : VK, (∀ v H2, Ex H1 H2 → Rep H2 d v → Q v H2) → te σ H1 Q
def EvAD (ta : TA) (σ : L2.St) (H : Hp) (ds : List Dt) : Prop := ∀ H1, Ex H H1 → ∀ Q : List V → Hp → Prop, (∀ vs H2, Ex H1 H2 → RepL H2 ds vs → Q vs H2) → ta σ H1 Q
section
variable {K : PySem.W.Frag} {σ : L2.St} {H H' : Hp} {ta tb te tx : TE} {t u : TT} {x y z v : V} {d : Dt} {ds : List Dt}
theorem EvD.mono (e : Ex H H') (h : EvD te σ H d) : EvD te σ H' d := fun H1 a Q q => h H1 (e.trans a) Q q
theorem evd_of (h : Ev te σ H v) (r : Rep H d v) : EvD te σ H d := fun H1 e Q q => h H1 e Q fun H2 e2 => q v H2 e2 (r.ex (e.trans e2))
theorem evd_int {i : Int} (h : Ev te σ H (.int i)) : EvD te σ H (.int i) := evd_of h (by unfold Rep; rfl)
theorem evd_str {l : List Nat} (h : Ev te σ H (.str (SX.S l))) : EvD te σ H (.str l) := evd_of h (by unfold Rep; rfl)
theorem evd_tru (h : Ev te σ H (.bl true)) : EvD te σ H .tru := evd_of h (by unfold Rep; rfl)
theorem evd_non (h : Ev te σ H .non) : EvD te σ H .non := evd_of h (by unfold Rep; rfl)
theorem evd_L {xs : List V} (h : EvL te σ H xs) (r : ∀ H1, Ex H H1 → RepL H1 ds xs) : EvD te σ H (.lst ds) := fun H1 e Q q => h H1 e Q fun p H2 _ e2 h2 => q _ H2 e2 (by
  unfold Rep
  exact ⟨p, xs, rfl, h2, r H2 (e.trans e2)⟩)
theorem evd_U {xs : List V} (h : EvU te σ H xs) (r : ∀ H1, Ex H H1 → RepL H1 ds xs) : EvD te σ H (.tup ds) := fun H1 e Q q => h H1 e Q fun p H2 _ e2 h2 => q _ H2 e2 (by
  unfold Rep
  exact ⟨p, xs, rfl, h2, r H2 (e.trans e2)⟩)
theorem ead_nil : EvAD tNil σ H [] := fun H1 _ _ q => q [] H1 (Ex.refl H1) (by unfold RepL; rfl)
theorem ead_cons {tr : TA} (h : EvD te σ H d) (hr : EvAD tr σ H ds) : EvAD (tCons te tr) σ H (d :: ds) := fun H1 e Q q => h H1 e _ fun v H2 e2 r2 => hr H2 (e.trans e2) _ fun vs H3 e3 r3 => q _ H3 (e2.trans e3) (by
  unfold RepL
  exact ⟨v, vs, rfl, r2.ex e3, r3⟩)
theorem evd_tup {ta : TA} (h : EvAD ta σ H ds) (hl : ds.length ≤ 50000) : EvD (tTup ta) σ H (.tup ds) := fun H1 e Q q => h H1 e _ fun vs H2 e2 r2 => ⟨by rw [r2.len, sizeLine_eq]; omega, fun p hp => q _ _ (e2.trans (Ex.new hp)) (by
  unfold Rep
  exact ⟨p, vs, rfl, upd_same, r2.ex (Ex.new hp)⟩)⟩
theorem evd_lst {ta : TA} (h : EvAD ta σ H ds) (hl : ds.length ≤ 50000) : EvD (tLst ta) σ H (.lst ds) := fun H1 e Q q => h H1 e _ fun vs H2 e2 r2 => ⟨by rw [r2.len, sizeLine_eq]; omega, fun p hp => q _ _ (e2.trans (Ex.new hp)) (by
  unfold Rep
  exact ⟨p, vs, rfl, upd_same, r2.ex (Ex.new hp)⟩)⟩
/-- the law's alike of the same datum twice -/
theorem ev_alike {n : Nat} {E : XK} (h1 : EvD ta σ H d) (h2 : EvD tb σ H d) (hf : Fit n d) : Ev (tCall (sp_alike n) [] E (tCons ta (tCons tb tNil))) σ H (.bl true) := fun H1 e Q q =>
  h1 H1 e _ fun v H2 e2 r2 => h2 H2 (e.trans e2) _ fun w' H3 e3 r3 => sv_alike (r2.ex e3) r3 hf H3 (Ex.refl H3) Q (fun H4 e4 => q H4 ((e2.trans e3).trans e4)) E
/-- xs + ys, a new list -/
theorem el_cat {a : Addr} {xs ys : List V} (h1 : Ev ta σ H (.ref a)) (hx : H a = some (.lst xs)) (h2 : EvL tb σ H ys) (hl : xs.length + ys.length ≤ 100000) : EvL (tOp rCat ta tb) σ H (xs ++ ys) := fun H1 e Q q =>
  h1 H1 e _ fun H2 e2 => h2 H2 (e.trans e2) _ fun p H3 hp e3 h3 => ⟨a, p, xs, ys, rfl, rfl, e3 _ _ ((e.trans e2) _ _ hx), h3, by rw [sizeLine_eq]; omega, fun d hd => q d _ (fresh_back (e2.trans e3) hd) ((e2.trans e3).trans (Ex.new hd)) upd_same⟩
theorem evd_of_L {xs : List V} (h : EvL te σ H xs) (r : ∀ p H1, H1 p = some (.lst xs) → Rep H1 d (.ref p)) : EvD te σ H d := fun H1 e Q q => h H1 e Q fun p H2 _ e2 h2 => q _ H2 e2 (r p H2 h2)
/-- both new -/
theorem el_catN {xs ys : List V} (h1 : EvL ta σ H xs) (h2 : ∀ H1, Ex H H1 → EvL tb σ H1 ys) (hl : xs.length + ys.length ≤ 100000) : EvL (tOp rCat ta tb) σ H (xs ++ ys) := fun H1 e Q q =>
  h1 H1 e _ fun a H2 _ e2 hx => h2 H2 (e.trans e2) H2 (Ex.refl _) _ fun p H3 hp e3 h3 => ⟨a, p, xs, ys, rfl, rfl, e3 _ _ hx, h3, by rw [sizeLine_eq]; omega, fun d hd => q d _ (fresh_back (e2.trans e3) hd) ((e2.trans e3).trans (Ex.new hd)) upd_same⟩
end

/-! == of data -/
mutual
def Dt.toP : Dt → PyData
  | .non => .none
  | .tru => .bool true
  | .int i => .int i
  | .str l => .str (SX.S l)
  | .lst ds => .list (toPL ds)
  | .tup ds => .tuple (toPL ds)
def toPL : List Dt → List PyData
  | [] => []
  | d :: ds => d.toP :: toPL ds
end
mutual
/-- its texts are of signs that there are -/
def Sg : Dt → Prop
  | .str l => ∀ c ∈ l, c < 1114112
  | .lst ds => SgL ds
  | .tup ds => SgL ds
  | .non => True
  | .tru => True
  | .int _ => True
def SgL : List Dt → Prop
  | [] => True
  | d :: ds => Sg d ∧ SgL ds
end
theorem sgL_all : ∀ {ds : List Dt}, (∀ d ∈ ds, Sg d) → SgL ds
  | [], _ => by
    unfold SgL
    trivial
  | d :: ds, h => by
    unfold SgL
    exact ⟨h d (List.mem_cons_self ..), sgL_all fun e he => h e (List.mem_cons_of_mem _ he)⟩
mutual
theorem can_toP : ∀ {d : Dt}, Sg d → d.toP.canLay0 = true
  | .non, _ => by unfold Dt.toP; rfl
  | .tru, _ => by unfold Dt.toP; rfl
  | .int _, _ => by unfold Dt.toP; rfl
  | .str l, h => by
    unfold Sg at h
    unfold Dt.toP
    show PyData.strOk (SX.S l) = true
    unfold PyData.strOk
    rw [← Array.all_toList]
    exact List.all_eq_true.mpr fun c hc => decide_eq_true (h c hc)
  | .lst ds, h => by
    unfold Sg at h
    unfold Dt.toP
    exact can_toPL h
  | .tup ds, h => by
    unfold Sg at h
    unfold Dt.toP
    exact can_toPL h
theorem can_toPL : ∀ {ds : List Dt}, SgL ds → PyData.canLayAll0 (toPL ds) = true
  | [], _ => by
    unfold toPL
    rfl
  | d :: ds, h => by
    unfold SgL at h
    unfold toPL
    show (d.toP.canLay0 && PyData.canLayAll0 (toPL ds)) = true
    rw [can_toP h.1, can_toPL h.2]
    rfl
end
theorem toPL_map : ∀ ds : List Dt, toPL ds = ds.map Dt.toP
  | [] => by unfold toPL; rfl
  | d :: ds => by
    unfold toPL
    rw [toPL_map ds]
    rfl
theorem depthAll_le {n : Nat} : ∀ {ds : List PyData}, (∀ d ∈ ds, d.depth ≤ n) → PyData.depthAll ds ≤ n
  | [], _ => Nat.zero_le _
  | d :: ds, h => by
    show max d.depth (PyData.depthAll ds) ≤ n
    have h1 := h d (List.mem_cons_self ..)
    have h2 := depthAll_le (ds := ds) fun e he => h e (List.mem_cons_of_mem _ he)
    omega
theorem depth_toP : ∀ {n : Nat} {d : Dt}, Fit n d → d.toP.depth ≤ n
  | _, .non, _ => by unfold Dt.toP; exact Nat.zero_le _
  | _, .tru, _ => by unfold Dt.toP; exact Nat.zero_le _
  | _, .int _, _ => by unfold Dt.toP; exact Nat.zero_le _
  | _, .str _, _ => by unfold Dt.toP; exact Nat.zero_le _
  | 0, .lst _, h => by
    unfold Fit at h
    exact h.elim
  | 0, .tup _, h => by
    unfold Fit at h
    exact h.elim
  | n + 1, .lst ds, h => by
    unfold Fit at h
    unfold Dt.toP
    show PyData.depthAll (toPL ds) + 1 ≤ n + 1
    rw [toPL_map]
    refine Nat.succ_le_succ (depthAll_le fun d hd => ?_)
    obtain ⟨e, he, rfl⟩ := List.mem_map.mp hd
    exact depth_toP (h.2 e he)
  | n + 1, .tup ds, h => by
    unfold Fit at h
    unfold Dt.toP
    show PyData.depthAll (toPL ds) + 1 ≤ n + 1
    rw [toPL_map]
    refine Nat.succ_le_succ (depthAll_le fun d hd => ?_)
    obtain ⟨e, he, rfl⟩ := List.mem_map.mp hd
    exact depth_toP (h.2 e he)
theorem shaped_toP {n : Nat} {d : Dt} (hf : Fit n d) (hs : Sg d) (hn : n ≤ 64) : SeqAt.shaped d.toP = true := by
  unfold SeqAt.shaped
  rw [can_toP hs, Bool.true_and]
  exact decide_eq_true (Nat.le_trans (depth_toP hf) hn)
mutual
theorem Rep.dp {K : PySem.W.Frag} {H : Hp} : ∀ {d : Dt} {v : V}, Rep H d v → Dp K H v d.toP
  | .non, _, h => by
    unfold Rep at h
    subst h
    unfold Dt.toP
    exact .non
  | .tru, _, h => by
    unfold Rep at h
    subst h
    unfold Dt.toP
    exact .bl _
  | .int i, _, h => by
    unfold Rep at h
    subst h
    unfold Dt.toP
    exact .int _
  | .str l, _, h => by
    unfold Rep at h
    subst h
    unfold Dt.toP
    exact .str _
  | .lst ds, _, h => by
    unfold Rep at h
    obtain ⟨a, xs, rfl, h2, h3⟩ := h
    unfold Dt.toP
    exact .lst (sq_of h2) (RepL.dp h3)
  | .tup ds, _, h => by
    unfold Rep at h
    obtain ⟨a, xs, rfl, h2, h3⟩ := h
    unfold Dt.toP
    exact .tup (st_of h2) (RepL.dp h3)
theorem RepL.dp {K : PySem.W.Frag} {H : Hp} : ∀ {ds : List Dt} {xs : List V}, RepL H ds xs → DpAll K H xs (toPL ds)
  | [], _, h => by
    unfold RepL at h
    subst h
    unfold toPL
    exact .nil
  | d :: ds, _, h => by
    unfold RepL at h
    obtain ⟨x, r, rfl, h2, h3⟩ := h
    unfold toPL
    exact .cons (Rep.dp h2) (RepL.dp h3)
end
section
variable {K : PySem.W.Frag} {σ : L2.St} {H H' : Hp} {ta tb te tx : TE} {t u : TT} {x y z v : V} {d d2 : Dt} {ds : List Dt}
theorem ev_eqD {n : Nat} (h1 : EvD ta σ H d) (h2 : EvD tb σ H d2) (f1 : Fit n d) (f2 : Fit n d2) (s1 : Sg d) (s2 : Sg d2) (hn : n ≤ 64 := by decide) : Ev (tOp (rEqD K) ta tb) σ H (.bl (PyData.eqv d.toP d2.toP)) := fun H1 e Q q =>
  h1 H1 e _ fun v H2 e2 r2 => h2 H2 (e.trans e2) _ fun w' H3 e3 r3 => ⟨d.toP, d2.toP, (r2.ex e3).dp, r3.dp, shaped_toP f1 s1 hn, shaped_toP f2 s2 hn, q H3 (e2.trans e3)⟩
theorem ev_neD {n : Nat} (h1 : EvD ta σ H d) (h2 : EvD tb σ H d2) (f1 : Fit n d) (f2 : Fit n d2) (s1 : Sg d) (s2 : Sg d2) (hn : n ≤ 64 := by decide) : Ev (tOp (rNeD K) ta tb) σ H (.bl (!PyData.eqv d.toP d2.toP)) := fun H1 e Q q =>
  h1 H1 e _ fun v H2 e2 r2 => h2 H2 (e.trans e2) _ fun w' H3 e3 r3 => ⟨d.toP, d2.toP, (r2.ex e3).dp, r3.dp, shaped_toP f1 s1 hn, shaped_toP f2 s2 hn, q H3 (e2.trans e3)⟩
theorem eqv_same (s : Sg d) : PyData.eqv d.toP d.toP = true := SeqAt.eqv_refl _ (can_toP s)
/-- ''.join(xs) -/
theorem joinL_nil : ∀ ps : List (List Nat), TL.joinL [] ps = ps.flatten
  | [] => rfl
  | [p] => by simp [TL.joinL]
  | p :: q :: r => by
    show p ++ ([] ++ TL.joinL [] (q :: r)) = _
    rw [joinL_nil (q :: r), List.nil_append]
    rfl
theorem sum_lens (ps : List (List Nat)) : (ps.map List.length).sum = ps.flatten.length := by
  rw [List.length_flatten]
theorem ev_join0 {a : Addr} {ps : List (List Nat)} (hx : Ev tx σ H (.ref a)) (hl : H a = some (.lst (ps.map vS))) (hz : ps.flatten.length ≤ 1000000) :
    Ev (tM1 (rJoin K) (tC (.str (Str.ofString ""))) tx) σ H (vS ps.flatten) := fun H1 e Q q => ⟨⟨_, rfl⟩, hx H1 e _ fun H2 e2 => ⟨Str.ofString "", a, ps.map SX.S, rfl, rfl, .inl (by
    rw [List.map_map]
    exact sq_of ((e.trans e2) _ _ hl)), by
      rw [SX.lens, sum_lens, List.length_map]
      have h0 : (Str.ofString "").length = 0 := by decide +kernel
      rw [h0]
      omega, by
      have h0 : Str.ofString "" = SX.S [] := by rw [lit]; rfl
      rw [h0, SX.join_S, joinL_nil]
      exact q H2 e2⟩⟩
/-- .. of a new list -/
theorem ev_join0N {ps : List (List Nat)} (hx : EvL tx σ H (ps.map vS)) (hz : ps.flatten.length ≤ 1000000) :
    Ev (tM1 (rJoin K) (tC (.str (Str.ofString ""))) tx) σ H (vS ps.flatten) := fun H1 e Q q => ⟨⟨_, rfl⟩, hx H1 e _ fun a H2 _ e2 h2 => ⟨Str.ofString "", a, ps.map SX.S, rfl, rfl, .inl (by
    rw [List.map_map]
    exact sq_of h2), by
      rw [SX.lens, sum_lens, List.length_map]
      have h0 : (Str.ofString "").length = 0 := by decide +kernel
      rw [h0]
      omega, by
      have h0 : Str.ofString "" = SX.S [] := by rw [lit]; rfl
      rw [h0, SX.join_S, joinL_nil]
      exact q H2 e2⟩⟩
end

/-! ### the words of exceptions -/
def wIf (m x : Str) (s : String) : List (List Nat) := if m = x then [cd s] else []
def wordsOf (x : Str) : List (List Nat) := wIf "NoSize" x "no size" ++ wIf "NoName" x "no name" ++ wIf "NotThere" x "not there" ++ wIf "NoPlace" x "no place" ++ wIf "NoText" x "no text" ++ wIf "TooLong" x "too long" ++ wIf "TooMany" x "too many" ++ wIf "NoNote" x "no note"
def wordOf (x : Str) : List Nat := (wordsOf x).flatten
def spe_word (K : PySem.W.Frag) : Addr → Value → Option Addr → Sp := fun a cls d vs H Q _ => ∃ x, x ∈ exNames ∧ cls = .ref (He.ga K x) ∧ d = none ∧ vs = [.ref a] ∧ RetU [vS (wordOf x), .bl true] H Q
theorem wIf_len (m x : Str) (s : String) : (wIf m x s).length ≤ 1 := by
  unfold wIf
  split <;> simp
section
variable {K : PySem.W.Frag} {mg : Str → Option Value} {σ : L2.St} {H0 H : Hp} {D : Ends} {ta tb : TE} {tz : TS} {a d : Addr}
theorem word_step {x m : Str} {s : String} {ws : List (List Nat)} (F : ExF K mg x) (hm : m ∈ exNames) (ha : Ev ta σ H (.ref a)) (hd : ∀ H1, Ex H H1 → Ev tb σ H1 (.ref d)) (e0 : Ex H0 H) (h0 : H0 d = none) (hl : H d = some (.lst (ws.map vS))) (hz : ws.length ≤ 100)
    (k : ∀ H1, Ex H0 H1 → H1 d = some (.lst ((ws ++ wIf m x s).map vS)) → tz D σ H1) :
    tSeq (tIfS (tB (tCB (rIsE K (He.ga K x) a) (tCons ta (tCons (tC (.ref (He.ga K m))) tNil)))) (tDrop (tBM K "list" rAppend tb (tCons (tC (.str (Str.ofString s))) tNil))) tNext) tz D σ H := by
  refine q_when (et_B (ev_isO F ha hm)) (fun hb H1 e1 => ?_) fun hb H1 e1 => ?_
  · refine s_app (xs := ws.map vS) (e1 _ _ hl) (hd H1 e1) ev_str (by rw [List.length_map]; omega) fun H2 e2 => ?_
    refine k _ (Ex.mut (e0.trans (e1.trans e2)) h0) ?_
    unfold wIf
    rw [if_pos (of_decide_eq_true hb), List.map_append]
    exact upd_same
  · refine k _ (e0.trans e1) ?_
    unfold wIf
    rw [if_neg (of_decide_eq_false hb), List.append_nil]
    exact e1 _ _ hl
end

theorem sc__law_word_of : FnScope ["_law_e", "_law_words"] ["_law_e"] (defScope s__law_word_of) := ⟨rfl, rfl, rfl, by decide +kernel, rfl, by decide +kernel, by decide +kernel⟩
section
variable {P : Program} {w : World} {K : PySem.W.Frag} {mg : Str → Option Value} {base : Heap}
theorem Txt.exF (T : Txt K mg) : ∀ x, x ∈ exNames → ExF K mg x := fun x hx => by
  unfold exNames at hx
  simp only [List.mem_cons, List.not_mem_nil, or_false] at hx
  rcases hx with rfl | rfl | rfl | rfl | rfl | rfl | rfl | rfl
  · exact T.x_NoSize
  · exact T.x_NoName
  · exact T.x_NotThere
  · exact T.x_NoPlace
  · exact T.x_NoText
  · exact T.x_TooLong
  · exact T.x_TooMany
  · exact T.x_NoNote
theorem ok__law_word_of (T : Txt K mg) : DefE P w K mg base 1 (He.ga K "_law_word_of") ["_law_e"] (spe_word K) := by
  refine def_mkE T.F__law_word_of sc__law_word_of (fun _ _ _ _ _ _ us hl => match us, hl with | [_], _ => rfl) (fun a cls d vs H Q h => ?_) (fun cdv A outer s H vs Q p cls d hr hz hf h => ?_)
  · obtain ⟨x, _, rfl, rfl, rfl, _⟩ := h
    rfl
  · obtain ⟨x, hx, rfl, rfl, rfl, q⟩ := h
    have F := T.exF x hx
    refine ⟨_, (pss_cons (ps_set (i := 1) sc__law_word_of.nd rfl (.inl rfl) (pe_lst pa_nil)) (pss_cons (ps_if (pt_val (pe_callB (call_isP F.cc List.mem_cons_self hz hf) (by rfl) T.b_isinstance (by decide +kernel) (pa_cons (pv 0) (pa_cons (pe_glob (v := .ref (He.ga K "NoSize")) (by rfl) T.m_NoSize rfl) pa_nil)))) (pss_one (ps_expr (kappend (K := K) rfl (pv 1) (pa_cons pe_str pa_nil)))) pss_nil) (pss_cons (ps_if (pt_val (pe_callB (call_isP F.cc List.mem_cons_self hz hf) (by rfl) T.b_isinstance (by decide +kernel) (pa_cons (pv 0) (pa_cons (pe_glob (v := .ref (He.ga K "NoName")) (by rfl) T.m_NoName rfl) pa_nil)))) (pss_one (ps_expr (kappend (K := K) rfl (pv 1) (pa_cons pe_str pa_nil)))) pss_nil) (pss_cons (ps_if (pt_val (pe_callB (call_isP F.cc List.mem_cons_self hz hf) (by rfl) T.b_isinstance (by decide +kernel) (pa_cons (pv 0) (pa_cons (pe_glob (v := .ref (He.ga K "NotThere")) (by rfl) T.m_NotThere rfl) pa_nil)))) (pss_one (ps_expr (kappend (K := K) rfl (pv 1) (pa_cons pe_str pa_nil)))) pss_nil) (pss_cons (ps_if (pt_val (pe_callB (call_isP F.cc List.mem_cons_self hz hf) (by rfl) T.b_isinstance (by decide +kernel) (pa_cons (pv 0) (pa_cons (pe_glob (v := .ref (He.ga K "NoPlace")) (by rfl) T.m_NoPlace rfl) pa_nil)))) (pss_one (ps_expr (kappend (K := K) rfl (pv 1) (pa_cons pe_str pa_nil)))) pss_nil) (pss_cons (ps_if (pt_val (pe_callB (call_isP F.cc List.mem_cons_self hz hf) (by rfl) T.b_isinstance (by decide +kernel) (pa_cons (pv 0) (pa_cons (pe_glob (v := .ref (He.ga K "NoText")) (by rfl) T.m_NoText rfl) pa_nil)))) (pss_one (ps_expr (kappend (K := K) rfl (pv 1) (pa_cons pe_str pa_nil)))) pss_nil) (pss_cons (ps_if (pt_val (pe_callB (call_isP F.cc List.mem_cons_self hz hf) (by rfl) T.b_isinstance (by decide +kernel) (pa_cons (pv 0) (pa_cons (pe_glob (v := .ref (He.ga K "TooLong")) (by rfl) T.m_TooLong rfl) pa_nil)))) (pss_one (ps_expr (kappend (K := K) rfl (pv 1) (pa_cons pe_str pa_nil)))) pss_nil) (pss_cons (ps_if (pt_val (pe_callB (call_isP F.cc List.mem_cons_self hz hf) (by rfl) T.b_isinstance (by decide +kernel) (pa_cons (pv 0) (pa_cons (pe_glob (v := .ref (He.ga K "TooMany")) (by rfl) T.m_TooMany rfl) pa_nil)))) (pss_one (ps_expr (kappend (K := K) rfl (pv 1) (pa_cons pe_str pa_nil)))) pss_nil) (pss_cons (ps_if (pt_val (pe_callB (call_isP F.cc List.mem_cons_self hz hf) (by rfl) T.b_isinstance (by decide +kernel) (pa_cons (pv 0) (pa_cons (pe_glob (v := .ref (He.ga K "NoNote")) (by rfl) T.m_NoNote rfl) pa_nil)))) (pss_one (ps_expr (kappend (K := K) rfl (pv 1) (pa_cons pe_str pa_nil)))) pss_nil) (pss_one (ps_ret (pe_tup (pa_cons (kjoin (K := K) rfl pe_str (pv 1)) (pa_cons (pe_callB (call_isP F.cc List.mem_cons_self hz hf) (by rfl) T.b_isinstance (by decide +kernel) (pa_cons (pv 0) (pa_cons (pe_bltn (v := .ty "ValueError") (by rfl) T.b_ValueError (by decide +kernel) rfl) pa_nil))) pa_nil)))))))))))))), ?_⟩
    refine q_asgL (xs := []) (el_lst ea_nil (by decide)) fun d H1 hd e1 h1 => ?_
    have l := wIf_len
    refine word_step (ws := []) F (by decide) (ev_var rfl) (fun _ _ => ev_var rfl) e1 hd h1 (by decide) fun H2 e2 h2 => ?_
    refine word_step F (by decide) (ev_var rfl) (fun _ _ => ev_var rfl) e2 hd h2 ?_ fun H3 e3 h3 => ?_
    · simp only [List.length_append, List.length_nil]
      have := l "NoSize" x "no size"
      omega
    refine word_step F (by decide) (ev_var rfl) (fun _ _ => ev_var rfl) e3 hd h3 ?_ fun H4 e4 h4 => ?_
    · simp only [List.length_append, List.length_nil]
      have := l "NoSize" x "no size"
      have := l "NoName" x "no name"
      omega
    refine word_step F (by decide) (ev_var rfl) (fun _ _ => ev_var rfl) e4 hd h4 ?_ fun H5 e5 h5 => ?_
    · simp only [List.length_append, List.length_nil]
      have := l "NoSize" x "no size"
      have := l "NoName" x "no name"
      have := l "NotThere" x "not there"
      omega
    refine word_step F (by decide) (ev_var rfl) (fun _ _ => ev_var rfl) e5 hd h5 ?_ fun H6 e6 h6 => ?_
    · simp only [List.length_append, List.length_nil]
      have := l "NoSize" x "no size"
      have := l "NoName" x "no name"
      have := l "NotThere" x "not there"
      have := l "NoPlace" x "no place"
      omega
    refine word_step F (by decide) (ev_var rfl) (fun _ _ => ev_var rfl) e6 hd h6 ?_ fun H7 e7 h7 => ?_
    · simp only [List.length_append, List.length_nil]
      have := l "NoSize" x "no size"
      have := l "NoName" x "no name"
      have := l "NotThere" x "not there"
      have := l "NoPlace" x "no place"
      have := l "NoText" x "no text"
      omega
    refine word_step F (by decide) (ev_var rfl) (fun _ _ => ev_var rfl) e7 hd h7 ?_ fun H8 e8 h8 => ?_
    · simp only [List.length_append, List.length_nil]
      have := l "NoSize" x "no size"
      have := l "NoName" x "no name"
      have := l "NotThere" x "not there"
      have := l "NoPlace" x "no place"
      have := l "NoText" x "no text"
      have := l "TooLong" x "too long"
      omega
    refine word_step F (by decide) (ev_var rfl) (fun _ _ => ev_var rfl) e8 hd h8 ?_ fun H9 e9 h9 => ?_
    · simp only [List.length_append, List.length_nil]
      have := l "NoSize" x "no size"
      have := l "NoName" x "no name"
      have := l "NotThere" x "not there"
      have := l "NoPlace" x "no place"
      have := l "NoText" x "no text"
      have := l "TooLong" x "too long"
      have := l "TooMany" x "too many"
      omega
    have hw : (wordsOf x).flatten.length ≤ 1000000 := by
      unfold exNames at hx
      simp only [List.mem_cons, List.not_mem_nil, or_false] at hx
      rcases hx with rfl | rfl | rfl | rfl | rfl | rfl | rfl | rfl <;> decide +kernel
    refine s_retU (eu_tup (vs := [vS (wordOf x), .bl true]) (ea_cons (ev_join0 (ps := wordsOf x) (ev_var rfl) ?_ hw) (EvA.one (ev_isV F (ev_var rfl)))) (by show 2 ≤ 100000; decide)) fun p H10 hp e10 h10 => ?_
    · exact h9
    · exact q p H10 (fresh_back e9 hp) (e9.trans e10) h10
end

/-! ### the law's own helpers -/
theorem sc__law_cell_at : FnScope ["_law_script", "_law_k"] ["_law_script", "_law_k"] (defScope s__law_cell_at) := ⟨rfl, rfl, rfl, by decide +kernel, rfl, by decide +kernel, by decide +kernel⟩
theorem sc__law_whole : FnScope ["_law_got"] ["_law_got"] (defScope s__law_whole) := ⟨rfl, rfl, rfl, by decide +kernel, rfl, by decide +kernel, by decide +kernel⟩
theorem sc__law_sign_by : FnScope ["_law_cell", "_law_some"] ["_law_cell"] (defScope s__law_sign_by) := ⟨rfl, rfl, rfl, by decide +kernel, rfl, by decide +kernel, by decide +kernel⟩
theorem sc__law_text_by : FnScope ["_law_cell", "_law_size", "_law_signs", "_law_block", "_law_got", "_law_number", "_law_k"] ["_law_cell", "_law_size"] (defScope s__law_text_by) := ⟨rfl, rfl, rfl, by decide +kernel, rfl, by decide +kernel, by decide +kernel⟩
section
variable {P : Program} {w : World} {K : PySem.W.Frag} {mg : Str → Option Value} {base : Heap}
theorem ok__law_cell_at (T : Txt K mg) : Def P w K mg base 1 (He.ga K "_law_cell_at") ["_law_script", "_law_k"] (sp_cell_at K) := by
  refine def_mk T.F__law_cell_at sc__law_cell_at (fun _ _ _ _ _ _ us hl => match us, hl with | [_, _], _ => rfl) (fun vs H Q E h => ?_) (fun cdv A outer s H vs Q E hr h => ?_)
  · obtain ⟨a, ns, k, rfl, _⟩ := h
    rfl
  · obtain ⟨a, ns, k, rfl, h0, hS, q⟩ := h
    refine ⟨_, pss_cons (ps_if (pt_cmpR op_lt (pv 1) (pe_callB call_len_seq (by rfl) T.b_len PySem.boot_len (pa_cons (pv 0) pa_nil)) (nomark _)) (pss_one (ps_ret (pe_ix ix_list (pv 0) (pv 1) (fun _ _ => rfl)))) pss_nil) (pss_one (ps_ret pe_int)), ?_⟩
    refine q_when (b := decide (k < (ns.length : Int))) ?_ (fun hb H1 e1 => ?_) (fun hb H1 e1 => ?_)
    · have el : (ns.map V.int).length = ns.length := List.length_map _
      rw [← el]
      exact et_test (ev_op (ev_var rfl) (ev_len (ev_var rfl) hS) rv_I0)
    · have hk : k.toNat < ns.length := by have := of_decide_eq_true hb; omega
      refine s_ret (v := .int (cellAt ns k.toNat)) (ev_op (ev_var rfl) (ev_var rfl) (rv_ixL' (ex_l e1 hS) h0 ?_)) (fun H2 e2 => q _ (e1.trans e2))
      rw [List.getElem?_map, List.getElem?_eq_getElem hk]
      unfold cellAt
      rw [List.getD_eq_getElem?_getD, List.getElem?_eq_getElem hk]
      rfl
    · have hk : ns.length ≤ k.toNat := by have := of_decide_eq_false hb; omega
      have e0 : cellAt ns k.toNat = 0 := by
        unfold cellAt
        rw [List.getD_eq_getElem?_getD, List.getElem?_eq_none_iff.mpr hk]
        rfl
      rw [e0] at q
      exact s_ret ev_c (fun H2 e2 => q _ (e1.trans e2))
theorem ok__law_whole (T : Txt K mg) : Def P w K mg base 1 (He.ga K "_law_whole") ["_law_got"] sp_whole := by
  refine def_mk T.F__law_whole sc__law_whole (fun _ _ _ _ _ _ us hl => match us, hl with | [_], _ => rfl) (fun vs H Q E h => ?_) (fun cdv A outer s H vs Q E hr h => ?_)
  · obtain ⟨x, n, rfl, _⟩ := h
    rfl
  · obtain ⟨x, n, rfl, ht, q⟩ := h
    refine ⟨_, pss_one (ps_ret (pe_and (pe_callB call_isi (by rfl) T.b_isinstance (by decide +kernel) (pa_cons (pv 0) (pa_cons (pe_bltn (v := .ty "int") (by rfl) T.b_int (by decide +kernel) rfl) pa_nil)))
      (pe_one (pe_not (pe_callB call_isi (by rfl) T.b_isinstance (by decide +kernel) (pa_cons (pv 0) (pa_cons (pe_bltn (v := .ty "bool") (by rfl) T.b_bool (by decide +kernel) rfl) pa_nil))))))), ?_⟩
    rw [← isW_and ht] at q
    exact s_ret (ev_andV (ev_isi (ev_var rfl) ht (isW_tn ht).1) fun _ => ev_notV (ev_isi (ev_var rfl) ht (isW_tn ht).2.1)) q
theorem ok__law_sign_by (T : Txt K mg) : Def P w K mg base 1 (He.ga K "_law_sign_by") ["_law_cell"] sp_sign_by := by
  refine def_mk T.F__law_sign_by sc__law_sign_by (fun _ _ _ _ _ _ us hl => match us, hl with | [_], _ => rfl) (fun vs H Q E h => ?_) (fun cdv A outer s H vs Q E hr h => ?_)
  · obtain ⟨c, rfl, _⟩ := h
    rfl
  · obtain ⟨c, rfl, q⟩ := h
    refine ⟨_, pss_cons (ps_set (i := 1) sc__law_sign_by.nd rfl (.inl rfl) pe_str) (pss_cons (ps_set (i := 1) sc__law_sign_by.nd rfl (.inl rfl) (pe_op op_add_str (pv 1) pe_str)) (pss_one (ps_ret (pe_ix ix_str (pv 1) (pe_op op_mod (pv 0) pe_int) (fun _ _ => rfl))))), ?_⟩
    refine q_asg ev_str fun H1 e1 => q_asg (ev_op (ev_var rfl) ev_str (rv_addS (by decide +kernel))) fun H2 e2 => ?_
    have hm : 0 ≤ c % 95 := Int.emod_nonneg _ (by decide)
    exact s_ret (ev_op (ev_var rfl) (ev_op (ev_var rfl) ev_c (rv_I (by show (0 : Int) < 95; decide))) (rv_ixS' (by decide +kernel) hm (signBy_get c))) fun H3 e3 => q _ (e1.trans (e2.trans e3))
theorem ok__law_text_by (T : Txt K mg) : Def P w K mg base 2 (He.ga K "_law_text_by") ["_law_cell", "_law_size"] sp_text_by := by
  refine def_mk T.F__law_text_by sc__law_text_by (fun _ _ _ _ _ _ us hl => match us, hl with | [_, _], _ => rfl) (fun vs H Q E h => ?_) (fun cdv A outer s H vs Q E hr h => ?_)
  · obtain ⟨c, n, rfl, _⟩ := h
    rfl
  · obtain ⟨c, n, rfl, h0, hn, q⟩ := h
    obtain ⟨hb1, hb2, hb3⟩ := blockBy_le c h0
    refine ⟨_, pss_cons (ps_set (i := 2) sc__law_text_by.nd rfl (.inl rfl) (pe_ix ix_list (pe_lst (pa_cons pe_int (pa_cons pe_int (pa_cons pe_int (pa_cons pe_int pa_nil))))) (pe_op op_mod (pv 0) pe_int) (fun _ _ => rfl)))
      (pss_cons (ps_set (i := 3) sc__law_text_by.nd rfl (.inl rfl) (pv 1))
      (pss_cons (ps_if (pt_cmpR op_eq (pe_op op_mod (pv 0) pe_int) pe_int (nomark _)) (pss_one (ps_set (i := 3) sc__law_text_by.nd rfl (.inl rfl) (pe_callB (call_min2 rfl) (by rfl) T.b_min (by decide +kernel) (pa_cons (pv 1) (pa_cons (pe_op op_add pe_int (pe_op op_mod (pe_op op_fdiv (pv 0) pe_int) pe_int)) pa_nil))))) pss_nil)
      (pss_cons (ps_if (pt_cmpR op_eq (pv 3) pe_int (nomark _)) (pss_one (ps_ret pe_str)) pss_nil)
      (pss_cons (ps_set (i := 4) sc__law_text_by.nd rfl (.inl rfl) pe_str)
      (pss_cons (ps_set (i := 5) sc__law_text_by.nd rfl (.inl rfl) (pv 0))
      (pss_cons (ps_for PassesOwn.never rfl (pi_range1 rfl T.b_range (pa_cons (pv 3) pa_nil)) (pg_name (i := 6) sc__law_text_by.nd rfl (.inl rfl))
        (pss_cons (ps_set (i := 5) sc__law_text_by.nd rfl (.inl rfl) (pe_op op_mod (pe_op op_add (pe_op op_mul (pv 5) pe_int) pe_int) pe_int))
        (pss_one (ps_set (i := 4) sc__law_text_by.nd rfl (.inl rfl) (pe_op op_add_str (pv 4) (pc (ok__law_sign_by T) hr T.m__law_sign_by (pa_cons (pe_op op_add pe_int (pe_op op_mod (pe_op op_fdiv (pv 5) pe_int) (pv 2))) pa_nil)))))))
      (pss_one (ps_ret (pe_slice sl_str (pe_op op_mulS (pv 4) (pe_op op_add (pe_op op_fdiv (pv 1) (pv 3)) pe_int)) po_none (po_some (pv 1))))))))))), ?_⟩
    have hm : 0 ≤ c % 4 := Int.emod_nonneg _ (by decide)
    refine q_asg (ev_pick (by walk_at "ea") (fun H1 e1 => by walk_at "ev") hm (tbl4_get c)) fun H1 e1 => q_asg (ev_var rfl) fun H2 e2 => ?_
    have e12 := e1.trans e2
    refine q_ifAsg (b := decide (c % 4 = 2)) (v := .int (blockBy c n)) (by walk_at "et") (fun hb => ?_) (fun hb => ?_) fun H3 e3 => ?_
    · unfold blockBy
      rw [if_pos (of_decide_eq_true hb)]
      with_reducible apply ev_min
      · walk_at "ev"
      · walk_at "ev"
    · unfold blockBy
      rw [if_neg (of_decide_eq_false hb)]
      rfl
    refine q_when (b := decide (blockBy c n = 0)) (by walk_at "et") (fun hb H4 e4 => ?_) (fun hb H4 e4 => ?_)
    · unfold textBy at q
      rw [if_pos (of_decide_eq_true hb)] at q
      exact s_ret (v := .str (SX.S [])) ev_str fun H5 e5 => q _ (e12.trans (e3.trans (e4.trans e5)))
    · have hb0 := of_decide_eq_false hb
      refine q_asg ev_str fun H5 e5 => q_asg (by walk_at "ev") fun H6 e6 => ?_
      have e16 := e12.trans (e3.trans (e4.trans (e5.trans e6)))
      refine q_forR1 (n := blockBy c n) (EvA.one (ev_var rfl)) ⟨hb1, by omega⟩ (fun i σ H' => ∃ v, σ = [some (.int c), some (.int n), some (.int (tbl4 c)), some (.int (blockBy c n)), some (.str (SX.S (gotAt c i))), some (.int (numAt c i)), v] ∧ Ex H H') (fun H7 e7 => ⟨none, rfl, e16.trans e7⟩) ?_ ?_
      · rintro i σ H7 hi ⟨v, rfl, e7⟩
        refine q_asg (v := .int ((numAt c i * 48271 + 11) % 2147483647)) (by walk_at "ev") fun H8 e8 => ?_
        have ht := tbl4_pos c
        refine s_asg (D := { nx := _, rt := _, bk := _, ct := _ }) (ev_op (ev_var rfl) (ev_call (EvA.one (by walk_at "ev")) sv_sign_by) (rv_addS (by rw [gotAt_len, List.length_singleton]; omega))) fun H9 e9 => ?_
        exact ⟨_, by rw [gotAt_succ]; rfl, e7.trans (e8.trans e9)⟩
      · rintro σ H7 ⟨v, rfl, e7⟩
        have hd : 0 < blockBy c n := by omega
        have hz : (gotAt c (blockBy c n).toNat).length * (n / blockBy c n + 1).toNat ≤ 4000000 := by
          rw [gotAt_len]
          have h5 : n / blockBy c n ≤ n := Int.ediv_le_self _ h0
          have h6 : (n / blockBy c n + 1).toNat ≤ 1001 := by omega
          have h7 : (blockBy c n).toNat ≤ 1000 := by omega
          have := Nat.mul_le_mul h7 h6
          omega
        have h5 : n / blockBy c n ≤ n := Int.ediv_le_self _ h0
        have h8 : 0 ≤ n / blockBy c n := Int.ediv_nonneg h0 hb1
        refine s_ret (ev_sliceS (ev_op (ev_var rfl) (ev_op (ev_op (ev_var rfl) (ev_var rfl) (rv_I ⟨hd, by omega⟩)) ev_c rv_I0) (rv_mulS (by omega) (by omega) hz)) (by rw [flat_len, Nat.mul_comm]; exact hz) eo_none (eo_some (ev_var rfl))) fun H8 e8 => ?_
        rw [cut_to h0]
        have q2 := q _ (e7.trans e8)
        unfold textBy at q2
        rw [if_neg hb0] at q2
        exact q2
end

/-! ### _law_alike: the same datum twice is alike -/
theorem sc__law_alike : FnScope ["_law_got", "_law_due", "_law_k"] ["_law_got", "_law_due"] (defScope s__law_alike) := ⟨rfl, rfl, rfl, by decide +kernel, rfl, by decide +kernel, by decide +kernel⟩
def spA : Nat → Sp
  | 0 => fun _ _ _ _ => False
  | n + 1 => sp_alike n
section
variable {P : Program} {w : World} {K : PySem.W.Frag} {mg : Str → Option Value} {base : Heap}
theorem alike_step (T : Txt K mg) (n : Nat) (IH : Def P w K mg base (n + 1) (He.ga K "_law_alike") ["_law_got", "_law_due"] (spA n)) : Def P w K mg base (n + 2) (He.ga K "_law_alike") ["_law_got", "_law_due"] (sp_alike n) := by
  refine def_mk T.F__law_alike sc__law_alike (fun _ _ _ _ _ _ us hl => match us, hl with | [_, _], _ => rfl) (fun vs H Q E h => ?_) (fun cdv A outer s H vs Q E hr h => ?_)
  · obtain ⟨g, u, d, rfl, _⟩ := h
    rfl
  · obtain ⟨g, u, d, rfl, h1, h2, h3, q⟩ := h
    refine ⟨_, (pss_cons (ps_if (pt_cmpR op_isN (pv 1) pe_non (nomark _)) (pss_one (ps_ret (pe_cmpR op_isN (pv 0) pe_non (nomark _)))) pss_nil) (pss_cons (ps_if (pt_cmpR op_is_True (pv 1) pe_bl (nomark _)) (pss_one (ps_ret (pe_cmpR op_is_True (pv 0) pe_bl (nomark _)))) pss_nil) (pss_cons (ps_if (pt_val (pe_callB (kcall_isi (K := K) rfl) (by rfl) T.b_isinstance (by decide +kernel) (pa_cons (pv 1) (pa_cons (pe_bltn (v := .ty "str") (by rfl) T.b_str (by decide +kernel) rfl) pa_nil)))) (pss_one (ps_ret (pe_and (pe_callB (kcall_isi (K := K) rfl) (by rfl) T.b_isinstance (by decide +kernel) (pa_cons (pv 0) (pa_cons (pe_bltn (v := .ty "str") (by rfl) T.b_str (by decide +kernel) rfl) pa_nil))) (pe_one (pe_cmpR op_eq (pv 0) (pv 1) (nomark _)))))) pss_nil) (pss_cons (ps_if (pt_val (pe_callB (kcall_isi (K := K) rfl) (by rfl) T.b_isinstance (by decide +kernel) (pa_cons (pv 1) (pa_cons (pe_bltn (v := .ty "int") (by rfl) T.b_int (by decide +kernel) rfl) pa_nil)))) (pss_one (ps_ret (pe_and (pc (hk := Nat.succ_le_succ (Nat.zero_le _)) (ok__law_whole T) hr T.m__law_whole (pa_cons (pv 0) pa_nil)) (pe_one (pe_cmpR op_eq (pv 0) (pv 1) (nomark _)))))) pss_nil) (pss_cons (ps_if (PW.pt (pw_and (pt_val (pe_callB (kcall_isi (K := K) rfl) (by rfl) T.b_isinstance (by decide +kernel) (pa_cons (pv 1) (pa_cons (pe_bltn (v := .ty "tuple") (by rfl) T.b_tuple (by decide +kernel) rfl) pa_nil)))) (pw_and1 (pt_not (pt_val (pe_callB (kcall_isi (K := K) rfl) (by rfl) T.b_isinstance (by decide +kernel) (pa_cons (pv 0) (pa_cons (pe_bltn (v := .ty "tuple") (by rfl) T.b_tuple (by decide +kernel) rfl) pa_nil)))))))) (pss_one (ps_ret pe_bl)) pss_nil) (pss_cons (ps_if (PW.pt (pw_and (pt_val (pe_callB (kcall_isi (K := K) rfl) (by rfl) T.b_isinstance (by decide +kernel) (pa_cons (pv 1) (pa_cons (pe_bltn (v := .ty "list") (by rfl) T.b_list (by decide +kernel) rfl) pa_nil)))) (pw_and1 (pt_not (pt_val (pe_callB (kcall_isi (K := K) rfl) (by rfl) T.b_isinstance (by decide +kernel) (pa_cons (pv 0) (pa_cons (pe_bltn (v := .ty "list") (by rfl) T.b_list (by decide +kernel) rfl) pa_nil)))))))) (pss_one (ps_ret pe_bl)) pss_nil) (pss_cons (ps_if (pt_cmpR op_ne (pe_callB (kcall_len (K := K) rfl) (by rfl) T.b_len (by decide +kernel) (pa_cons (pv 0) pa_nil)) (pe_callB (kcall_len (K := K) rfl) (by rfl) T.b_len (by decide +kernel) (pa_cons (pv 1) pa_nil)) (nomark _)) (pss_one (ps_ret pe_bl)) pss_nil) (pss_cons (ps_for PassesOwn.never rfl (pi_range1 rfl T.b_range (pa_cons (pe_callB (kcall_len (K := K) rfl) (by rfl) T.b_len (by decide +kernel) (pa_cons (pv 1) pa_nil)) pa_nil)) (pg_name (i := 2) sc__law_alike.nd rfl (.inl rfl)) (pss_one (ps_if (pt_not (pt_val (pc (hk := Nat.le_refl _) IH hr T.m__law_alike (pa_cons (pe_ix (kix_seq (K := K) rfl) (pv 0) (pv 2) (fun _ _ => rfl)) (pa_cons (pe_ix (kix_seq (K := K) rfl) (pv 1) (pv 2) (fun _ _ => rfl)) pa_nil))))) (pss_one (ps_ret pe_bl)) pss_nil))) (pss_one (ps_ret pe_bl)))))))))), ?_⟩
    cases d with
    | non =>
      unfold Rep at h1 h2
      subst h1 h2
      exact q_when (b := true) (et_test (ev_op (ev_var rfl) ev_c rv_isN)) (fun _ H1 e1 => s_ret (v := .bl true) (ev_op (ev_var rfl) ev_c rv_isN) fun H2 e2 => q _ (e1.trans e2)) (fun hb => by cases hb)
    | tru =>
      unfold Rep at h1 h2
      subst h1 h2
      refine q_when (b := false) (et_test (ev_op (ev_var rfl) ev_c rv_isN)) (fun hb => by cases hb) fun _ H1 e1 => ?_
      exact q_when (b := true) (et_test (ev_op (ev_var rfl) ev_c rv_isTrue)) (fun _ H2 e2 => s_ret (v := .bl true) (ev_op (ev_var rfl) ev_c rv_isTrue) fun H3 e3 => q _ (e1.trans (e2.trans e3))) (fun hb => by cases hb)
    | str l =>
      unfold Rep at h1 h2
      subst h1 h2
      refine q_when (b := false) (et_test (ev_op (ev_var rfl) ev_c rv_isN)) (fun hb => by cases hb) fun _ H1 e1 => ?_
      refine q_when (b := false) (et_test (ev_op (ev_var rfl) ev_c rv_isTrue)) (fun hb => by cases hb) fun _ H2 e2 => ?_
      have hk : kitB "str" "str" = some true := by decide +kernel
      refine q_when (b := true) (et_B (ev_isi (ev_var rfl) (.str _) hk)) (fun _ H3 e3 => ?_) (fun hb => by cases hb)
      exact s_ret (ev_andV (a := true) (b := true) (ev_isi (ev_var rfl) (.str _) hk) fun _ => ev_is (ev_op (ev_var rfl) (ev_var rfl) rv_eqS) (congrArg V.bl (decide_eq_true rfl))) fun H4 e4 => q _ (e1.trans (e2.trans (e3.trans e4)))
    | int i =>
      unfold Rep at h1 h2
      subst h1 h2
      refine q_when (b := false) (et_test (ev_op (ev_var rfl) ev_c rv_isN)) (fun hb => by cases hb) fun _ H1 e1 => ?_
      refine q_when (b := false) (et_test (ev_op (ev_var rfl) ev_c rv_isTrue)) (fun hb => by cases hb) fun _ H2 e2 => ?_
      refine q_when (b := false) (et_B (ev_isi (ev_var rfl) (.int _) (by decide +kernel))) (fun hb => by cases hb) fun _ H3 e3 => ?_
      refine q_when (b := true) (et_B (ev_isi (ev_var rfl) (.int _) (by decide +kernel))) (fun _ H4 e4 => ?_) (fun hb => by cases hb)
      exact s_ret (ev_andV (a := true) (b := true) (ev_call (EvA.one (ev_var rfl)) (sv_whole (.int _))) fun _ => ev_is (ev_op (ev_var rfl) (ev_var rfl) rv_eqI) (congrArg V.bl (decide_eq_true rfl))) fun H5 e5 => q _ (e1.trans (e2.trans (e3.trans (e4.trans e5))))
    | lst ds =>
      unfold Rep at h1 h2
      obtain ⟨a1, xs1, rfl, g1, r1⟩ := h1
      obtain ⟨a2, xs2, rfl, g2, r2⟩ := h2
      cases n with
      | zero =>
        unfold Fit at h3
        exact h3.elim
      | succ m =>
        obtain ⟨hl, hf⟩ := h3
        have l1 := r1.len
        have l2 := r2.len
        refine q_when (b := false) (et_test (ev_op (ev_var rfl) ev_c rv_isN)) (fun hb => by cases hb) fun _ H1 e1 => ?_
        refine q_when (b := false) (et_test (ev_op (ev_var rfl) ev_c rv_isTrue)) (fun hb => by cases hb) fun _ H2 e2 => ?_
        have e12 := e1.trans e2
        refine q_when (b := false) (et_B (ev_isi (ev_var rfl) (.lst (e12 _ _ g2)) (by decide +kernel))) (fun hb => by cases hb) fun _ H3 e3 => ?_
        have e13 := e12.trans e3
        refine q_when (b := false) (et_B (ev_isi (ev_var rfl) (.lst (e13 _ _ g2)) (by decide +kernel))) (fun hb => by cases hb) fun _ H4 e4 => ?_
        have e14 := e13.trans e4
        refine q_when (b := false) (et_and (a := false) (b := true) (et_B (ev_isi (ev_var rfl) (.lst (e14 _ _ g2)) (by decide +kernel))) fun hb => by cases hb) (fun hb => by cases hb) fun _ H5 e5 => ?_
        have e15 := e14.trans e5
        refine q_when (b := false) (et_and (a := true) (b := false) (et_B (ev_isi (ev_var rfl) (.lst (e15 _ _ g2)) (by decide +kernel))) fun _ => et_not (a := true) (et_B (ev_isi (ev_var rfl) (.lst (e15 _ _ g1)) (by decide +kernel)))) (fun hb => by cases hb) fun _ H6 e6 => ?_
        have e16 := e15.trans e6
        refine q_when (b := false) (et_test (ev_is (ev_op (ev_len (ev_var rfl) (sq_of (e16 _ _ g1))) (ev_len (ev_var rfl) (sq_of (e16 _ _ g2))) rv_neI) (congrArg V.bl (by rw [l1, l2]; simp)))) (fun hb => by cases hb) fun _ H7 e7 => ?_
        have e17 := e16.trans e7
        refine q_forR1 (n := (xs2.length : Int)) (EvA.one (ev_len (ev_var rfl) (sq_of (e17 _ _ g2)))) ⟨by omega, by omega⟩ (fun i σ H' => ∃ v, σ = [some (.ref a1), some (.ref a2), v] ∧ Ex H H') (fun H8 e8 => ⟨none, rfl, e17.trans e8⟩) ?_ ?_
        · rintro i σ H8 hi ⟨v, rfl, e8⟩
          have hi' : i < ds.length := by omega
          have hd : ds[i]? = some ds[i] := List.getElem?_eq_getElem hi'
          obtain ⟨x1, hx1, p1⟩ := r1.get hd
          obtain ⟨x2, hx2, p2⟩ := r2.get hd
          refine s_when (D := { nx := _, rt := _, bk := _, ct := _ }) (b := false) (et_not (a := true) (et_B (ev_call (sp := spA (m + 1)) (vs := [x1, x2]) (ea_cons (ev_op (ev_var rfl) (ev_var rfl) (rv_ixSL (sq_of (e8 _ _ g1)) hx1)) (EvA.one (ev_op (ev_var rfl) (ev_var rfl) (rv_ixSL (sq_of (e8 _ _ g2)) hx2)))) (sv_alike (p1.ex e8) (p2.ex e8) (hf _ (List.getElem_mem hi')))))) (fun hb => by cases hb) fun _ H9 e9 => ?_
          exact ⟨_, rfl, e8.trans e9⟩
        · rintro σ H8 ⟨v, rfl, e8⟩
          exact s_ret ev_c fun H9 e9 => q _ (e8.trans e9)
    | tup ds =>
      unfold Rep at h1 h2
      obtain ⟨a1, xs1, rfl, g1, r1⟩ := h1
      obtain ⟨a2, xs2, rfl, g2, r2⟩ := h2
      cases n with
      | zero =>
        unfold Fit at h3
        exact h3.elim
      | succ m =>
        obtain ⟨hl, hf⟩ := h3
        have l1 := r1.len
        have l2 := r2.len
        refine q_when (b := false) (et_test (ev_op (ev_var rfl) ev_c rv_isN)) (fun hb => by cases hb) fun _ H1 e1 => ?_
        refine q_when (b := false) (et_test (ev_op (ev_var rfl) ev_c rv_isTrue)) (fun hb => by cases hb) fun _ H2 e2 => ?_
        have e12 := e1.trans e2
        refine q_when (b := false) (et_B (ev_isi (ev_var rfl) (.tup (e12 _ _ g2)) (by decide +kernel))) (fun hb => by cases hb) fun _ H3 e3 => ?_
        have e13 := e12.trans e3
        refine q_when (b := false) (et_B (ev_isi (ev_var rfl) (.tup (e13 _ _ g2)) (by decide +kernel))) (fun hb => by cases hb) fun _ H4 e4 => ?_
        have e14 := e13.trans e4
        refine q_when (b := false) (et_and (a := true) (b := false) (et_B (ev_isi (ev_var rfl) (.tup (e14 _ _ g2)) (by decide +kernel))) fun _ => et_not (a := true) (et_B (ev_isi (ev_var rfl) (.tup (e14 _ _ g1)) (by decide +kernel)))) (fun hb => by cases hb) fun _ H5 e5 => ?_
        have e15 := e14.trans e5
        refine q_when (b := false) (et_and (a := false) (b := true) (et_B (ev_isi (ev_var rfl) (.tup (e15 _ _ g2)) (by decide +kernel))) fun hb => by cases hb) (fun hb => by cases hb) fun _ H6 e6 => ?_
        have e16 := e15.trans e6
        refine q_when (b := false) (et_test (ev_is (ev_op (ev_lenT (ev_var rfl) (st_of (e16 _ _ g1))) (ev_lenT (ev_var rfl) (st_of (e16 _ _ g2))) rv_neI) (congrArg V.bl (by rw [l1, l2]; simp)))) (fun hb => by cases hb) fun _ H7 e7 => ?_
        have e17 := e16.trans e7
        refine q_forR1 (n := (xs2.length : Int)) (EvA.one (ev_lenT (ev_var rfl) (st_of (e17 _ _ g2)))) ⟨by omega, by omega⟩ (fun i σ H' => ∃ v, σ = [some (.ref a1), some (.ref a2), v] ∧ Ex H H') (fun H8 e8 => ⟨none, rfl, e17.trans e8⟩) ?_ ?_
        · rintro i σ H8 hi ⟨v, rfl, e8⟩
          have hi' : i < ds.length := by omega
          have hd : ds[i]? = some ds[i] := List.getElem?_eq_getElem hi'
          obtain ⟨x1, hx1, p1⟩ := r1.get hd
          obtain ⟨x2, hx2, p2⟩ := r2.get hd
          refine s_when (D := { nx := _, rt := _, bk := _, ct := _ }) (b := false) (et_not (a := true) (et_B (ev_call (sp := spA (m + 1)) (vs := [x1, x2]) (ea_cons (ev_op (ev_var rfl) (ev_var rfl) (rv_ixST (st_of (e8 _ _ g1)) hx1)) (EvA.one (ev_op (ev_var rfl) (ev_var rfl) (rv_ixST (st_of (e8 _ _ g2)) hx2)))) (sv_alike (p1.ex e8) (p2.ex e8) (hf _ (List.getElem_mem hi')))))) (fun hb => by cases hb) fun _ H9 e9 => ?_
          exact ⟨_, rfl, e8.trans e9⟩
        · rintro σ H8 ⟨v, rfl, e8⟩
          exact s_ret ev_c fun H9 e9 => q _ (e8.trans e9)
theorem alike_all (T : Txt K mg) : ∀ n, Def P w K mg base (n + 1) (He.ga K "_law_alike") ["_law_got", "_law_due"] (spA n)
  | 0 => def_mk T.F__law_alike sc__law_alike (fun _ _ _ _ _ _ us hl => match us, hl with | [_, _], _ => rfl) (fun vs H Q E h => (show False from h).elim) (fun cdv A outer s H vs Q E hr h => (show False from h).elim)
  | n + 1 => alike_step T n (alike_all T n)
/-- data of up to four levels -/
theorem ok__law_alike (T : Txt K mg) : Def P w K mg base 6 (He.ga K "_law_alike") ["_law_got", "_law_due"] (sp_alike 4) := alike_all T 5
end

/-! ### pieces in one list -/
structure Pc where
  n : Int
  l : List Nat
  c : Int
def btOf (ps : List Pc) : List (Key × V) := ps.map fun p => (tK p.l, V.int p.n)
def txOf (ps : List Pc) : List (Key × V) := ps.map fun p => (nK p.n, vS p.l)
def ctOf (ps : List Pc) : List (Key × V) := ps.map fun p => (nK p.n, V.int p.c)
abbrev SkP (K : PySem.W.Frag) (H : Hp) (A : SkA) (g : Int) (ps : List Pc) : Prop := SkAt K H A g (btOf ps) (txOf ps) (ctOf ps)
structure Okp (g : Int) (ps : List Pc) : Prop where
  up : (ps.map (·.n)).Pairwise (· < ·)
  tn : (ps.map (·.l)).Nodup
  rng : ∀ p ∈ ps, 1 ≤ p.n ∧ p.n ≤ g
  cs : ∀ p ∈ ps, 1 ≤ p.c
  g0 : 0 ≤ g
def findN (ps : List Pc) (n : Int) : Option Pc := ps.find? fun p => decide (p.n = n)
def findL (ps : List Pc) (l : List Nat) : Option Pc := ps.find? fun p => decide (p.l = l)
def bump (ps : List Pc) (n d : Int) : List Pc := ps.map fun p => if p.n = n then ⟨p.n, p.l, p.c + d⟩ else p
def dropN (ps : List Pc) (n : Int) : List Pc := ps.filter fun p => decide (p.n ≠ n)
theorem tK_inj {a b : List Nat} : tK a = tK b ↔ a = b := ⟨fun h => SX.S_inj (Sum.inr.inj h), fun h => by rw [h]⟩
theorem nK_inj {a b : Int} : nK a = nK b ↔ a = b := ⟨fun h => Sum.inl.inj h, fun h => by rw [h]⟩
theorem val_map {α κ : Type} [DecidableEq κ] (k : α → κ) (v : α → V) (x : κ) : ∀ ps : List α, valV (ps.map fun p => (k p, v p)) x = (ps.find? fun p => decide (k p = x)).map v
  | [] => rfl
  | p :: ps => by
    rw [List.map_cons, List.find?_cons]
    by_cases h : k p = x
    · rw [valV_pos h, decide_eq_true h]
      rfl
    · rw [valV_neg h, decide_eq_false h]
      exact val_map k v x ps
theorem val_tx (ps : List Pc) (n : Int) : valV (txOf ps) (nK n) = (findN ps n).map fun p => vS p.l := by
  have h := val_map (fun p : Pc => nK p.n) (fun p => vS p.l) (nK n) ps
  simp only [nK_inj] at h
  exact h
theorem val_ct (ps : List Pc) (n : Int) : valV (ctOf ps) (nK n) = (findN ps n).map fun p => V.int p.c := by
  have h := val_map (fun p : Pc => nK p.n) (fun p => V.int p.c) (nK n) ps
  simp only [nK_inj] at h
  exact h
theorem val_bt (ps : List Pc) (l : List Nat) : valV (btOf ps) (tK l) = (findL ps l).map fun p => V.int p.n := by
  have h := val_map (fun p : Pc => tK p.l) (fun p => V.int p.n) (tK l) ps
  simp only [tK_inj] at h
  exact h
theorem findN_some {ps : List Pc} {n : Int} {p : Pc} (h : findN ps n = some p) : p ∈ ps ∧ p.n = n := ⟨List.mem_of_find?_eq_some h, of_decide_eq_true (List.find?_some (p := fun q : Pc => decide (q.n = n)) h)⟩
theorem findL_some {ps : List Pc} {l : List Nat} {p : Pc} (h : findL ps l = some p) : p ∈ ps ∧ p.l = l := ⟨List.mem_of_find?_eq_some h, of_decide_eq_true (List.find?_some (p := fun q : Pc => decide (q.l = l)) h)⟩
theorem findN_none {ps : List Pc} {n : Int} (h : findN ps n = none) : ∀ p ∈ ps, p.n ≠ n := fun p hp => by simpa using List.find?_eq_none.mp h p hp
theorem findL_none {ps : List Pc} {l : List Nat} (h : findL ps l = none) : ∀ p ∈ ps, p.l ≠ l := fun p hp => by simpa using List.find?_eq_none.mp h p hp
section
variable {g : Int} {ps : List Pc}
theorem up_inj {ps : List Pc} (h : (ps.map (·.n)).Pairwise (· < ·)) : ∀ {p q : Pc}, p ∈ ps → q ∈ ps → p.n = q.n → p = q := by
  induction ps with
  | nil => intro p q hp; cases hp
  | cons a r ih =>
    intro p q hp hq e
    rw [List.map_cons, List.pairwise_cons] at h
    have lt : ∀ x ∈ r, a.n < x.n := fun x hx => h.1 _ (List.mem_map_of_mem hx)
    rcases List.mem_cons.mp hp with rfl | hp'
    · rcases List.mem_cons.mp hq with rfl | hq'
      · rfl
      · have := lt q hq'
        omega
    · rcases List.mem_cons.mp hq with rfl | hq'
      · have := lt p hp'
        omega
      · exact ih h.2 hp' hq' e
theorem nodup_inj {α : Type} {f : Pc → α} {ps : List Pc} (h : (ps.map f).Nodup) : ∀ {p q : Pc}, p ∈ ps → q ∈ ps → f p = f q → p = q := by
  induction ps with
  | nil => intro p q hp; cases hp
  | cons a r ih =>
    intro p q hp hq e
    rw [List.map_cons, List.nodup_cons] at h
    rcases List.mem_cons.mp hp with rfl | hp'
    · rcases List.mem_cons.mp hq with rfl | hq'
      · rfl
      · exact (h.1 (by rw [e]; exact List.mem_map_of_mem hq')).elim
    · rcases List.mem_cons.mp hq with rfl | hq'
      · exact (h.1 (by rw [← e]; exact List.mem_map_of_mem hp')).elim
      · exact ih h.2 hp' hq' e
theorem Okp.injN (O : Okp g ps) {p q : Pc} (hp : p ∈ ps) (hq : q ∈ ps) (e : p.n = q.n) : p = q := up_inj O.up hp hq e
theorem Okp.injL (O : Okp g ps) {p q : Pc} (hp : p ∈ ps) (hq : q ∈ ps) (e : p.l = q.l) : p = q := nodup_inj O.tn hp hq e
theorem findN_mem (O : Okp g ps) {p : Pc} (hp : p ∈ ps) : findN ps p.n = some p := by
  cases h : findN ps p.n with
  | none => exact (findN_none h p hp rfl).elim
  | some q =>
    obtain ⟨h1, h2⟩ := findN_some h
    rw [O.injN h1 hp h2]
theorem findL_mem (O : Okp g ps) {p : Pc} (hp : p ∈ ps) : findL ps p.l = some p := by
  cases h : findL ps p.l with
  | none => exact (findL_none h p hp rfl).elim
  | some q =>
    obtain ⟨h1, h2⟩ := findL_some h
    rw [O.injL h1 hp h2]
/-! a new piece -/
theorem findN_new (O : Okp g ps) : findN ps (g + 1) = none := by
  cases h : findN ps (g + 1) with
  | none => rfl
  | some p =>
    obtain ⟨h1, h2⟩ := findN_some h
    have := (O.rng p h1).2
    omega
theorem bt_new {l : List Nat} {n c : Int} (h : findL ps l = none) : putK (btOf ps) (tK l) (.int n) = btOf (ps ++ [⟨n, l, c⟩]) := by
  rw [putK_new _ (by rw [val_bt, h]; rfl)]
  unfold btOf
  rw [List.map_append]
  rfl
theorem tx_new {l : List Nat} {n c : Int} (h : findN ps n = none) : putK (txOf ps) (nK n) (vS l) = txOf (ps ++ [⟨n, l, c⟩]) := by
  rw [putK_new _ (by rw [val_tx, h]; rfl)]
  unfold txOf
  rw [List.map_append]
  rfl
theorem ct_new {l : List Nat} {n c : Int} (h : findN ps n = none) : putK (ctOf ps) (nK n) (.int c) = ctOf (ps ++ [⟨n, l, c⟩]) := by
  rw [putK_new _ (by rw [val_ct, h]; rfl)]
  unfold ctOf
  rw [List.map_append]
  rfl
theorem putK_put {κ : Type} [DecidableEq κ] {kvs : List (κ × V)} {k : κ} {v v' : V} (h : valV kvs k = none) : putK (putK kvs k v) k v' = putK kvs k v' := by
  rw [putK_new v h, putK_new v' h]
  unfold putK
  have ha : ((kvs ++ [(k, v)]).any fun kv => decide (kv.1 = k)) = true := by
    rw [List.any_append]
    simp
  rw [if_pos ha, List.map_append]
  have e : (kvs.map fun kv => if kv.1 = k then (kv.1, v') else kv) = kvs := by
    have hn := valV_not h
    have e2 : ∀ kv ∈ kvs, (if kv.1 = k then (kv.1, v') else kv) = kv := fun kv hm => if_neg fun z => hn (by rw [← z]; exact List.mem_map_of_mem hm)
    rw [List.map_congr_left e2, List.map_id']
  rw [e]
  simp
theorem ct_new2 {l : List Nat} {n : Int} (h : findN ps n = none) : putK (putK (ctOf ps) (nK n) (.int 0)) (nK n) (.int 1) = ctOf (ps ++ [⟨n, l, 1⟩]) := by
  rw [putK_put (by rw [val_ct, h]; rfl), ct_new h]
theorem Okp.new (O : Okp g ps) {l : List Nat} (h : findL ps l = none) : Okp (g + 1) (ps ++ [⟨g + 1, l, 1⟩]) := by
  refine ⟨?_, ?_, ?_, ?_, by have := O.g0; omega⟩
  · rw [List.map_append, List.pairwise_append]
    refine ⟨O.up, List.pairwise_singleton _ _, fun a ha b hb => ?_⟩
    obtain ⟨p, hp, rfl⟩ := List.mem_map.mp ha
    have hb' : b = g + 1 := by simpa using hb
    have := (O.rng p hp).2
    omega
  · rw [List.map_append, List.nodup_append]
    refine ⟨O.tn, by simp, fun a ha b hb => ?_⟩
    obtain ⟨p, hp, rfl⟩ := List.mem_map.mp ha
    have hb' : b = l := by simpa using hb
    rw [hb']
    exact findL_none h p hp
  · intro p hp
    rcases List.mem_append.mp hp with hp | hp
    · have := O.rng p hp
      omega
    · have e : p = ⟨g + 1, l, 1⟩ := by simpa using hp
      subst e
      have := O.g0
      exact ⟨by show 1 ≤ g + 1; omega, Int.le_refl _⟩
  · intro p hp
    rcases List.mem_append.mp hp with hp | hp
    · exact O.cs p hp
    · have e : p = ⟨g + 1, l, 1⟩ := by simpa using hp
      subst e
      exact Int.le_refl _
/-! counted -/
theorem bump_len (ps : List Pc) (n d : Int) : (bump ps n d).length = ps.length := List.length_map _
theorem bt_bump (ps : List Pc) (n d : Int) : btOf (bump ps n d) = btOf ps := by
  unfold btOf bump
  rw [List.map_map]
  refine List.map_congr_left fun p _ => ?_
  show (tK (if p.n = n then (⟨p.n, p.l, p.c + d⟩ : Pc) else p).l, V.int (if p.n = n then (⟨p.n, p.l, p.c + d⟩ : Pc) else p).n) = (tK p.l, V.int p.n)
  split <;> rfl
theorem tx_bump (ps : List Pc) (n d : Int) : txOf (bump ps n d) = txOf ps := by
  unfold txOf bump
  rw [List.map_map]
  refine List.map_congr_left fun p _ => ?_
  show (nK (if p.n = n then (⟨p.n, p.l, p.c + d⟩ : Pc) else p).n, vS (if p.n = n then (⟨p.n, p.l, p.c + d⟩ : Pc) else p).l) = (nK p.n, vS p.l)
  split <;> rfl
theorem ct_bump (O : Okp g ps) {n d : Int} {p : Pc} (h : findN ps n = some p) : putK (ctOf ps) (nK n) (.int (p.c + d)) = ctOf (bump ps n d) := by
  obtain ⟨h1, h2⟩ := findN_some h
  unfold putK
  have ha : ((ctOf ps).any fun kv => decide (kv.1 = nK n)) = true := by
    rw [valV_any, val_ct, h]
    rfl
  rw [if_pos ha]
  unfold ctOf bump
  rw [List.map_map, List.map_map]
  refine List.map_congr_left fun q hq => ?_
  show (if nK q.n = nK n then (nK q.n, V.int (p.c + d)) else (nK q.n, V.int q.c)) = (nK (if q.n = n then (⟨q.n, q.l, q.c + d⟩ : Pc) else q).n, V.int (if q.n = n then (⟨q.n, q.l, q.c + d⟩ : Pc) else q).c)
  by_cases e : q.n = n
  · rw [if_pos (by rw [e]), if_pos e, O.injN hq h1 (by rw [e, h2])]
  · rw [if_neg (fun z => e (nK_inj.mp z)), if_neg e]
theorem bump_n (ps : List Pc) (n d : Int) : (bump ps n d).map (·.n) = ps.map (·.n) := by
  unfold bump
  rw [List.map_map]
  refine List.map_congr_left fun p _ => ?_
  show (if p.n = n then (⟨p.n, p.l, p.c + d⟩ : Pc) else p).n = p.n
  split <;> rfl
theorem bump_l (ps : List Pc) (n d : Int) : (bump ps n d).map (·.l) = ps.map (·.l) := by
  unfold bump
  rw [List.map_map]
  refine List.map_congr_left fun p _ => ?_
  show (if p.n = n then (⟨p.n, p.l, p.c + d⟩ : Pc) else p).l = p.l
  split <;> rfl
theorem bump_mem {n d : Int} {q : Pc} (h : q ∈ bump ps n d) : ∃ p ∈ ps, q.n = p.n ∧ q.l = p.l ∧ q.c = (if p.n = n then p.c + d else p.c) := by
  obtain ⟨p, hp, rfl⟩ := List.mem_map.mp h
  refine ⟨p, hp, ?_⟩
  split <;> simp_all
theorem Okp.bump (O : Okp g ps) {n d : Int} (hc : ∀ p ∈ ps, p.n = n → 1 ≤ p.c + d) : Okp g (bump ps n d) := by
  refine ⟨by rw [bump_n]; exact O.up, by rw [bump_l]; exact O.tn, fun q hq => ?_, fun q hq => ?_, O.g0⟩
  · obtain ⟨p, hp, e, _⟩ := bump_mem hq
    rw [e]
    exact O.rng p hp
  · obtain ⟨p, hp, _, _, e⟩ := bump_mem hq
    rw [e]
    split
    · exact hc p hp (by assumption)
    · exact O.cs p hp
/-! let go -/
theorem dropN_len (ps : List Pc) (n : Int) : (dropN ps n).length ≤ ps.length := List.length_filter_le _ _
theorem drop_map {α κ : Type} [DecidableEq κ] (k : α → κ) (v : α → V) (x : κ) (ps : List α) : dropK (ps.map fun p => (k p, v p)) x = (ps.filter fun p => decide (k p ≠ x)).map fun p => (k p, v p) := by
  unfold dropK
  rw [List.filter_map]
  rfl
theorem tx_drop (ps : List Pc) (n : Int) : dropK (txOf ps) (nK n) = txOf (dropN ps n) := by
  have h := drop_map (fun p : Pc => nK p.n) (fun p => vS p.l) (nK n) ps
  simp only [ne_eq, nK_inj] at h
  exact h
theorem ct_drop (ps : List Pc) (n : Int) : dropK (ctOf ps) (nK n) = ctOf (dropN ps n) := by
  have h := drop_map (fun p : Pc => nK p.n) (fun p => V.int p.c) (nK n) ps
  simp only [ne_eq, nK_inj] at h
  exact h
theorem bt_drop (O : Okp g ps) {p : Pc} (hp : p ∈ ps) : dropK (btOf ps) (tK p.l) = btOf (dropN ps p.n) := by
  have h := drop_map (fun p : Pc => tK p.l) (fun p => V.int p.n) (tK p.l) ps
  simp only [ne_eq, tK_inj] at h
  refine h.trans ?_
  unfold btOf dropN
  congr 1
  refine List.filter_congr fun q hq => ?_
  rw [decide_eq_decide]
  exact ⟨fun z e => z (by rw [O.injN hq hp e]), fun z e => z (by rw [O.injL hq hp e])⟩
theorem dropK_put {κ : Type} [DecidableEq κ] {kvs : List (κ × V)} {k : κ} {v : V} : dropK (putK kvs k v) k = dropK kvs k := by
  unfold putK
  split
  · unfold dropK
    induction kvs with
    | nil => rfl
    | cons a r ih =>
      rw [List.map_cons, List.filter_cons, List.filter_cons]
      have ih' : (List.filter (fun kv => decide (kv.1 ≠ k)) (r.map fun kv => if kv.1 = k then (kv.1, v) else kv)) = r.filter fun kv => decide (kv.1 ≠ k) := by
        by_cases hr : (r.any fun kv => decide (kv.1 = k)) = true
        · exact ih hr
        · have e2 : ∀ kv ∈ r, (if kv.1 = k then (kv.1, v) else kv) = kv := fun kv hm => if_neg fun z => hr (List.any_eq_true.mpr ⟨kv, hm, decide_eq_true z⟩)
          rw [List.map_congr_left e2, List.map_id']
      by_cases e : a.1 = k
      · rw [if_pos e]
        simp only [ne_eq, e, not_true_eq_false, decide_false, Bool.false_eq_true, if_false]
        exact ih'
      · rw [if_neg e, ih']
  · unfold dropK
    rw [List.filter_append]
    simp
theorem Okp.drop (O : Okp g ps) (n : Int) : Okp g (dropN ps n) := by
  have sub : (dropN ps n).Sublist ps := List.filter_sublist
  exact ⟨O.up.sublist (sub.map _), O.tn.sublist (sub.map _), fun p hp => O.rng p (sub.subset hp), fun p hp => O.cs p (sub.subset hp), O.g0⟩
theorem tx_keys (ps : List Pc) : (txOf ps).map (·.1) = (ps.map (·.n)).map Sum.inl := by
  unfold txOf
  rw [List.map_map, List.map_map]
  rfl
theorem Okp.sorted (O : Okp g ps) : ∀ ys : List Int, ys.Perm (ps.map (·.n)) → ys.Pairwise (· ≤ ·) → ys = ps.map (·.n) := fun ys h1 h2 =>
  PySem.W.os_sorted_one h1 h2 (O.up.imp fun h => by omega)
theorem bt_len (ps : List Pc) : (btOf ps).length = ps.length := List.length_map _
theorem tx_len (ps : List Pc) : (txOf ps).length = ps.length := List.length_map _
theorem ct_len (ps : List Pc) : (ctOf ps).length = ps.length := List.length_map _
theorem Okp.nil : Okp 0 [] := ⟨List.Pairwise.nil, List.nodup_nil, fun p h => (by cases h), fun p h => (by cases h), Int.le_refl _⟩
/-- what need leaves -/
def needPs (g : Int) (ps : List Pc) (l : List Nat) : Int × Int × List Pc := match findL ps l with
  | some p => (p.n, g, bump ps p.n 1)
  | none => (g + 1, g + 1, ps ++ [⟨g + 1, l, 1⟩])
theorem Okp.need (O : Okp g ps) (l : List Nat) : Okp (needPs g ps l).2.1 (needPs g ps l).2.2 := by
  unfold needPs
  cases h : findL ps l with
  | some p => exact O.bump fun q hq _ => by have := O.cs q hq; omega
  | none => exact O.new h
theorem needPs_len (g : Int) (ps : List Pc) (l : List Nat) : (needPs g ps l).2.2.length ≤ ps.length + 1 := by
  unfold needPs
  cases h : findL ps l with
  | some p => show (Ck.bump ps p.n 1).length ≤ _; rw [bump_len]; omega
  | none => show (ps ++ [_]).length ≤ _; rw [List.length_append]; exact Nat.le_refl _
/-- what free leaves of a piece that is there -/
def freePs (ps : List Pc) (p : Pc) : List Pc := if p.c = 1 then dropN ps p.n else bump ps p.n (-1)
theorem Okp.free (O : Okp g ps) {p : Pc} (hp : p ∈ ps) : Okp g (freePs ps p) := by
  unfold freePs
  split
  · exact O.drop _
  · rename_i h
    refine O.bump fun q hq e => ?_
    rw [O.injN hq hp e]
    have := O.cs p hp
    omega
theorem freePs_len (ps : List Pc) (p : Pc) : (freePs ps p).length ≤ ps.length := by
  unfold freePs
  split
  · exact dropN_len _ _
  · rw [bump_len]
    exact Nat.le_refl _
end
section
variable {K : PySem.W.Frag} {H H' : Hp} {A : SkA} {g : Int} {ps : List Pc}
/-- need, in short -/
theorem go_need {Q : VK} {E : XK} {l : List Nat} (S : SkP K H A g ps) (O : Okp g ps) (hz : ps.length < 40000) (k : ∀ H', Mo A.fp H H' → SkP K H' A (needPs g ps l).2.1 (needPs g ps l).2.2 → Q (.int (needPs g ps l).1) H') : sp_Stock_need K [.ref A.p, vS l] H Q E := by
  refine ⟨A, l, g, _, _, _, rfl, S, by rw [bt_len]; omega, by rw [tx_len]; omega, by rw [ct_len]; omega, ?_⟩
  unfold needPs at k
  cases h : findL ps l with
  | none =>
    rw [h] at k
    refine Or.inl ⟨by rw [val_bt, h]; rfl, fun H1 m S1 => k H1 m ?_⟩
    rw [bt_new (c := 1) h, tx_new (c := 1) (findN_new O), ct_new2 (findN_new O)] at S1
    exact S1
  | some p =>
    rw [h] at k
    obtain ⟨h1, h2⟩ := findL_some h
    refine Or.inr ⟨p.n, p.c, by rw [val_bt, h]; rfl, by rw [val_ct, findN_mem O h1]; rfl, fun H1 m S1 => k H1 m ?_⟩
    rw [ct_bump O (findN_mem O h1)] at S1
    show SkAt K H1 A g (btOf (bump ps p.n 1)) (txOf (bump ps p.n 1)) (ctOf (bump ps p.n 1))
    rw [bt_bump, tx_bump]
    exact S1
/-- which piece stands under x -/
def findV (ps : List Pc) : V → Option Pc
  | .int n => findN ps n
  | _ => none
theorem atN_tx (ps : List Pc) (x : V) : atN (txOf ps) x = (findV ps x).map fun p => vS p.l := by
  cases x with
  | int n => exact val_tx ps n
  | _ => rfl
theorem atN_ct (ps : List Pc) (x : V) : atN (ctOf ps) x = (findV ps x).map fun p => V.int p.c := by
  cases x with
  | int n => exact val_ct ps n
  | _ => rfl
theorem go_piece {Q : VK} {E : XK} {x : V} {n : String} (S : SkP K H A g ps) (ht : TN H x n) (k1 : ∀ p, findV ps x = some p → RetV (vS p.l) H Q) (k2 : findV ps x = none → Rz K "NotThere" H E) : sp_Stock_piece K [.ref A.p, x] H Q E :=
  ⟨A, x, n, g, _, _, _, rfl, S, ht, fun v hv => by
    rw [atN_tx, Option.map_eq_some_iff] at hv
    obtain ⟨p, h1, rfl⟩ := hv
    exact k1 p h1, fun hn => by
    rw [atN_tx, Option.map_eq_none_iff] at hn
    exact k2 hn⟩
theorem sv_piece {p : Pc} {A : SkA} (S : SkP K H A g ps) (O : Okp g ps) (hp : p ∈ ps) : SpV (sp_Stock_piece K) ([.ref A.p, .int p.n] ++ []) H (vS p.l) := fun H1 e Q q E =>
  go_piece (S.ex e) (.int p.n) (fun p' h => by
    have h2 : findN ps p.n = some p' := h
    rw [findN_mem O hp] at h2
    cases h2
    exact q) fun h => by
    have h2 : findN ps p.n = none := h
    rw [findN_mem O hp] at h2
    cases h2
theorem sv_count {x : V} {n : String} (S : SkP K H A g ps) (ht : TN H x n) : SpV (sp_Stock_count K) ([.ref A.p, x] ++ []) H (.int ((findV ps x).elim 0 (·.c))) := fun H1 e Q q E =>
  ⟨A, x, n, g, _, _, _, rfl, S.ex e, ht.ex e, by
    have e2 : (atN (ctOf ps) x).getD (.int 0) = .int ((findV ps x).elim 0 (·.c)) := by
      rw [atN_ct]
      cases findV ps x <;> rfl
    rw [e2]
    exact q⟩
theorem sl_numbers (S : SkP K H A g ps) (O : Okp g ps) : SpL (sp_Stock_numbers K) ([.ref A.p] ++ []) H ((ps.map (·.n)).map V.int) := fun H1 e Q q E =>
  ⟨A, g, _, _, _, ps.map (fun p : Pc => p.n), ps.map (fun p : Pc => p.n), rfl, S.ex e, tx_keys ps, O.sorted, q⟩
theorem go_free {Q : VK} {E : XK} {x : V} {n : String} (S : SkP K H A g ps) (O : Okp g ps) (hz : ps.length < 40000) (ht : TN H x n) (k1 : ∀ p, findV ps x = some p → ∀ H', Mo A.fp H H' → SkP K H' A g (freePs ps p) → Q .non H') (k2 : findV ps x = none → Rz K "NotThere" H E) : sp_Stock_free K [.ref A.p, x] H Q E := by
  refine ⟨A, x, n, g, _, _, _, rfl, S, ht, by rw [ct_len]; omega, fun hn => ?_, fun v hv => ?_⟩
  · rw [atN_tx, Option.map_eq_none_iff] at hn
    exact k2 hn
  · rw [atN_tx, Option.map_eq_some_iff] at hv
    obtain ⟨p, h1, rfl⟩ := hv
    obtain ⟨m, rfl⟩ : ∃ m, x = .int m := by
      cases x with
      | int m => exact ⟨m, rfl⟩
      | _ => cases h1
    have h2 : findN ps m = some p := h1
    obtain ⟨h3, rfl⟩ := findN_some h2
    have k1 := k1 p h1
    unfold freePs at k1
    refine ⟨p.n, p.c, p.l, rfl, rfl, by rw [val_ct, h2]; rfl, by rw [val_bt, findL_mem O h3]; rfl, fun hc H1 m1 S1 => ?_, fun hc H1 m1 S1 => ?_⟩
    · rw [if_neg hc] at k1
      refine k1 H1 m1 ?_
      rw [show p.c - 1 = p.c + -1 by omega, ct_bump O h2] at S1
      show SkAt K H1 A g (btOf (bump ps p.n (-1))) (txOf (bump ps p.n (-1))) (ctOf (bump ps p.n (-1)))
      rw [bt_bump, tx_bump]
      exact S1
    · rw [if_pos hc] at k1
      refine k1 H1 m1 ?_
      rw [bt_drop O h3, tx_drop, dropK_put, ct_drop] at S1
      exact S1
end

/-! ### the law of the stock: promises -/
def sp_answer5 (K : PySem.W.Frag) : Sp := fun vs H Q _ => ∃ (A : SkA) (way : Int) (x : V) (nm : String) (g : Int) (ps : List Pc), vs = [.ref A.p, .int way, x] ∧ SkP K H A g ps ∧ Okp g ps ∧ ps.length < 40000 ∧ TN H x nm ∧
  (findV ps x = none → RetU [vS (cd "not there"), .bl true] H Q) ∧
  (∀ p, findV ps x = some p → (way ≠ 0 → RetU [vS (cd "told"), vS p.l] H Q) ∧ (way = 0 → ∀ H' t, Mo A.fp H H' → SkP K H' A g (freePs ps p) → H t = none → H' t = some (.tup [vS (cd "told"), .non]) → Q (.ref t) H'))
theorem word_nt : wordOf "NotThere" = cd "not there" := by decide +kernel
/-- the law's plain dict -/
structure PlA where
  p : Addr
  t : Addr
  c : Addr
def PlA.fp (B : PlA) : List Addr := [B.p, B.t, B.c]
def sK (s : String) : Key := Sum.inr (Str.ofString s)
def plD (B : PlA) (g : Int) : List (Key × V) := [(sK "last", .int g), (sK "texts", .ref B.t), (sK "counts", .ref B.c)]
structure PlAt (H : Hp) (B : PlA) (g : Int) (tx ct : List (Key × V)) : Prop where
  hp : H B.p = some (.dK (plD B g))
  ht : H B.t = some (.dK tx)
  hc : H B.c = some (.dK ct)
  pt : B.p ≠ B.t
  pc : B.p ≠ B.c
  tc : B.t ≠ B.c
theorem sK_lt : sK "last" ≠ sK "texts" := by decide +kernel
theorem sK_lc : sK "last" ≠ sK "counts" := by decide +kernel
theorem sK_tc : sK "texts" ≠ sK "counts" := by decide +kernel
theorem pl_last (B : PlA) (g : Int) : valV (plD B g) (sK "last") = some (.int g) := rfl
theorem pl_texts (B : PlA) (g : Int) : valV (plD B g) (sK "texts") = some (.ref B.t) := by
  unfold plD
  rw [valV_neg sK_lt, valV_pos rfl]
theorem pl_counts (B : PlA) (g : Int) : valV (plD B g) (sK "counts") = some (.ref B.c) := by
  unfold plD
  rw [valV_neg sK_lc, valV_neg sK_tc, valV_pos rfl]
theorem pl_put (B : PlA) (g g' : Int) : putK (plD B g) (sK "last") (.int g') = plD B g' := by
  unfold putK plD
  rw [if_pos (by rfl)]
  simp only [List.map_cons, List.map_nil]
  rw [if_pos trivial, if_neg sK_lt.symm, if_neg sK_lc.symm]
section
variable {K : PySem.W.Frag} {H H' : Hp} {B : PlA} {g : Int} {tx ct : List (Key × V)}
theorem PlAt.mo {T : List Addr} (S : PlAt H B g tx ct) (m : Mo T H H') (d : ∀ x ∈ B.fp, x ∉ T) : PlAt H' B g tx ct := by
  obtain ⟨h1, h2, h3, n1, n2, n3⟩ := S
  exact ⟨m _ _ (d _ (by simp [PlA.fp])) h1, m _ _ (d _ (by simp [PlA.fp])) h2, m _ _ (d _ (by simp [PlA.fp])) h3, n1, n2, n3⟩
theorem PlAt.ex (S : PlAt H B g tx ct) (e : Ex H H') : PlAt H' B g tx ct := S.mo (T := []) e.mo (fun _ _ z => by cases z)
theorem PlAt.putP {g' : Int} (S : PlAt H B g tx ct) : PlAt (upd H B.p (.dK (plD B g'))) B g' tx ct :=
  ⟨upd_same, by rw [upd_ne S.pt.symm]; exact S.ht, by rw [upd_ne S.pc.symm]; exact S.hc, S.pt, S.pc, S.tc⟩
theorem PlAt.putT {tx' : List (Key × V)} (S : PlAt H B g tx ct) : PlAt (upd H B.t (.dK tx')) B g tx' ct :=
  ⟨by rw [upd_ne S.pt]; exact S.hp, upd_same, by rw [upd_ne S.tc.symm]; exact S.hc, S.pt, S.pc, S.tc⟩
theorem PlAt.putC {ct' : List (Key × V)} (S : PlAt H B g tx ct) : PlAt (upd H B.c (.dK ct')) B g tx ct' :=
  ⟨by rw [upd_ne S.pc]; exact S.hp, by rw [upd_ne S.tc]; exact S.ht, upd_same, S.pt, S.pc, S.tc⟩
end
abbrev PlP (H : Hp) (B : PlA) (g : Int) (ps : List Pc) : Prop := PlAt H B g (txOf ps) (ctOf ps)
def Apart (S T : List Addr) : Prop := ∀ x ∈ S, x ∉ T
theorem Apart.symm {S T : List Addr} (h : Apart S T) : Apart T S := fun x hx hy => h x hy hx
def sp_counted5 (K : PySem.W.Frag) : Sp := fun vs H Q _ => ∃ (A : SkA) (B : PlA) (n : Int) (g : Int) (ps : List Pc), vs = [.ref A.p, .ref B.p, .int n] ∧ SkP K H A g ps ∧ PlP H B g ps ∧ RetV (.bl true) H Q
theorem sv_counted5 {K : PySem.W.Frag} {H : Hp} {A : SkA} {B : PlA} {n g : Int} {ps : List Pc} (S : SkP K H A g ps) (L : PlP H B g ps) : SpV (sp_counted5 K) ([.ref A.p, .ref B.p, .int n] ++ []) H (.bl true) := fun H1 e Q q E => ⟨A, B, n, g, ps, rfl, S.ex e, L.ex e, q⟩
def sp_needed5 (K : PySem.W.Frag) : Sp := fun vs H Q _ => ∃ (A : SkA) (B : PlA) (l : List Nat) (g : Int) (ps : List Pc), vs = [.ref A.p, .ref B.p, vS l] ∧ SkP K H A g ps ∧ PlP H B g ps ∧ Okp g ps ∧ ps.length < 30000 ∧ Apart A.fp B.fp ∧ (∀ c ∈ l, okc c = true) ∧ l.length ≤ 10000 ∧
  ∀ H', Mo (A.fp ++ B.fp) H H' → SkP K H' A (needPs g ps l).2.1 (needPs g ps l).2.2 → PlP H' B (needPs g ps l).2.1 (needPs g ps l).2.2 → Q (.bl true) H'
/-- what is there behind a number let go -/
def goneV (ps : List Pc) (n : Int) : List Pc := match findN ps n with
  | some p => freePs ps p
  | none => ps
def sp_freed5 (K : PySem.W.Frag) : Sp := fun vs H Q _ => ∃ (A : SkA) (B : PlA) (n g : Int) (ps : List Pc), vs = [.ref A.p, .ref B.p, .int n] ∧ SkP K H A g ps ∧ PlP H B g ps ∧ Okp g ps ∧ ps.length < 30000 ∧ Apart A.fp B.fp ∧
  ∀ H', Mo (A.fp ++ B.fp) H H' → SkP K H' A g (goneV ps n) → PlP H' B g (goneV ps n) → Q (.bl true) H'
/-- a pair of lists that were told: the list, and one beside it, none of those that change -/
def Told (H : Hp) (T : List Addr) (v : V) : Prop := ∃ (t l1 l2 : Addr) (ns : List Int), v = .ref t ∧ H t = some (.tup [.ref l1, .ref l2]) ∧ H l1 = some (.lst (ns.map V.int)) ∧ H l2 = some (.lst (ns.map V.int)) ∧ l1 ∉ T ∧ l2 ∉ T ∧ ns.length ≤ 40000
def sp_look5 (K : PySem.W.Frag) : Sp := fun vs H Q _ => ∃ (A : SkA) (B : PlA) (n g : Int) (ps : List Pc) (kt : Addr) (xs : List V), vs = [.ref A.p, .ref B.p, .int n, .ref kt] ∧ SkP K H A g ps ∧ PlP H B g ps ∧ Okp g ps ∧ ps.length < 30000 ∧ H kt = some (.lst xs) ∧ xs.length < 50000 ∧
  ∀ H' v, Mo [kt] H H' → H' kt = some (.lst (xs ++ [v])) → (∀ T : List Addr, (∀ x ∈ T, H x ≠ none) → Told H' T v) → Q (.bl true) H'
def dueD (ps : List Pc) (n : Int) : Dt := match findN ps n with
  | some p => .tup [.str (cd "told"), .str p.l]
  | none => .tup [.str (cd "not there"), .tru]
theorem fit_due {ps : List Pc} {n : Int} : Fit 4 (dueD ps n) := by
  unfold dueD
  cases findN ps n with
  | some p => exact ⟨by show 2 ≤ 50000; decide, fun d h => by simp only [List.mem_cons, List.not_mem_nil, or_false] at h; rcases h with rfl | rfl <;> trivial⟩
  | none => exact ⟨by show 2 ≤ 50000; decide, fun d h => by simp only [List.mem_cons, List.not_mem_nil, or_false] at h; rcases h with rfl | rfl <;> trivial⟩
theorem rep_told {H : Hp} {t : Addr} {l : List Nat} (h : H t = some (.tup [vS (cd "told"), vS l])) : Rep H (.tup [.str (cd "told"), .str l]) (.ref t) := by
  unfold Rep
  exact ⟨t, _, rfl, h, by simp [RepL, Rep]⟩
theorem rep_toldN {H : Hp} {t : Addr} (h : H t = some (.tup [vS (cd "told"), .non])) : Rep H (.tup [.str (cd "told"), .non]) (.ref t) := by
  unfold Rep
  exact ⟨t, _, rfl, h, by simp [RepL, Rep]⟩
theorem rep_nt {H : Hp} {t : Addr} (h : H t = some (.tup [vS (cd "not there"), .bl true])) : Rep H (.tup [.str (cd "not there"), .tru]) (.ref t) := by
  unfold Rep
  exact ⟨t, _, rfl, h, by simp [RepL, Rep]⟩
theorem evd_answer {K : PySem.W.Frag} {σ : L2.St} {H : Hp} {E : XK} {ta : TA} {A : SkA} {way n g : Int} {ps : List Pc} (h : EvA ta σ H [.ref A.p, .int way, .int n]) (hw : way ≠ 0) (S : SkP K H A g ps) (O : Okp g ps) (hz : ps.length < 40000) : EvD (tCall (sp_answer5 K) [] E ta) σ H (dueD ps n) := fun H1 e Q q =>
  h H1 e _ fun H2 e2 => ⟨A, way, .int n, "int", g, ps, rfl, S.ex (e.trans e2), O, hz, .int n, fun hn p H3 hp e3 h3 => q _ H3 (e2.trans e3) (by
    have hn' : findN ps n = none := hn
    unfold dueD
    rw [hn']
    exact rep_nt h3), fun p hp => ⟨fun _ t H3 ht e3 h3 => q _ H3 (e2.trans e3) (by
    have hp' : findN ps n = some p := hp
    unfold dueD
    rw [hp']
    exact rep_told h3), fun z => (hw z).elim⟩⟩
theorem filt_some {g : Int} {ps : List Pc} {l : List Nat} {p : Pc} (O : Okp g ps) (h : findL ps l = some p) : ps.filter (fun q => decide (q.l = l)) = [p] := by
  obtain ⟨h1, h2⟩ := findL_some h
  have nd : ps.Nodup := (List.Pairwise.of_map _ (fun a b (h : a.l ≠ b.l) e => h (by rw [e])) O.tn)
  have sub : ∀ q, q ∈ ps.filter (fun q => decide (q.l = l)) ↔ q ∈ [p] := fun q => by
    rw [List.mem_filter, List.mem_singleton, decide_eq_true_eq]
    exact ⟨fun ⟨a, b⟩ => O.injL a h1 (by rw [b, h2]), fun e => by rw [e]; exact ⟨h1, h2⟩⟩
  have pm : (ps.filter (fun q => decide (q.l = l))).Perm [p] := (List.perm_ext_iff_of_nodup (nd.sublist List.filter_sublist) (by simp)).mpr sub
  exact List.perm_singleton.mp pm
theorem filt_none {ps : List Pc} {l : List Nat} (h : findL ps l = none) : ps.filter (fun q => decide (q.l = l)) = [] :=
  List.filter_eq_nil_iff.mpr fun q hq => by simpa using findL_none h q hq
def dI (ns : List Int) : Dt := .lst (ns.map Dt.int)
theorem rep_dI {H : Hp} {p : Addr} {ns : List Int} (h : H p = some (.lst (ns.map V.int))) : Rep H (dI ns) (.ref p) := by
  unfold dI Rep
  exact ⟨p, _, rfl, h, RepL.map Dt.int V.int (fun _ => by unfold Rep; rfl) ns⟩
theorem fit_dI {n : Nat} {ns : List Int} (h : ns.length ≤ 50000) : Fit (n + 1) (dI ns) := ⟨by rw [List.length_map]; exact h, fun d hd => by
  obtain ⟨i, _, rfl⟩ := List.mem_map.mp hd
  cases n <;> trivial⟩
theorem sg_dI (ns : List Int) : Sg (dI ns) := by
  unfold dI Sg
  exact sgL_all fun d hd => by
    obtain ⟨i, _, rfl⟩ := List.mem_map.mp hd
    unfold Sg
    trivial

/-! the whole law's state -/
theorem SkAt.knd {K : PySem.W.Frag} {H : Hp} {A : SkA} {g : Int} {bt tx ct : List (Key × V)} (S : SkAt K H A g bt tx ct) : ∀ x ∈ A.fp, (∃ C dx fs, H x = some (.ins C dx fs)) ∨ ∃ kvs, H x = some (.dK kvs) := fun x hx => by
  unfold SkA.fp at hx
  simp only [List.mem_cons, List.not_mem_nil, or_false] at hx
  obtain ⟨dx, ho⟩ := S.ob
  rcases hx with rfl | rfl | rfl | rfl
  · exact Or.inl ⟨_, _, _, ho⟩
  · exact Or.inr ⟨_, S.ha⟩
  · exact Or.inr ⟨_, S.hb⟩
  · exact Or.inr ⟨_, S.hc⟩
theorem PlAt.knd {H : Hp} {B : PlA} {g : Int} {tx ct : List (Key × V)} (S : PlAt H B g tx ct) : ∀ x ∈ B.fp, ∃ kvs, H x = some (.dK kvs) := fun x hx => by
  unfold PlA.fp at hx
  simp only [List.mem_cons, List.not_mem_nil, or_false] at hx
  rcases hx with rfl | rfl | rfl
  · exact ⟨_, S.hp⟩
  · exact ⟨_, S.ht⟩
  · exact ⟨_, S.hc⟩
structure W5 (K : PySem.W.Frag) (H : Hp) (A : Bool → SkA) (B : Bool → PlA) (g : Bool → Int) (ps : Bool → List Pc) : Prop where
  S : ∀ b, SkP K H (A b) (g b) (ps b)
  L : ∀ b, PlP H (B b) (g b) (ps b)
  O : ∀ b, Okp (g b) (ps b)
  ab : ∀ b c, Apart (A b).fp (B c).fp
  aa : ∀ b, Apart (A b).fp (A (!b)).fp
  bb : ∀ b, Apart (B b).fp (B (!b)).fp
def at1 {α : Type} (f : Bool → α) (b : Bool) (x : α) : Bool → α := fun z => if z = b then x else f z
section
variable {K : PySem.W.Frag} {H H' : Hp} {A : Bool → SkA} {B : Bool → PlA} {g : Bool → Int} {ps : Bool → List Pc}
theorem W5.mo {T : List Addr} (w : W5 K H A B g ps) (m : Mo T H H') (h1 : ∀ b, Apart (A b).fp T) (h2 : ∀ b, Apart (B b).fp T) : W5 K H' A B g ps :=
  ⟨fun b => (w.S b).mo m (h1 b), fun b => (w.L b).mo m (h2 b), w.O, w.ab, w.aa, w.bb⟩
theorem W5.ex (w : W5 K H A B g ps) (e : Ex H H') : W5 K H' A B g ps := w.mo (T := []) e.mo (fun _ _ _ z => by cases z) (fun _ _ _ z => by cases z)
theorem W5.turn {b : Bool} {g' : Int} {ps' : List Pc} (w : W5 K H A B g ps) (m : Mo ((A b).fp ++ (B b).fp) H H') (S : SkP K H' (A b) g' ps') (L : PlP H' (B b) g' ps') (O : Okp g' ps') : W5 K H' A B (at1 g b g') (at1 ps b ps') := by
  refine ⟨fun c => ?_, fun c => ?_, fun c => ?_, w.ab, w.aa, w.bb⟩
  · unfold at1
    by_cases e : c = b
    · subst e
      rw [if_pos rfl, if_pos rfl]
      exact S
    · rw [if_neg e, if_neg e]
      refine (w.S c).mo m fun x hx hm => ?_
      rcases List.mem_append.mp hm with h | h
      · have eb : b = !c := by cases b <;> cases c <;> simp_all
        rw [eb] at h
        exact w.aa c x hx h
      · exact w.ab c b x hx h
  · unfold at1
    by_cases e : c = b
    · subst e
      rw [if_pos rfl, if_pos rfl]
      exact L
    · rw [if_neg e, if_neg e]
      refine (w.L c).mo m fun x hx hm => ?_
      rcases List.mem_append.mp hm with h | h
      · exact w.ab b c x h hx
      · have eb : b = !c := by cases b <;> cases c <;> simp_all
        rw [eb] at h
        exact w.bb c x hx h
  · unfold at1
    by_cases e : c = b
    · subst e
      rw [if_pos rfl, if_pos rfl]
      exact O
    · rw [if_neg e, if_neg e]
      exact w.O c
theorem W5.noL (w : W5 K H A B g ps) {x : Addr} {o : HO} (h : H x = some o) (h1 : ∀ C dx fs, o ≠ .ins C dx fs) (h2 : ∀ kvs, o ≠ .dK kvs) (b : Bool) : x ∉ (A b).fp ++ (B b).fp := fun hm => by
  rcases List.mem_append.mp hm with z | z
  · rcases (w.S b).knd x z with ⟨_, _, _, e⟩ | ⟨_, e⟩
    · rw [h] at e
      exact h1 _ _ _ (Option.some.inj e)
    · rw [h] at e
      exact h2 _ (Option.some.inj e)
  · obtain ⟨_, e⟩ := (w.L b).knd x z
    rw [h] at e
    exact h2 _ (Option.some.inj e)
theorem W5.list (w : W5 K H A B g ps) {b : Bool} (m : Mo ((A b).fp ++ (B b).fp) H H') {x : Addr} {xs : List V} (h : H x = some (.lst xs)) : H' x = some (.lst xs) := m _ _ (w.noL h (fun _ _ _ z => nomatch z) (fun _ z => nomatch z) b) h
theorem W5.tup (w : W5 K H A B g ps) {b : Bool} (m : Mo ((A b).fp ++ (B b).fp) H H') {x : Addr} {xs : List V} (h : H x = some (.tup xs)) : H' x = some (.tup xs) := m _ _ (w.noL h (fun _ _ _ z => nomatch z) (fun _ z => nomatch z) b) h
theorem W5.told (w : W5 K H A B g ps) {b : Bool} (m : Mo ((A b).fp ++ (B b).fp) H H') {T : List Addr} {v : V} (h : Told H T v) : Told H' T v := by
  obtain ⟨t, l1, l2, ns, e, h1, h2, h3, h4⟩ := h
  exact ⟨t, l1, l2, ns, e, w.tup m h1, w.list m h2, w.list m h3, h4⟩
/-- a list changes -/
theorem W5.lmo (w : W5 K H A B g ps) {x : Addr} {xs : List V} (h : H x = some (.lst xs)) (m : Mo [x] H H') : W5 K H' A B g ps := by
  have n := w.noL h (fun _ _ _ z => nomatch z) (fun _ z => nomatch z)
  refine w.mo m (fun b y hy hm => n b ?_) fun b y hy hm => n b ?_
  · rw [← List.mem_singleton.mp hm]
    exact List.mem_append_left _ hy
  · rw [← List.mem_singleton.mp hm]
    exact List.mem_append_right _ hy
end
theorem Told.lmo {H H' : Hp} {T : List Addr} {x : Addr} {xs : List V} {v : V} (h : Told H T v) (hx : H x = some (.lst xs)) (hT : x ∈ T) (m : Mo [x] H H') : Told H' T v := by
  obtain ⟨t, l1, l2, ns, e, h1, h2, h3, h4, h5, h6⟩ := h
  have nt : t ∉ [x] := fun z => by
    rw [List.mem_singleton.mp z] at h1
    rw [h1] at hx
    cases hx
  exact ⟨t, l1, l2, ns, e, m _ _ nt h1, m _ _ (fun z => h4 (by rw [List.mem_singleton.mp z]; exact hT)) h2, m _ _ (fun z => h5 (by rw [List.mem_singleton.mp z]; exact hT)) h3, h4, h5, h6⟩
theorem Told.ex {H H' : Hp} {T : List Addr} {v : V} (h : Told H T v) (e : Ex H H') : Told H' T v := by
  obtain ⟨t, l1, l2, ns, e0, h1, h2, h3, h4⟩ := h
  exact ⟨t, l1, l2, ns, e0, e _ _ h1, e _ _ h2, e _ _ h3, h4⟩
theorem exl2 {σ : L2.St} {H : Hp} {ta tb : TE} {P1 P2 : Hp → V → Hp → Prop} (h1 : EvX ta σ H P1) (h2 : EvX tb σ H P2) :
    EvX (tLst (tCons ta (tCons tb tNil))) σ H (fun H1 v H4 => ∃ p v1 v2 H2 H3, v = .ref p ∧ Ex H1 H2 ∧ P1 H1 v1 H2 ∧ Ex H2 H3 ∧ P2 H2 v2 H3 ∧ H3 p = none ∧ H4 = upd H3 p (.lst [v1, v2])) := fun H1 e Q q =>
  h1 H1 e _ fun v1 H2 e2 p1 => h2 H2 (e.trans e2) _ fun v2 H3 e3 p2 => ⟨by show 2 ≤ sizeLine; rw [sizeLine_eq]; omega, fun p hp => q _ _ ((e2.trans e3).trans (Ex.new hp)) ⟨p, v1, v2, H2, H3, rfl, e2, p1, e3, p2, hp, rfl⟩⟩
/-- a new stock -/
theorem ex_stock {K : PySem.W.Frag} {σ : L2.St} {H : Hp} {E : XK} : EvX (tMake (He.ga K "Stock") (sp_Stock_init K) [] E tNil) σ H (fun H1 v H2 => ∃ A : SkA, v = .ref A.p ∧ SkP K H2 A 0 [] ∧ ∀ x ∈ A.fp, H1 x = none) := fun H1 e Q q x dx hx hd hn => by
  refine ⟨x, dx, rfl, upd_same, fun A H2 ea h1 h2 h3 m S => ⟨rfl, ?_⟩⟩
  have back : ∀ z, upd (upd H1 dx (.own x)) x (.ins (He.ga K "Stock") dx []) z = none → H1 z = none := fun z hz => fresh_back ((Ex.new hd).trans (Ex.new (by rw [upd_ne hn.symm]; exact hx))) hz
  have S' := S
  obtain ⟨p, a, b, c⟩ := A
  subst ea
  refine q _ _ ?_ ⟨⟨p, a, b, c⟩, rfl, S', fun y hy => ?_⟩
  · intro y o hy
    have ny : y ≠ p := ne_of_none hy hx
    have nd : y ≠ dx := ne_of_none hy hd
    exact m y o (by simp [ny]) (by rw [upd_ne ny, upd_ne nd]; exact hy)
  · unfold SkA.fp at hy
    simp only [List.mem_cons, List.not_mem_nil, or_false] at hy
    rcases hy with rfl | rfl | rfl | rfl
    · exact hx
    · exact back _ h1
    · exact back _ h2
    · exact back _ h3
theorem merge3 {k1 k2 k3 : Key} {v1 v2 v3 : V} (h12 : k1 ≠ k2) (h13 : k1 ≠ k3) (h23 : k2 ≠ k3) : mergeK [] [(k1, v1), (k2, v2), (k3, v3)] = [(k1, v1), (k2, v2), (k3, v3)] := by
  show putK (putK (putK [] k1 v1) k2 v2) k3 v3 = _
  rw [putK_new (kvs := []) v1 rfl]
  rw [putK_new v2 (by rw [List.nil_append, valV_neg h12]; rfl)]
  rw [putK_new v3 (by rw [List.nil_append, List.cons_append, List.nil_append, valV_neg h13, valV_neg h23]; rfl)]
  rfl
/-- a new plain dict -/
theorem ex_plain {σ : L2.St} {H : Hp} : EvX (tDisp [(tC (.str (Str.ofString "last")), tC (.int 0)), (tC (.str (Str.ofString "texts")), tDNewK), (tC (.str (Str.ofString "counts")), tDNewK)]) σ H (fun H1 v H2 => ∃ B : PlA, v = .ref B.p ∧ PlP H2 B 0 [] ∧ ∀ x ∈ B.fp, H1 x = none) := fun H1 e Q q p hp => by
  refine fun a ha b hb => ?_
  have n1 : a ≠ p := (ne_of_none upd_same ha).symm
  have ha1 : H1 a = none := by rw [upd_ne n1] at ha; exact ha
  have n2 : b ≠ a := (ne_of_none upd_same hb).symm
  have hb1 : b ≠ p ∧ H1 b = none := by
    rw [upd_ne n2] at hb
    have n3 : b ≠ p := (ne_of_none upd_same hb).symm
    rw [upd_ne n3] at hb
    exact ⟨n3, hb⟩
  refine ⟨by rw [upd_ne hb1.1.symm, upd_ne n1.symm, upd_same], [(sK "last", .int 0), (sK "texts", .ref a), (sK "counts", .ref b)], rfl, by show 3 ≤ 15; decide, ?_⟩
  rw [merge3 sK_lt sK_lc sK_tc]
  have e1 : Ex H1 (upd (upd (upd (upd H1 p (.dK [])) a (.dK [])) b (.dK [])) p (.dK (plD ⟨p, a, b⟩ 0))) := (((Ex.new hp).trans (Ex.new ha)).trans (Ex.new hb)).mut hp
  refine q _ _ e1 ⟨⟨p, a, b⟩, rfl, ⟨upd_same, ?_, ?_, n1.symm, hb1.1.symm, n2.symm⟩, fun y hy => ?_⟩
  · show upd _ p _ a = _
    rw [upd_ne n1, upd_ne n2.symm, upd_same]
    rfl
  · show upd _ p _ b = _
    rw [upd_ne hb1.1, upd_same]
    rfl
  · unfold PlA.fp at hy
    simp only [List.mem_cons, List.not_mem_nil, or_false] at hy
    rcases hy with rfl | rfl | rfl
    · exact hp
    · exact ha1
    · exact hb1.2
theorem SkAt.some {K : PySem.W.Frag} {H : Hp} {A : SkA} {g : Int} {bt tx ct : List (Key × V)} (S : SkAt K H A g bt tx ct) : ∀ x ∈ A.fp, H x ≠ none := fun x hx e => by
  rcases S.knd x hx with ⟨_, _, _, h⟩ | ⟨_, h⟩ <;> rw [e] at h <;> cases h
theorem PlAt.some {H : Hp} {B : PlA} {g : Int} {tx ct : List (Key × V)} (S : PlAt H B g tx ct) : ∀ x ∈ B.fp, H x ≠ none := fun x hx e => by
  obtain ⟨_, h⟩ := S.knd x hx
  rw [e] at h
  cases h
theorem apart_new {H : Hp} {S T : List Addr} (h1 : ∀ x ∈ S, H x ≠ none) (h2 : ∀ x ∈ T, H x = none) : Apart S T := fun x hx hy => h1 x hx (h2 x hy)
theorem evd_answerN {K : PySem.W.Frag} {σ : L2.St} {H : Hp} {E : XK} {ta : TA} {A : SkA} {way g : Int} {x : V} {nm : String} {ps : List Pc} (h : EvA ta σ H [.ref A.p, .int way, x]) (ht : TN H x nm) (hx : findV ps x = none) (S : SkP K H A g ps) (O : Okp g ps) (hz : ps.length < 40000) : EvD (tCall (sp_answer5 K) [] E ta) σ H (.tup [.str (cd "not there"), .tru]) := fun H1 e Q q =>
  h H1 e _ fun H2 e2 => ⟨A, way, x, nm, g, ps, rfl, S.ex (e.trans e2), O, hz, ht.ex (e.trans e2), fun hn p H3 hp e3 h3 => q _ H3 (e2.trans e3) (rep_nt h3), fun p hp => by
    rw [hx] at hp
    cases hp⟩
/-- what stands between two turns -/
structure In5 (K : PySem.W.Frag) (H0 H : Hp) (A : Bool → SkA) (B : Bool → PlA) (g : Bool → Int) (ps : Bool → List Pc) (sl pl p kt kd : Addr) (cs : List Int) (kn : List (List Nat)) (kx : List V) (i : Nat) : Prop where
  w : W5 K H A B g ps
  hsl : H sl = some (.lst [.ref (A false).p, .ref (A true).p])
  hpl : H pl = some (.lst [.ref (B false).p, .ref (B true).p])
  hp : H p = some (.lst (cs.map V.int))
  hkt : H kt = some (.lst kx)
  hkd : H kd = some (.lst (kn.map vS))
  to : ∀ v ∈ kx, Told H [kt, kd] v
  kl : kx.length ≤ i
  ne : 0 < kn.length
  nl : kn.length ≤ 100 + i
  ok : ∀ l ∈ kn, (∀ c ∈ l, okc c = true) ∧ l.length ≤ 100
  pz : ∀ b, (ps b).length ≤ i
  n1 : kt ≠ sl ∧ kt ≠ pl ∧ kt ≠ p ∧ kt ≠ kd
  n2 : kd ≠ sl ∧ kd ≠ pl ∧ kd ≠ p
  e0 : Ex H0 H
  fA : ∀ b, ∀ x ∈ (A b).fp, H0 x = none
  fB : ∀ b, ∀ x ∈ (B b).fp, H0 x = none
  fk : H0 kt = none ∧ H0 kd = none
section
variable {K : PySem.W.Frag} {H0 H H' : Hp} {A : Bool → SkA} {B : Bool → PlA} {g : Bool → Int} {ps : Bool → List Pc} {sl pl p kt kd : Addr} {cs : List Int} {kn : List (List Nat)} {kx : List V} {i j : Nat}
theorem In5.ex (I : In5 K H0 H A B g ps sl pl p kt kd cs kn kx i) (e : Ex H H') : In5 K H0 H' A B g ps sl pl p kt kd cs kn kx i :=
  ⟨I.w.ex e, e _ _ I.hsl, e _ _ I.hpl, e _ _ I.hp, e _ _ I.hkt, e _ _ I.hkd, fun v hv => (I.to v hv).ex e, I.kl, I.ne, I.nl, I.ok, I.pz, I.n1, I.n2, I.e0.trans e, I.fA, I.fB, I.fk⟩
theorem In5.known (I : In5 K H0 H A B g ps sl pl p kt kd cs kn kx i) {l : List Nat} (h1 : ∀ c ∈ l, okc c = true) (h2 : l.length ≤ 100) : In5 K H0 (upd H kd (.lst ((kn ++ [l]).map vS))) A B g ps sl pl p kt kd cs (kn ++ [l]) kx (i + 1) := by
  have m : Mo [kd] H (upd H kd (.lst ((kn ++ [l]).map vS))) := (Ex.refl H).put
  obtain ⟨a1, a2, a3, a4⟩ := I.n1
  obtain ⟨b1, b2, b3⟩ := I.n2
  refine ⟨I.w.lmo I.hkd m, (upd_ne b1.symm).trans I.hsl, (upd_ne b2.symm).trans I.hpl, (upd_ne b3.symm).trans I.hp, (upd_ne a4).trans I.hkt, upd_same, fun v hv => (I.to v hv).lmo I.hkd (by simp) m, by have := I.kl; omega, by rw [List.length_append]; have := I.ne; omega, by rw [List.length_append]; have := I.nl; simp; omega, fun x hx => ?_, fun b => by have := I.pz b; omega, I.n1, I.n2, m.ex0 I.e0 (fun x hx => by rw [List.mem_singleton.mp hx]; exact I.fk.2), I.fA, I.fB, I.fk⟩
  rcases List.mem_append.mp hx with hx | hx
  · exact I.ok x hx
  · rw [List.mem_singleton.mp hx]
    exact ⟨h1, h2⟩
theorem In5.later (I : In5 K H0 H A B g ps sl pl p kt kd cs kn kx i) (h : i ≤ j) : In5 K H0 H A B g ps sl pl p kt kd cs kn kx j :=
  ⟨I.w, I.hsl, I.hpl, I.hp, I.hkt, I.hkd, I.to, by have := I.kl; omega, I.ne, by have := I.nl; omega, I.ok, fun b => by have := I.pz b; omega, I.n1, I.n2, I.e0, I.fA, I.fB, I.fk⟩
theorem In5.deed (I : In5 K H0 H A B g ps sl pl p kt kd cs kn kx i) {b : Bool} {g' : Int} {ps' : List Pc} (m : Mo ((A b).fp ++ (B b).fp) H H') (S : SkP K H' (A b) g' ps') (L : PlP H' (B b) g' ps') (O : Okp g' ps') (hz : ps'.length ≤ (ps b).length + 1) :
    In5 K H0 H' A B (at1 g b g') (at1 ps b ps') sl pl p kt kd cs kn kx (i + 1) := by
  refine ⟨I.w.turn m S L O, I.w.list m I.hsl, I.w.list m I.hpl, I.w.list m I.hp, I.w.list m I.hkt, I.w.list m I.hkd, fun v hv => I.w.told m (I.to v hv), by have := I.kl; omega, I.ne, by have := I.nl; omega, I.ok, fun c => ?_, I.n1, I.n2, m.ex0 I.e0 (fun x hx => (List.mem_append.mp hx).elim (I.fA b x) (I.fB b x)), I.fA, I.fB, I.fk⟩
  unfold at1
  have := I.pz b
  have := I.pz c
  split <;> omega
theorem In5.kept (I : In5 K H0 H A B g ps sl pl p kt kd cs kn kx i) {v : V} (m : Mo [kt] H H') (h1 : H' kt = some (.lst (kx ++ [v]))) (h2 : Told H' [kt, kd] v) : In5 K H0 H' A B g ps sl pl p kt kd cs kn (kx ++ [v]) (i + 1) := by
  obtain ⟨a1, a2, a3, a4⟩ := I.n1
  have mm : ∀ {x : Addr} {o : HO}, kt ≠ x → H x = some o → H' x = some o := fun {x o} n h => m x o (by simp [n.symm]) h
  refine ⟨I.w.lmo I.hkt m, mm a1 I.hsl, mm a2 I.hpl, mm a3 I.hp, h1, mm a4 I.hkd, fun x hx => ?_, by rw [List.length_append]; have := I.kl; simp; omega, I.ne, by have := I.nl; omega, I.ok, fun c => by have := I.pz c; omega, I.n1, I.n2, m.ex0 I.e0 (fun x hx => by rw [List.mem_singleton.mp hx]; exact I.fk.1), I.fA, I.fB, I.fk⟩
  rcases List.mem_append.mp hx with hx | hx
  · exact (I.to x hx).lmo I.hkt (by simp) m
  · rw [List.mem_singleton.mp hx]
    exact h2
end
theorem gone_len (ps : List Pc) (n : Int) : (goneV ps n).length ≤ ps.length + 1 := by
  unfold goneV
  split
  · have := freePs_len ps (by assumption)
    omega
  · omega
theorem Okp.gone {g : Int} {ps : List Pc} (O : Okp g ps) (n : Int) : Okp g (goneV ps n) := by
  unfold goneV
  split
  · exact O.free (findN_some (by assumption)).1
  · exact O

theorem sc__law_answer : FnScope ["_law_stock", "_law_way", "_law_number", "_law_e"] ["_law_stock", "_law_way", "_law_number"] (defScope s__law_answer) := ⟨rfl, rfl, rfl, by decide +kernel, rfl, by decide +kernel, by decide +kernel⟩
theorem sc__law_counted : FnScope ["_law_stock", "_law_plain", "_law_number"] ["_law_stock", "_law_plain", "_law_number"] (defScope s__law_counted) := ⟨rfl, rfl, rfl, by decide +kernel, rfl, by decide +kernel, by decide +kernel⟩
theorem sc__law_look : FnScope ["_law_stock", "_law_plain", "_law_number", "_law_kept", "_law_listed", "_law_due"] ["_law_stock", "_law_plain", "_law_number", "_law_kept"] (defScope s__law_look) := ⟨rfl, rfl, rfl, by decide +kernel, rfl, by decide +kernel, by decide +kernel⟩
theorem sc__law_needed : FnScope ["_law_stock", "_law_plain", "_law_text", "_law_held", "_law_number"] ["_law_stock", "_law_plain", "_law_text"] (defScope s__law_needed) := ⟨rfl, rfl, rfl, by decide +kernel, rfl, by decide +kernel, by decide +kernel⟩
theorem sc__law_freed : FnScope ["_law_stock", "_law_plain", "_law_number", "_law_got"] ["_law_stock", "_law_plain", "_law_number"] (defScope s__law_freed) := ⟨rfl, rfl, rfl, by decide +kernel, rfl, by decide +kernel, by decide +kernel⟩
section
variable {P : Program} {w : World} {K : PySem.W.Frag} {mg : Str → Option Value} {base : Heap}
theorem ok__law_answer (T : Txt K mg) : Def P w K mg base 4 (He.ga K "_law_answer") ["_law_stock", "_law_way", "_law_number"] (sp_answer5 K) := by
  refine def_mk T.F__law_answer sc__law_answer (fun _ _ _ _ _ _ us hl => match us, hl with | [_, _, _], _ => rfl) (fun vs H Q E h => ?_) (fun cdv A outer s H vs Q E hr h => ?_)
  · obtain ⟨A, way, x, nm, g, ps, rfl, _⟩ := h
    rfl
  · obtain ⟨A, way, x, nm, g, ps, rfl, S, O, hz, ht, q0, q1⟩ := h
    refine ⟨_, (pss_one (L2N.ps_try_as (i := 3) rfl rfl sc__law_answer.nd rfl rfl ⟨by rfl, by decide, .inl T.m_ShelfError⟩ takesN0 (fun W pn xe tk hp => (pss_cons (ps_if (pt_cmpR op_eq (pv 1) pe_int (nomark _)) (pss_one (ps_ret (pe_tup (pa_cons pe_str (pa_cons (pmS (pv 0) T.cl_Stock T.me_Stock_free (ok_Stock_free T) hr (fun σ => L2N.passAt tk σ) (pa_cons (pv 2) pa_nil)) pa_nil))))) pss_nil) (pss_one (ps_ret (pe_tup (pa_cons pe_str (pa_cons (pmS (pv 0) T.cl_Stock T.me_Stock_piece (ok_Stock_piece T) hr (fun σ => L2N.passAt tk σ) (pa_cons (pv 2) pa_nil)) pa_nil))))))) (fun a oe cls d pn hz hf => (pss_one (ps_ret (pcE (ok__law_word_of T) (roomE hr) List.mem_cons_self hz.zc hf T.m__law_word_of (pa_cons (pv 3) pa_nil))))))), ?_⟩
    obtain ⟨dx, ho⟩ := S.ob
    have bad : findV ps x = none → ∀ {ts : Addr → Value → Option Addr → TS} {Wo : WX} {D : Ends} {H1 : Hp}, Ex H H1 → (∀ a H2, Ex H1 H2 → H2 a = none → ts a (.ref (He.ga K "NotThere")) none { nx := fun σ' H' => D.nx (σ'.set 3 none) H', rt := D.rt, bk := fun σ' H' => D.bk (σ'.set 3 none) H', ct := fun σ' H' => D.ct (σ'.set 3 none) H' } [some (.ref A.p), some (.int way), some x, some (.ref a)] H2) → Rz K "NotThere" H1 (WE (wAs K (.ref (He.ga K "ShelfError")) 3 ts Wo D) [some (.ref A.p), some (.int way), some x, none]) := fun hn {ts Wo D H1} e1 k H2 e2 =>
      ⟨true, T.x_NotThere.up, fun _ a ha => k a H2 e2 ha, fun hb => by cases hb⟩
    have suite : findV ps x = none → ∀ {a : Addr} {H1 : Hp} {D : Ends}, Ex H H1 → D.rt = Q → tRet (tCall (spe_word K a (.ref (He.ga K "NotThere")) none) [] E0 (tCons (tVar 3) tNil)) D [some (.ref A.p), some (.int way), some x, some (.ref a)] H1 := fun hn {a H1 D} e1 hD =>
      c_go (EvA.one (ev_var rfl)) fun H2 e2 => ⟨"NotThere", by decide, rfl, rfl, rfl, fun p H3 hp e3 h3 => by
        rw [hD]
        rw [word_nt] at h3
        exact q0 hn p H3 (fresh_back (e1.trans e2) hp) ((e1.trans e2).trans e3) h3⟩
    refine q_when (b := decide (way = 0)) (et_test (ev_op (ev_var rfl) ev_c rv_eqI)) (fun hb H1 e1 => ?_) (fun hb H1 e1 => ?_)
    · have hw := of_decide_eq_true hb
      refine mH_go (vs := [x]) (ev_var rfl) (e1 _ _ ho) rfl (EvA.one (ev_var rfl)) fun H2 e2 => ?_
      have e12 := e1.trans e2
      refine go_free (S.ex e12) O (by omega) (ht.ex e12) (fun p hp H3 m3 S3 => ?_) fun hn => bad hn e12 fun a H3 e3 ha => suite hn (e12.trans e3) rfl
      refine ⟨by show 2 ≤ sizeLine; rw [sizeLine_eq]; omega, fun t htn => ?_⟩
      have hH : H t = none := by
        cases hz : H t with
        | none => rfl
        | some o =>
          by_cases hm : t ∈ A.fp
          · unfold SkA.fp at hm
            simp only [List.mem_cons, List.not_mem_nil, or_false] at hm
            obtain ⟨dx3, ho3⟩ := S3.ob
            rcases hm with rfl | rfl | rfl | rfl
            · exact absurd htn (by rw [ho3]; simp)
            · exact absurd htn (by rw [S3.ha]; simp)
            · exact absurd htn (by rw [S3.hb]; simp)
            · exact absurd htn (by rw [S3.hc]; simp)
          · exact absurd htn (by rw [m3 t o hm (e12 _ _ hz)]; simp)
      refine (q1 p hp).2 hw _ t ((Mo.trans e12.mo m3).trans (Evl.Ex.mo (Ex.new htn))) (S3.ex (Ex.new htn)) hH ?_
      rw [lit "told"]
      exact upd_same
    · have hw := of_decide_eq_false hb
      refine mH_go (vs := [x]) (ev_var rfl) (e1 _ _ ho) rfl (EvA.one (ev_var rfl)) fun H2 e2 => ?_
      have e12 := e1.trans e2
      refine go_piece (S.ex e12) (ht.ex e12) (fun p hp H3 e3 => ?_) fun hn => bad hn e12 fun a H3 e3 ha => suite hn (e12.trans e3) rfl
      refine ⟨by show 2 ≤ sizeLine; rw [sizeLine_eq]; omega, fun t htn => ?_⟩
      have e13 := e12.trans e3
      refine (q1 p hp).1 hw t _ (fresh_back e13 htn) (e13.trans (Ex.new htn)) ?_
      rw [lit "told"]
      exact upd_same
theorem ok__law_counted (T : Txt K mg) : Def P w K mg base 7 (He.ga K "_law_counted") ["_law_stock", "_law_plain", "_law_number"] (sp_counted5 K) := by
  refine def_mk T.F__law_counted sc__law_counted (fun _ _ _ _ _ _ us hl => match us, hl with | [_, _, _], _ => rfl) (fun vs H Q E h => ?_) (fun cdv A outer s H vs Q E hr h => ?_)
  · obtain ⟨A, B, n, g, ps, rfl, _⟩ := h
    rfl
  · obtain ⟨A, B, n, g, ps, rfl, S, L, q⟩ := h
    refine ⟨_, (pss_one (ps_ret (pc (ok__law_alike T) hr T.m__law_alike (pa_cons (pm (pv 0) T.cl_Stock T.me_Stock_count (ok_Stock_count T) hr (pa_cons (pv 2) pa_nil)) (pa_cons (pe_dget2 (hu_of hr) (pe_dget (hu_of hr) (pv 1) pe_str (fun _ _ => rfl)) (pv 2) pe_int ⟨rfl, rfl, rfl, rfl⟩) pa_nil))))), ?_⟩
    obtain ⟨dx, ho⟩ := S.ob
    refine s_ret (ev_alike (d := .int ((findV ps (.int n)).elim 0 (·.c))) (evd_int (ev_meth (ev_var rfl) ho rfl (EvA.one (ev_var rfl)) (sv_count S (.int n)))) (evd_int (ev_is (ev_dgetD (k := nK n) (ev_dget (k := sK "counts") (ev_var rfl) ev_c (.inl L.hp) (pl_counts B g)) (ev_var rfl) ev_c (.inl L.hc)) ?_)) trivial) q
    rw [val_ct]
    show ((findN ps n).map fun p => V.int p.c).getD (.int 0) = .int ((findN ps n).elim 0 (·.c))
    cases findN ps n <;> rfl
theorem ok__law_needed (T : Txt K mg) : Def P w K mg base 7 (He.ga K "_law_needed") ["_law_stock", "_law_plain", "_law_text"] (sp_needed5 K) := by
  refine def_mk T.F__law_needed sc__law_needed (fun _ _ _ _ _ _ us hl => match us, hl with | [_, _, _], _ => rfl) (fun vs H Q E h => ?_) (fun cdv A outer s H vs Q E hr h => ?_)
  · obtain ⟨A, B, l, g, ps, rfl, _⟩ := h
    rfl
  · obtain ⟨A, B, l, g, ps, rfl, S, L, O, hz, ap, hs, hll, q⟩ := h
    refine ⟨_, (pss_cons (ps_lock (ps_setLc (i := 3) (own := [("_law_number", 4)]) (g := gName 4) rfl sc__law_needed.nd rfl rfl (sw_true rfl rfl rfl (by decide +kernel)) (pi_keys (pe_dget (hu_of hr) (pv 1) pe_str (fun _ _ => rfl))) (blkOk_by (own := [("_law_number", 4)]) (N := ["_law_stock", "_law_plain", "_law_text", "_law_held", "_law_number"]) (sc := defScope s__law_needed) (by decide +kernel)) (fun _ _ _ _ _ => pg_name (i := 4) sc__law_needed.nd rfl (Or.inl rfl)) (fun _ _ _ _ _ => pts_one (pt_cmpR op_eq (pe_dget (hu_of hr) (pe_dget (hu_of hr) (pv 1) pe_str (fun _ _ => rfl)) (pv 4) (fun _ _ => rfl)) (pv 2) (nomark _))) (fun _ _ _ _ _ => (pv 4)))) (pss_cut (ps_if (pt_cmpR (kop_eqD (K := K) rfl hr.units) (pv 3) (pe_lst pa_nil) (nomark _)) (pss_cons (ps_dput (hu_of hr) (pv 1) pe_str (pe_op op_add (pe_dget (hu_of hr) (pv 1) pe_str (fun _ _ => rfl)) pe_int) rfl) (pss_cons (ps_set (i := 3) sc__law_needed.nd rfl (.inl rfl) (pe_lst (pa_cons (pe_dget (hu_of hr) (pv 1) pe_str (fun _ _ => rfl)) pa_nil))) (pss_one (ps_dput (hu_of hr) (pe_dget (hu_of hr) (pv 1) pe_str (fun _ _ => rfl)) (pe_ix (kix_list (K := K) rfl) (pv 3) pe_int (fun _ _ => rfl)) (pv 2) rfl)))) pss_nil) (pss_cons (ps_dput (hu_of hr) (pe_dget (hu_of hr) (pv 1) pe_str (fun _ _ => rfl)) (pe_ix (kix_list (K := K) rfl) (pv 3) pe_int (fun _ _ => rfl)) (pe_op op_add (pe_dget2 (hu_of hr) (pe_dget (hu_of hr) (pv 1) pe_str (fun _ _ => rfl)) (pe_ix (kix_list (K := K) rfl) (pv 3) pe_int (fun _ _ => rfl)) pe_int ⟨rfl, rfl, rfl, rfl⟩) pe_int) rfl) (pss_one (ps_ret (pc (ok__law_alike T) hr T.m__law_alike (pa_cons (pm (pv 0) T.cl_Stock T.me_Stock_need (ok_Stock_need T) hr (pa_cons (pv 2) pa_nil)) (pa_cons (pe_ix (kix_list (K := K) rfl) (pv 3) pe_int (fun _ _ => rfl)) pa_nil)))))))), ?_⟩
    refine q_asgLock (d := B.t) (o := .dK (txOf ps)) (xs := (ps.filter fun p => decide (p.l = l)).map fun p => V.int p.n) L.ht trivial (fun od => ?_) fun hd H1 hhd e1 h1 => ?_
    · have hp' : (upd H B.t (.frz od (.dK (txOf ps)))) B.p = some (.dK (plD B g)) := (upd_ne L.pt).trans L.hp
      refine el_lcK (d := B.t) (od := od) (kvs := txOf ps) (l := ps) (gk := fun p => nK p.n) (gv := fun p => vS p.l) (fun p => decide (p.l = l)) (fun p => V.int p.n) (ev_dget (k := sK "texts") (ev_var rfl) ev_c (.inl hp') (pl_texts B g)) upd_same rfl (by omega) (fun _ => rfl) (fun b H2 hb e2 => ?_) (fun b H2 hb e2 _ => ev_var rfl)
      exact et_test (ev_op (ev_dget (v := vS b.l) (k := nK b.n) (ev_dget (k := sK "texts") (ev_var rfl) ev_c (.inl (e2 _ _ hp')) (pl_texts B g)) (ev_var rfl) (.inr ⟨od, e2 _ _ upd_same⟩) (by rw [val_tx, findN_mem O hb]; rfl)) (ev_var rfl) rv_eqS)
    walk_at "n5"
    have hhd' : ∀ {x o}, H x = some o → x ≠ hd := fun hx => ne_of_none hx hhd
    obtain ⟨dx, ho⟩ := S.ob
    refine q_cut (M := fun σ' H' => ∃ (hd : Addr) (v : Option V) (g' : Int) (tx' ct' : List (Key × V)) (c : Int), σ' = [some (.ref A.p), some (.ref B.p), some (vS l), some (.ref hd), v] ∧ Mo B.fp H H' ∧ PlAt H' B g' tx' ct' ∧ H' hd = some (.lst [.int (needPs g ps l).1]) ∧
      (valV ct' (nK (needPs g ps l).1)).getD (.int 0) = .int c ∧ ct'.length ≤ 30000 ∧ g' = (needPs g ps l).2.1 ∧ tx' = txOf (needPs g ps l).2.2 ∧ putK ct' (nK (needPs g ps l).1) (.int (c + 1)) = ctOf (needPs g ps l).2.2) ?_ ?_
    · have hlen : (ps.filter fun p => decide (p.l = l)).length ≤ 30000 := Nat.le_trans (List.length_filter_le _ _) (by omega)
      have hmm : ∀ f : List Pc, f.map (fun p => V.int p.n) = (f.map (·.n)).map V.int := fun f => by
        rw [List.map_map]
        rfl
      have tst : ∀ ns : List Int, (ps.filter fun p => decide (p.l = l)).map (·.n) = ns → Ev (tOp (rEqD K) (tVar 3) (tLst tNil)) [some (.ref A.p), some (.ref B.p), some (vS l), some (.ref hd), none] H1 (.bl (PyData.eqv (dI ns).toP (dI []).toP)) := fun ns hns =>
        ev_eqD (n := 4) (evd_of (ev_var rfl) (rep_dI (by rw [← hns, ← hmm]; exact h1))) (evd_of_L (el_lst ea_nil (by decide)) fun p H2 h2 => rep_dI h2) (fit_dI (by rw [← hns, List.length_map]; omega)) (fit_dI (by decide)) (sg_dI _) (sg_dI _)
      cases hf : findL ps l with
      | none =>
        have e0 := filt_none hf
        have en : needPs g ps l = (g + 1, g + 1, ps ++ [⟨g + 1, l, 1⟩]) := by
          unfold needPs
          rw [hf]
        rw [en]
        refine s_when (b := true) (et_test (ev_is (tst [] (by rw [e0]; rfl)) (by rw [eqv_same (sg_dI _)]))) (fun _ H2 e2 => ?_) (fun hb => by cases hb)
        have L2 := (L.ex e1).ex e2
        refine q_dput (k := sK "last") (v := .int (g + 1)) (ev_op (ev_dget (k := sK "last") (ev_var rfl) ev_c (.inl L2.hp) (pl_last B g)) ev_c rv_I0) (ev_var rfl) ev_c L2.hp (by show 3 < 100000; decide) fun H3 e3 => ?_
        rw [pl_put]
        have L3 := (L2.ex e3).putP (g' := g + 1)
        have m3 : Mo B.fp H (upd H3 B.p (.dK (plD B (g + 1)))) := (Evl.Ex.mo (e1.trans (e2.trans e3))).put (by simp [PlA.fp])
        refine q_asgL (xs := [.int (g + 1)]) (el_lst (EvA.one (ev_dget (k := sK "last") (ev_var rfl) ev_c (.inl L3.hp) (pl_last B (g + 1)))) (by show 1 ≤ 100000; decide)) fun h4 H4 hh4 e4 g4 => ?_
        have L4 := L3.ex e4
        refine s_dput (k := nK (g + 1)) (ev_var rfl) (ev_dget (k := sK "texts") (ev_var rfl) ev_c (.inl L4.hp) (pl_texts B (g + 1))) (ev_op (ev_var rfl) ev_c (rv_ixL' (sq_of g4) (by decide) rfl)) L4.ht (by rw [tx_len]; omega) fun H5 e5 => ?_
        have L5 := (L4.ex e5).putT (tx' := putK (txOf ps) (nK (g + 1)) (vS l))
        have n4 : h4 ≠ B.t := (ne_of_none L3.ht hh4).symm
        refine ⟨h4, none, g + 1, _, ctOf ps, 0, rfl, (m3.trans (Evl.Ex.mo (e4.trans e5))).put (by simp [PlA.fp]), L5, (upd_ne n4).trans (e5 _ _ g4), by rw [val_ct, findN_new O]; rfl, by rw [ct_len]; omega, rfl, tx_new (findN_new O), ct_new (findN_new O)⟩
      | some p =>
        have e0 := filt_some O hf
        obtain ⟨p1, p2⟩ := findL_some hf
        have en : needPs g ps l = (p.n, g, bump ps p.n 1) := by
          unfold needPs
          rw [hf]
        rw [en]
        refine s_when (b := false) (et_test (ev_is (tst [p.n] (by rw [e0]; rfl)) (by rfl))) (fun hb => by cases hb) (fun _ H2 e2 => ?_)
        refine ⟨hd, none, g, txOf ps, ctOf ps, p.c, rfl, Evl.Ex.mo (e1.trans e2), (L.ex e1).ex e2, ?_, by rw [val_ct, findN_mem O p1]; rfl, by rw [ct_len]; omega, rfl, (tx_bump _ _ _).symm, ct_bump O (findN_mem O p1)⟩
        have h2 := e2 _ _ h1
        rw [e0] at h2
        exact h2
    · rintro σ' H2 ⟨hd2, v, g', tx', ct', c, rfl, m2, L2, h2, hc, hct, rfl, rfl, hput⟩
      have S2 : SkP K H2 A g ps := S.mo m2 ap
      have ixh : ∀ {H3 : Hp}, H3 hd2 = some (.lst [.int (needPs g ps l).1]) → Ev (tOp (rIxL K) (tVar 3) (tC (.int 0))) [some (.ref A.p), some (.ref B.p), some (vS l), some (.ref hd2), v] H3 (.int (needPs g ps l).1) := fun h3 => ev_op (ev_var rfl) ev_c (rv_ixL' (sq_of h3) (by decide) rfl)
      refine q_dput (k := nK (needPs g ps l).1) (v := .int (c + 1)) (ev_op (ev_is (ev_dgetD (k := nK (needPs g ps l).1) (ev_dget (k := sK "counts") (ev_var rfl) ev_c (.inl L2.hp) (pl_counts B _)) (ixh h2) ev_c (.inl L2.hc)) hc) ev_c rv_I0) (ev_dget (k := sK "counts") (ev_var rfl) ev_c (.inl L2.hp) (pl_counts B _)) (ixh h2) L2.hc (by omega) fun H3 e3 => ?_
      rw [hput]
      have L3 := (L2.ex e3).putC (ct' := ctOf (needPs g ps l).2.2)
      have m3 : Mo B.fp H (upd H3 B.c (.dK (ctOf (needPs g ps l).2.2))) := (m2.trans e3.mo).put (by simp [PlA.fp])
      have n3 : hd2 ≠ B.c := fun z => by
        have := L2.hc
        rw [← z, h2] at this
        cases this
      have h3 := (upd_ne (o := .dK (ctOf (needPs g ps l).2.2)) n3).trans (e3 _ _ h2)
      have S3 : SkP K (upd H3 B.c (.dK (ctOf (needPs g ps l).2.2))) A g ps := S.mo m3 ap
      obtain ⟨dx3, ho3⟩ := S3.ob
      refine m_go (vs := [vS l]) (ev_var rfl) ho3 rfl (EvA.one (ev_var rfl)) fun H4 e4 => ?_
      refine go_need (S3.ex e4) O (by omega) fun H5 m5 S5 => ?_
      have n5 : hd2 ∉ A.fp := fun z => by
        unfold SkA.fp at z
        simp only [List.mem_cons, List.not_mem_nil, or_false] at z
        rcases z with rfl | rfl | rfl | rfl
        · rw [h3] at ho3; cases ho3
        · have := S3.ha; rw [h3] at this; cases this
        · have := S3.hb; rw [h3] at this; cases this
        · have := S3.hc; rw [h3] at this; cases this
      have h5 := m5 _ _ n5 (e4 _ _ h3)
      have L5 := (L3.ex e4).mo m5 ap.symm
      refine (EvA.one (ixh h5)) H5 (Ex.refl _) _ fun H6 e6 => ?_
      refine sv_alike (n := 4) (d := .int (needPs g ps l).1) (by unfold Rep; rfl) (by unfold Rep; rfl) trivial H6 (Ex.refl _) Q (fun H7 e7 => ?_) E0
      have m7 : Mo (A.fp ++ B.fp) H H7 := ((((m3.trans e4.mo).sub fun x hx => List.mem_append_right _ hx).trans (m5.sub fun x hx => List.mem_append_left _ hx)).trans (Evl.Ex.mo (e6.trans e7)))
      exact q H7 m7 (S5.ex (e6.trans e7)) (L5.ex (e6.trans e7))
theorem ok__law_freed (T : Txt K mg) : Def P w K mg base 7 (He.ga K "_law_freed") ["_law_stock", "_law_plain", "_law_number"] (sp_freed5 K) := by
  refine def_mk T.F__law_freed sc__law_freed (fun _ _ _ _ _ _ us hl => match us, hl with | [_, _, _], _ => rfl) (fun vs H Q E h => ?_) (fun cdv A outer s H vs Q E hr h => ?_)
  · obtain ⟨A, B, n, g, ps, rfl, _⟩ := h
    rfl
  · obtain ⟨A, B, n, g, ps, rfl, S, L, O, hz, ap, q⟩ := h
    refine ⟨_, (pss_cons (ps_set (i := 3) sc__law_freed.nd rfl (.inl rfl) (pc (ok__law_answer T) hr T.m__law_answer (pa_cons (pv 0) (pa_cons pe_int (pa_cons (pv 2) pa_nil))))) (pss_cons (ps_if (pt_cmp (pc_dnotin (hu_of hr) (pv 2) (pe_dget (hu_of hr) (pv 1) pe_str (fun _ _ => rfl)))) (pss_one (ps_ret (pc (ok__law_alike T) hr T.m__law_alike (pa_cons (pv 3) (pa_cons (pe_tup (pa_cons pe_str (pa_cons pe_bl pa_nil))) pa_nil))))) pss_nil) (pss_cons (ps_dput (hu_of hr) (pe_dget (hu_of hr) (pv 1) pe_str (fun _ _ => rfl)) (pv 2) (pe_op op_sub (pe_dget (hu_of hr) (pe_dget (hu_of hr) (pv 1) pe_str (fun _ _ => rfl)) (pv 2) (fun _ _ => rfl)) pe_int) rfl) (pss_cut (ps_if (pt_cmpR op_eq (pe_dget (hu_of hr) (pe_dget (hu_of hr) (pv 1) pe_str (fun _ _ => rfl)) (pv 2) (fun _ _ => rfl)) pe_int (nomark _)) (pss_cons (ps_expr (pe_dpop1 (pe_dget (hu_of hr) (pv 1) pe_str (fun _ _ => rfl)) (pv 2) ⟨rfl, rfl, rfl, rfl⟩)) (pss_one (ps_expr (pe_dpop1 (pe_dget (hu_of hr) (pv 1) pe_str (fun _ _ => rfl)) (pv 2) ⟨rfl, rfl, rfl, rfl⟩)))) pss_nil) (pss_one (ps_ret (pc (ok__law_alike T) hr T.m__law_alike (pa_cons (pv 3) (pa_cons (pe_tup (pa_cons pe_str (pa_cons pe_non pa_nil))) pa_nil))))))))), ?_⟩
    refine c_go (vs := [.ref A.p, .int 0, .int n]) (ea_cons (ev_var rfl) (ea_cons ev_c (EvA.one (ev_var rfl)))) fun H1 e1 => ⟨A, 0, .int n, "int", g, ps, rfl, S.ex e1, O, by omega, .int n, fun hn t H2 ht e2 hT => ?_, fun p hp => ⟨fun z => absurd rfl z, fun _ H2 t m2 S2 ht hT => ?_⟩⟩
    · have hn' : findN ps n = none := hn
      have e12 := e1.trans e2
      have L2 := L.ex e12
      show tSeq _ _ _ [some (.ref A.p), some (.ref B.p), some (.int n), some (.ref t)] H2
      refine q_when (b := true) (et_is (et_B (ev_dni (k := nK n) (ev_var rfl) (ev_dget (k := sK "texts") (ev_var rfl) ev_c (.inl L2.hp) (pl_texts B g)) (.inl L2.ht))) (by rw [val_tx, hn']; rfl)) (fun _ H3 e3 => ?_) (fun hb => by cases hb)
      refine s_ret (ev_alike (evd_of (ev_var rfl) (rep_nt (e3 _ _ hT))) (evd_tup (ead_cons (evd_str ev_str) (ead_cons (evd_tru ev_c) ead_nil)) (by decide)) ⟨by show 2 ≤ 50000; decide, fun d h => by simp only [List.mem_cons, List.not_mem_nil, or_false] at h; rcases h with rfl | rfl <;> trivial⟩) fun H4 e4 => ?_
      have e14 := e12.trans (e3.trans e4)
      unfold goneV at q
      rw [hn'] at q
      exact q H4 e14.mo (S.ex e14) (L.ex e14)
    · have hp' : findN ps n = some p := hp
      obtain ⟨hpm, hpn⟩ := findN_some hp'
      have m12 := Mo.trans e1.mo m2
      have L2 := L.mo m12 ap.symm
      unfold goneV at q
      rw [hp'] at q
      show tSeq _ _ _ [some (.ref A.p), some (.ref B.p), some (.int n), some (.ref t)] H2
      refine q_when (b := false) (et_is (et_B (ev_dni (k := nK n) (ev_var rfl) (ev_dget (k := sK "texts") (ev_var rfl) ev_c (.inl L2.hp) (pl_texts B g)) (.inl L2.ht))) (by rw [val_tx, hp']; rfl)) (fun hb => by cases hb) (fun _ H3 e3 => ?_)
      have L3 := L2.ex e3
      have vc : valV (ctOf ps) (nK n) = some (.int p.c) := by rw [val_ct, hp']; rfl
      have dc : ∀ {H4 : Hp}, H4 B.p = some (.dK (plD B g)) → Ev (tDGet (tVar 1) (tC (.str (Str.ofString "counts")))) [some (.ref A.p), some (.ref B.p), some (.int n), some (.ref t)] H4 (.ref B.c) := fun h => ev_dget (k := sK "counts") (ev_var rfl) ev_c (.inl h) (pl_counts B g)
      have dt : ∀ {H4 : Hp}, H4 B.p = some (.dK (plD B g)) → Ev (tDGet (tVar 1) (tC (.str (Str.ofString "texts")))) [some (.ref A.p), some (.ref B.p), some (.int n), some (.ref t)] H4 (.ref B.t) := fun h => ev_dget (k := sK "texts") (ev_var rfl) ev_c (.inl h) (pl_texts B g)
      refine q_dput (k := nK n) (v := .int (p.c - 1)) (ev_op (ev_dget (k := nK n) (dc L3.hp) (ev_var rfl) (.inl L3.hc) vc) ev_c rv_I0) (dc L3.hp) (ev_var rfl) L3.hc (by rw [ct_len]; omega) fun H4 e4 => ?_
      have L4 := (L3.ex e4).putC (ct' := putK (ctOf ps) (nK n) (.int (p.c - 1)))
      have eb : putK (ctOf ps) (nK n) (.int (p.c - 1)) = ctOf (bump ps n (-1)) := by
        rw [show p.c - 1 = p.c + -1 by omega, ct_bump O hp']
      have m4 : Mo B.fp H2 (upd H4 B.c (.dK (putK (ctOf ps) (nK n) (.int (p.c - 1))))) := (Evl.Ex.mo (e3.trans e4)).put (by simp [PlA.fp])
      refine q_cut (M := fun σ' H' => σ' = [some (.ref A.p), some (.ref B.p), some (.int n), some (.ref t)] ∧ Mo B.fp H2 H' ∧ PlP H' B g (freePs ps p)) ?_ ?_
      · refine s_when (b := decide (p.c - 1 = 0)) (et_test (ev_op (ev_dget (v := .int (p.c - 1)) (k := nK n) (dc L4.hp) (ev_var rfl) (.inl L4.hc) (by rw [valV_put, if_pos rfl])) ev_c rv_eqI)) (fun hb H5 e5 => ?_) (fun hb H5 e5 => ?_)
        · have hc := of_decide_eq_true hb
          have L5 := L4.ex e5
          refine q_dpop (v := .int (p.c - 1)) (k := nK n) (dc L5.hp) (ev_var rfl) L5.hc (by rw [valV_put, if_pos rfl]) fun H6 e6 => ?_
          have L6 := (L5.ex e6).putC (ct' := dropK (putK (ctOf ps) (nK n) (.int (p.c - 1))) (nK n))
          have m6 : Mo B.fp H2 (upd H6 B.c (.dK (dropK (putK (ctOf ps) (nK n) (.int (p.c - 1))) (nK n)))) := (m4.trans (Evl.Ex.mo (e5.trans e6))).put (by simp [PlA.fp])
          refine s_dpop (v := vS p.l) (k := nK n) (dt L6.hp) (ev_var rfl) L6.ht (by rw [val_tx, hp']; rfl) fun H7 e7 => ?_
          have L7 := (L6.ex e7).putT (tx' := dropK (txOf ps) (nK n))
          refine ⟨rfl, (m6.trans e7.mo).put (by simp [PlA.fp]), ?_⟩
          unfold freePs
          rw [if_pos (by omega), hpn]
          rw [dropK_put, ct_drop, tx_drop] at L7
          rw [tx_drop]
          exact L7
        · have hc := of_decide_eq_false hb
          refine ⟨rfl, m4.trans e5.mo, ?_⟩
          unfold freePs
          rw [if_neg (by omega), hpn]
          have L5 := L4.ex e5
          rw [eb] at L5
          show PlAt H5 B g (txOf (bump ps n (-1))) (ctOf (bump ps n (-1)))
          rw [tx_bump]
          exact L5
      · rintro σ' H5 ⟨rfl, m5, L5⟩
        have nt : t ∉ B.fp := fun z => by
          unfold PlA.fp at z
          simp only [List.mem_cons, List.not_mem_nil, or_false] at z
          rcases z with rfl | rfl | rfl
          · have := L2.hp; rw [hT] at this; cases this
          · have := L2.ht; rw [hT] at this; cases this
          · have := L2.hc; rw [hT] at this; cases this
        refine s_ret (ev_alike (evd_of (ev_var rfl) (rep_toldN (m5 _ _ nt hT))) (evd_tup (ead_cons (evd_str ev_str) (ead_cons (evd_non ev_c) ead_nil)) (by decide)) ⟨by show 2 ≤ 50000; decide, fun d h => by simp only [List.mem_cons, List.not_mem_nil, or_false] at h; rcases h with rfl | rfl <;> trivial⟩) fun H6 e6 => ?_
        have m6 : Mo (A.fp ++ B.fp) H H6 := (m12.sub fun x hx => List.mem_append_left _ hx).trans ((m5.trans e6.mo).sub fun x hx => List.mem_append_right _ hx)
        exact q H6 m6 (S2.mo (m5.trans e6.mo) ap) (L5.ex e6)
theorem ok__law_look (T : Txt K mg) : Def P w K mg base 8 (He.ga K "_law_look") ["_law_stock", "_law_plain", "_law_number", "_law_kept"] (sp_look5 K) := by
  refine def_mk T.F__law_look sc__law_look (fun _ _ _ _ _ _ us hl => match us, hl with | [_, _, _, _], _ => rfl) (fun vs H Q E h => ?_) (fun cdv A outer s H vs Q E hr h => ?_)
  · obtain ⟨A, B, n, g, ps, kt, xs, rfl, _⟩ := h
    rfl
  · obtain ⟨A, B, n, g, ps, kt, xs, rfl, S, L, O, hz, hk, hx, q⟩ := h
    refine ⟨_, (pss_cons (ps_set (i := 4) sc__law_look.nd rfl (.inl rfl) (pm0 (pv 0) T.cl_Stock T.me_Stock_numbers (ok_Stock_numbers T) hr)) (pss_cons (ps_expr (kappend (K := K) rfl (pv 3) (pa_cons (pe_tup (pa_cons (pv 4) (pa_cons (pe_callTy (kcall_list (K := K) rfl) (by rfl) T.b_list (by decide +kernel) (pa_cons (pv 4) pa_nil)) pa_nil))) pa_nil))) (pss_cons (ps_set (i := 5) sc__law_look.nd rfl (.inl rfl) (pe_tup (pa_cons pe_str (pa_cons pe_bl pa_nil)))) (pss_cut (ps_if (pt_cmp (pc_din (hu_of hr) (pv 2) (pe_dget (hu_of hr) (pv 1) pe_str (fun _ _ => rfl)))) (pss_one (ps_set (i := 5) sc__law_look.nd rfl (.inl rfl) (pe_tup (pa_cons pe_str (pa_cons (pe_dget (hu_of hr) (pe_dget (hu_of hr) (pv 1) pe_str (fun _ _ => rfl)) (pv 2) (fun _ _ => rfl)) pa_nil))))) pss_nil) (pss_cons (ps_if (PW.pt (pw_or (pt_not (pt_val (pc (ok__law_alike T) hr T.m__law_alike (pa_cons (pv 4) (pa_cons (pe_callB (cr_sortedDN rfl) (by rfl) T.b_sorted (by decide +kernel) (pa_cons (pe_dget (hu_of hr) (pv 1) pe_str (fun _ _ => rfl)) pa_nil)) pa_nil))))) (pw_or1 (pt_not (pt_val (pc (ok__law_alike T) hr T.m__law_alike (pa_cons (pc (ok__law_answer T) hr T.m__law_answer (pa_cons (pv 0) (pa_cons pe_int (pa_cons (pv 2) pa_nil)))) (pa_cons (pv 5) pa_nil)))))))) (pss_one (ps_ret pe_bl)) pss_nil) (pss_one (ps_ret (pc (ok__law_counted T) hr T.m__law_counted (pa_cons (pv 0) (pa_cons (pv 1) (pa_cons (pv 2) pa_nil))))))))))), ?_⟩
    obtain ⟨dx, ho⟩ := S.ob
    refine q_asgL (el_meth (ev_var rfl) ho rfl ea_nil (sl_numbers S O)) fun l1 H1 hl1 e1 h1 => ?_
    refine q_appPL (e1 _ _ hk) (ev_var rfl) (ev_var rfl) (el_list (ev_var rfl) (sq_of h1)) (by omega) fun t l2 H2 ht hl2 e2 h2 hT => ?_
    have e12 := e1.trans e2
    have m2 : Mo [kt] H (upd H2 kt (.lst (xs ++ [.ref t]))) := e12.put
    have nl1 : l1 ≠ kt := (ne_of_none hk hl1).symm
    have nl2 : l2 ≠ kt := (ne_of_none (e1 _ _ hk) hl2).symm
    have nt : t ≠ kt := (ne_of_none (e1 _ _ hk) ht).symm
    have S2 : SkP K (upd H2 kt (.lst (xs ++ [.ref t]))) A g ps := S.mo m2 fun x hx => by
      simp only [List.mem_cons, List.not_mem_nil, or_false]
      rintro rfl
      unfold SkA.fp at hx
      simp only [List.mem_cons, List.not_mem_nil, or_false] at hx
      rcases hx with rfl | rfl | rfl | rfl
      · rw [hk] at ho; cases ho
      · have := S.ha; rw [hk] at this; cases this
      · have := S.hb; rw [hk] at this; cases this
      · have := S.hc; rw [hk] at this; cases this
    have L2 : PlP (upd H2 kt (.lst (xs ++ [.ref t]))) B g ps := L.mo m2 fun x hx => by
      simp only [List.mem_cons, List.not_mem_nil, or_false]
      rintro rfl
      unfold PlA.fp at hx
      simp only [List.mem_cons, List.not_mem_nil, or_false] at hx
      rcases hx with rfl | rfl | rfl
      · have := L.hp; rw [hk] at this; cases this
      · have := L.ht; rw [hk] at this; cases this
      · have := L.hc; rw [hk] at this; cases this
    have T2 : ∀ T : List Addr, (∀ x ∈ T, H x ≠ none) → Told (upd H2 kt (.lst (xs ++ [.ref t]))) T (.ref t) := fun T hT' => ⟨t, l1, l2, ps.map (·.n), rfl, (upd_ne nt).trans hT, (upd_ne nl1).trans (e2 _ _ h1), (upd_ne nl2).trans h2, fun z => hT' _ z hl1, fun z => hT' _ z (fresh_back e1 hl2), by rw [List.length_map]; omega⟩
    have hT1 := (upd_ne (o := .lst (xs ++ [.ref t])) nl1).trans (e2 _ _ h1)
    have fin : ∀ {H3 : Hp}, Ex (upd H2 kt (.lst (xs ++ [.ref t]))) H3 → Q (.bl true) H3 := fun {H3} e3 => q H3 (.ref t) (m2.trans e3.mo) (e3 _ _ upd_same) (fun T hT' => (T2 T hT').ex e3)
    generalize upd H2 kt (.lst (xs ++ [.ref t])) = H0 at S2 L2 hT1 fin
    refine q_asgU (eu_tup (vs := [vS (cd "not there"), .bl true]) (ea_cons ev_str (EvA.one ev_c)) (by show 2 ≤ 100000; decide)) fun d3 H3 hd3 e3 h3 => ?_
    walk_at "n6"
    refine q_cut (M := fun σ' H' => ∃ d, σ' = [some (.ref A.p), some (.ref B.p), some (.int n), some (.ref kt), some (.ref l1), some (.ref d)] ∧ Ex H0 H' ∧ Rep H' (dueD ps n) (.ref d)) ?_ ?_
    · have L3 := L2.ex e3
      have ein := ev_din (σ := [some (.ref A.p), some (.ref B.p), some (.int n), some (.ref kt), some (.ref l1), some (.ref d3)]) (ty := tVar 2) (k := nK n) (ev_var rfl) (ev_dget (k := sK "texts") (ev_var (i := 1) rfl) ev_c (.inl L3.hp) (pl_texts B g)) (.inl L3.ht)
      cases hf : findN ps n with
      | none =>
        rw [val_tx, hf] at ein
        refine s_when (et_B ein) (fun hb => by cases hb) fun _ H4 e4 => ⟨d3, rfl, e3.trans e4, ?_⟩
        unfold dueD
        rw [hf]
        exact rep_nt (e4 _ _ h3)
      | some p =>
        rw [val_tx, hf] at ein
        refine s_when (et_B ein) (fun _ H4 e4 => ?_) (fun hb => by cases hb)
        have L4 := L3.ex e4
        refine s_asgU (eu_tup (vs := [vS (cd "told"), vS p.l]) (ea_cons ev_str (EvA.one (ev_dget (k := nK n) (ev_dget (k := sK "texts") (ev_var (i := 1) rfl) ev_c (.inl L4.hp) (pl_texts B g)) (ev_var rfl) (.inl L4.ht) (by rw [val_tx, hf]; rfl)))) (by show 2 ≤ 100000; decide)) fun d5 H5 hd5 e5 h5 => ?_
        refine ⟨d5, rfl, e3.trans (e4.trans e5), ?_⟩
        unfold dueD
        rw [hf]
        exact rep_told h5
    · rintro σ' H4 ⟨d, rfl, e4, r4⟩
      have S4 := S2.ex e4
      have L4 := L2.ex e4
      refine q_when (b := false) (et_or (a := false) (b := false) (et_not (a := true) (et_B (ev_alike (d := dI (ps.map (·.n))) (evd_of (ev_var rfl) (rep_dI (e4 _ _ hT1))) (evd_of_L (el_sortDN (ev_dget (k := sK "texts") (ev_var rfl) ev_c (.inl L4.hp) (pl_texts B g)) (.inl L4.ht) (tx_keys ps) O.sorted) fun p H5 h5 => rep_dI h5) (fit_dI (by rw [List.length_map]; omega)))))
        fun _ => et_not (a := true) (et_B (ev_alike (d := dueD ps n) (evd_answer (ea_cons (ev_var rfl) (ea_cons ev_c (EvA.one (ev_var rfl)))) (by decide) S4 O (by omega)) (evd_of (ev_var rfl) r4) fit_due))) (fun hb => by cases hb) fun _ H5 e5 => ?_
      refine s_ret (ev_call (ea_cons (ev_var rfl) (ea_cons (ev_var rfl) (EvA.one (ev_var rfl)))) (sv_counted5 (S4.ex e5) (L4.ex e5))) fun H6 e6 => fin (e4.trans (e5.trans e6))
end

/-! ### the law -/
theorem sc_law : FnScope ["_law_script", "_law_stocks", "_law_plains", "_law_kept", "_law_known", "_law_cell", "_law_at", "_law_number", "_law_text", "_law_thing", "_law_way", "_law_pair"] ["_law_script"] (defScope s_law) := ⟨rfl, rfl, rfl, by decide +kernel, rfl, by decide +kernel, by decide +kernel⟩
section
variable {P : Program} {w : World} {K : PySem.W.Frag} {mg : Str → Option Value} {base : Heap}
def sp_law (K : PySem.W.Frag) : Sp := fun vs H Q _ => ∃ (a : Addr) (ns : List Int), vs = [.ref a] ∧ SqL K H a (ns.map V.int) ∧ ns.length ≤ 63 ∧ RetV (.bl true) H Q
theorem two_get {α : Type} (x y : α) (b : Bool) : [x, y][(if b then (1 : Int) else 0).toNat]? = some (if b then y else x) := by cases b <;> rfl
theorem two_lo (b : Bool) : 0 ≤ (if b then (1 : Int) else 0) := by cases b <;> decide
theorem ok_law (T : Txt K mg) : Def P w K mg base 9 (He.ga K "law") ["_law_script"] (sp_law K) := by
  refine def_mk T.F_law sc_law (fun _ _ _ _ _ _ us hl => match us, hl with | [_], _ => rfl) (fun vs H Q E h => ?_) (fun cdv A outer s H vs Q E hr h => ?_)
  · obtain ⟨a, ns, rfl, _⟩ := h
    rfl
  · obtain ⟨a, ns, rfl, hS, hlen, q⟩ := h
    refine ⟨_, (pss_cons (ps_set (i := 1) sc_law.nd rfl (.inl rfl) (pe_lst (pa_cons (pmk0 T.mk_Stock (ok_Stock_init T) hr T.m_Stock) (pa_cons (pmk0 T.mk_Stock (ok_Stock_init T) hr T.m_Stock) pa_nil)))) (pss_cons (ps_set (i := 2) sc_law.nd rfl (.inl rfl) (pe_lst (pa_cons (pe_disp (pps_cons pe_str pe_int (pps_cons pe_str pe_dnewK (pps_cons pe_str pe_dnewK pps_nil))) (by rfl) (by rfl) (fun z => by cases z) (by decide)) (pa_cons (pe_disp (pps_cons pe_str pe_int (pps_cons pe_str pe_dnewK (pps_cons pe_str pe_dnewK pps_nil))) (by rfl) (by rfl) (fun z => by cases z) (by decide)) pa_nil)))) (pss_cons (ps_set (i := 3) sc_law.nd rfl (.inl rfl) (pe_lst pa_nil)) (pss_cons (ps_set (i := 4) sc_law.nd rfl (.inl rfl) (pe_lst (pa_cons pe_str pa_nil))) (pss_cons (ps_for PassesOwn.never rfl (kpi_list (K := K) rfl (pe_slice (ksl_list (K := K) rfl) (pv 0) po_none (po_some (pe_ix (kix_list (K := K) rfl) (pe_lst (pa_cons pe_int (pa_cons pe_int pa_nil))) (pe_callTy call_int1 (by rfl) T.b_int (by decide +kernel) (pa_cons (pe_cmpR op_gt (pe_callB (kcall_len (K := K) rfl) (by rfl) T.b_len (by decide +kernel) (pa_cons (pv 0) pa_nil)) pe_int (nomark _)) pa_nil)) (fun _ _ => rfl))))) (pg_name (i := 5) sc_law.nd rfl (.inl rfl)) (pss_cons (ps_set (i := 6) sc_law.nd rfl (.inl rfl) (pe_callTy call_int1 (by rfl) T.b_int (by decide +kernel) (pa_cons (pe_cmpR op_eq (pe_op op_mod (pe_op op_mod (pe_op op_mul (pv 5) pe_int) pe_int) pe_int) pe_int (nomark _)) pa_nil))) (pss_cons (ps_set (i := 7) sc_law.nd rfl (.inl rfl) (pe_op op_mod (pe_op op_fdiv (pv 5) pe_int) (pe_op op_add (pe_dget (hu_of hr) (pe_ix (kix_list (K := K) rfl) (pv 2) (pv 6) (fun _ _ => rfl)) pe_str (fun _ _ => rfl)) pe_int))) (pss_cut (ps_if (pt_cmpR op_lt (pe_op op_mod (pv 5) pe_int) pe_int (nomark _)) (pss_one (ps_expr (kappend (K := K) rfl (pv 4) (pa_cons (pc (ok__law_text_by T) hr T.m__law_text_by (pa_cons (pe_op op_fdiv (pv 5) pe_int) (pa_cons (pe_op op_add pe_int (pe_op op_mod (pe_op op_fdiv (pv 5) pe_int) pe_int)) pa_nil))) pa_nil)))) pss_nil) (pss_cons (ps_if (PW.pt (pw_and (pt_cmpR op_eq (pe_op op_mod (pe_op op_fdiv (pv 5) pe_int) pe_int) pe_int (nomark _)) (pw_and1 (pt_not (pt_val (pc (ok__law_counted T) hr T.m__law_counted (pa_cons (pe_ix (kix_list (K := K) rfl) (pv 1) (pv 6) (fun _ _ => rfl)) (pa_cons (pe_ix (kix_list (K := K) rfl) (pv 2) (pv 6) (fun _ _ => rfl)) (pa_cons (pv 7) pa_nil))))))))) (pss_one (ps_ret pe_bl)) pss_nil) (pss_cut (ps_if (pt_cmpR op_lt (pe_op op_mod (pv 5) pe_int) pe_int (nomark _)) (pss_cons (ps_set (i := 8) sc_law.nd rfl (.inl rfl) (pe_ix (kix_list (K := K) rfl) (pv 4) (pe_ix (kix_list (K := K) rfl) (pe_lst (pa_cons (pe_op op_sub (pe_callB (kcall_len (K := K) rfl) (by rfl) T.b_len (by decide +kernel) (pa_cons (pv 4) pa_nil)) pe_int) (pa_cons (pe_op op_mod (pe_op op_fdiv (pv 5) pe_int) (pe_callB (kcall_len (K := K) rfl) (by rfl) T.b_len (by decide +kernel) (pa_cons (pv 4) pa_nil))) pa_nil))) (pe_callTy call_int1 (by rfl) T.b_int (by decide +kernel) (pa_cons (pe_cmpR op_gt (pe_op op_mod (pv 5) pe_int) pe_int (nomark _)) pa_nil)) (fun _ _ => rfl)) (fun _ _ => rfl))) (pss_one (ps_if (pt_not (pt_val (pc (ok__law_needed T) hr T.m__law_needed (pa_cons (pe_ix (kix_list (K := K) rfl) (pv 1) (pv 6) (fun _ _ => rfl)) (pa_cons (pe_ix (kix_list (K := K) rfl) (pv 2) (pv 6) (fun _ _ => rfl)) (pa_cons (pv 8) pa_nil)))))) (pss_one (ps_ret pe_bl)) pss_nil))) (pss_one (ps_if (pt_not (pt_val (pc (ok__law_freed T) hr T.m__law_freed (pa_cons (pe_ix (kix_list (K := K) rfl) (pv 1) (pv 6) (fun _ _ => rfl)) (pa_cons (pe_ix (kix_list (K := K) rfl) (pv 2) (pv 6) (fun _ _ => rfl)) (pa_cons (pv 7) pa_nil)))))) (pss_one (ps_ret pe_bl)) pss_nil))) (pss_cons (ps_if (PW.pt (pw_and (pt_cmpR op_eq (pe_op op_mod (pe_op op_fdiv (pv 5) pe_int) pe_int) pe_int (nomark _)) (pw_and1 (pt_not (pt_val (pc (ok__law_counted T) hr T.m__law_counted (pa_cons (pe_ix (kix_list (K := K) rfl) (pv 1) (pv 6) (fun _ _ => rfl)) (pa_cons (pe_ix (kix_list (K := K) rfl) (pv 2) (pv 6) (fun _ _ => rfl)) (pa_cons (pv 7) pa_nil))))))))) (pss_one (ps_ret pe_bl)) pss_nil) (pss_one (ps_if (pt_not (pt_val (pc (ok__law_look T) hr T.m__law_look (pa_cons (pe_ix (kix_list (K := K) rfl) (pv 1) (pv 6) (fun _ _ => rfl)) (pa_cons (pe_ix (kix_list (K := K) rfl) (pv 2) (pv 6) (fun _ _ => rfl)) (pa_cons (pv 7) (pa_cons (pv 3) pa_nil))))))) (pss_one (ps_ret pe_bl)) pss_nil))))))))) (pss_cons (ps_for PassesOwn.never rfl (kpi_list (K := K) rfl (pe_lst (pa_cons pe_bl (pa_cons pe_non (pa_cons pe_str pa_nil))))) (pg_name (i := 9) sc_law.nd rfl (.inl rfl)) (pss_cons (ps_for PassesOwn.never rfl (pi_range1 rfl T.b_range (pa_cons pe_int pa_nil)) (pg_name (i := 10) sc_law.nd rfl (.inl rfl)) (pss_one (ps_if (pt_not (pt_val (pc (ok__law_alike T) hr T.m__law_alike (pa_cons (pc (ok__law_answer T) hr T.m__law_answer (pa_cons (pe_ix (kix_list (K := K) rfl) (pv 1) pe_int (fun _ _ => rfl)) (pa_cons (pv 10) (pa_cons (pv 9) pa_nil)))) (pa_cons (pe_tup (pa_cons pe_str (pa_cons pe_bl pa_nil))) pa_nil))))) (pss_one (ps_ret pe_bl)) pss_nil))) (pss_one (ps_if (pt_not (pt_val (pc (ok__law_alike T) hr T.m__law_alike (pa_cons (pm (pe_ix (kix_list (K := K) rfl) (pv 1) pe_int (fun _ _ => rfl)) T.cl_Stock T.me_Stock_count (ok_Stock_count T) hr (pa_cons (pv 9) pa_nil)) (pa_cons pe_int pa_nil))))) (pss_one (ps_ret pe_bl)) pss_nil)))) (pss_one (ps_ret (pe_cmpR (kop_eqD (K := K) rfl hr.units) (pe_lc (own := [("_law_pair", 11)]) (g := gName 11) rfl sc_law.nd (kpi_list (K := K) rfl (pv 3)) (blkOk_by (own := [("_law_pair", 11)]) (N := ["_law_script", "_law_stocks", "_law_plains", "_law_kept", "_law_known", "_law_cell", "_law_at", "_law_number", "_law_text", "_law_thing", "_law_way", "_law_pair"]) (sc := defScope s_law) (by decide +kernel)) (fun _ _ _ _ _ => pg_name (i := 11) sc_law.nd rfl (Or.inl rfl)) (fun _ _ _ _ _ => pts_one (pt_cmpR (kop_neD (K := K) rfl hr.units) (pe_ix (kix_tup (K := K) rfl) (pv 11) pe_int (fun _ _ => rfl)) (pe_ix (kix_tup (K := K) rfl) (pv 11) pe_int (fun _ _ => rfl)) (nomark _))) (fun _ _ _ _ _ => (pv 11))) (pe_lst pa_nil) (nomark _)))))))))), ?_⟩
    refine q_asgX (exl2 ex_stock ex_stock) fun v H1 e1 hv => ?_
    obtain ⟨sl, _, _, H2, H3, rfl, e2, ⟨A0, rfl, S0, f0⟩, e3, ⟨A1, rfl, S1, f1⟩, hsl, rfl⟩ := hv
    have S0' := (S0.ex e3).ex (Ex.new (o := .lst [.ref A0.p, .ref A1.p]) hsl)
    have S1' := S1.ex (Ex.new (o := .lst [.ref A0.p, .ref A1.p]) hsl)
    have aa : Apart A0.fp A1.fp := apart_new S0.some f1
    have gsl : (upd H3 sl (.lst [.ref A0.p, .ref A1.p])) sl = some (.lst [.ref A0.p, .ref A1.p]) := upd_same
    generalize upd H3 sl (.lst [.ref A0.p, .ref A1.p]) = H4 at e1 S0' S1' gsl
    refine q_asgX (exl2 ex_plain ex_plain) fun v H5 e5 hv => ?_
    obtain ⟨pl, _, _, H6, H7, rfl, e6, ⟨B0, rfl, L0, k0⟩, e7, ⟨B1, rfl, L1, k1⟩, hpl, rfl⟩ := hv
    have S0a := S0'.ex e5
    have S1a := S1'.ex e5
    have L0' := (L0.ex e7).ex (Ex.new (o := .lst [.ref B0.p, .ref B1.p]) hpl)
    have L1' := L1.ex (Ex.new (o := .lst [.ref B0.p, .ref B1.p]) hpl)
    have bb : Apart B0.fp B1.fp := apart_new L0.some k1
    have ab00 : Apart A0.fp B0.fp := apart_new S0'.some k0
    have ab10 : Apart A1.fp B0.fp := apart_new S1'.some k0
    have ab01 : Apart A0.fp B1.fp := apart_new (S0'.ex e6).some k1
    have ab11 : Apart A1.fp B1.fp := apart_new (S1'.ex e6).some k1
    have gpl : (upd H7 pl (.lst [.ref B0.p, .ref B1.p])) pl = some (.lst [.ref B0.p, .ref B1.p]) := upd_same
    generalize upd H7 pl (.lst [.ref B0.p, .ref B1.p]) = H8 at e5 S0a S1a L0' L1' gpl
    refine q_asgL (xs := []) (el_lst ea_nil (by decide)) fun kt H9 hkt e9 h9 => ?_
    refine q_asgL (xs := [vS (cd "a")]) (el_lst (EvA.one ev_str) (by show 1 ≤ 100000; decide)) fun kd H10 hkd e10 h10 => ?_
    walk_at "n12"
    have e90 := e9.trans e10
    obtain ⟨A, hA0, hA1⟩ : ∃ A : Bool → SkA, A false = A0 ∧ A true = A1 := ⟨fun b => if b then A1 else A0, rfl, rfl⟩
    obtain ⟨B, hB0, hB1⟩ : ∃ B : Bool → PlA, B false = B0 ∧ B true = B1 := ⟨fun b => if b then B1 else B0, rfl, rfl⟩
    subst hA0 hA1 hB0 hB1
    have W0 : W5 K H10 A B (fun _ => 0) (fun _ => []) := by
      refine ⟨fun b => ?_, fun b => ?_, fun b => Okp.nil, fun b c => ?_, fun b => ?_, fun b => ?_⟩
      · cases b
        · exact S0a.ex e90
        · exact S1a.ex e90
      · cases b
        · exact L0'.ex e90
        · exact L1'.ex e90
      · cases b <;> cases c <;> assumption
      · cases b
        · exact aa
        · exact aa.symm
      · cases b
        · exact bb
        · exact bb.symm
    have hS10 := ex_l (e1.trans (e5.trans e90)) hS
    have x8 := e5 _ _ gsl
    have cutE : EvL (tSl (rSlL K) (tVar 0) tNoPart (tPart (tOp (rIxL K) (tLst (tCons (tC (.int 30)) (tCons (tC (.int 60)) tNil))) (tCB (fun xs H Q => (∃ i, xs = [.int i] ∧ Q (.int i) H) ∨ ∃ k, xs = [.bl k] ∧ Q (.int (if k then 1 else 0)) H) (tCons (tOp (rI0 fun i j => .bl (decide (j < i))) (tCB (rLenS K) (tCons (tVar 0) tNil)) (tC (.int 63))) tNil)))))
        [some (.ref a), some (.ref sl), some (.ref pl), some (.ref kt), some (.ref kd), none, none, none, none, none, none, none] H10 ((ns.take 30).map V.int) := by
      rw [List.map_take]
      rw [← cutV_to (xs := ns.map V.int) (k := 30)]
      refine el_sl (ev_var rfl) eo_none (eo_some (ev_pick (i := 0) (vs := [.int 30, .int 60]) (ea_cons ev_c (EvA.one ev_c)) (fun H11 e11 => v_int ?_ (ev_intB (b := decide ((63 : Int) < ((ns.map V.int).length : Int))) (ev_op (ev_len (ev_var rfl) (ex_l e11 hS10)) ev_c rv_I0))) (by decide) rfl (by show 2 ≤ 100000; decide))) hS10
      rw [List.length_map, if_neg]
      simp
      omega
    refine q_forNLn cutE (fun p i σ H' => ∃ g ps kn kx v5 v6 v7 v8, σ = [some (.ref a), some (.ref sl), some (.ref pl), some (.ref kt), some (.ref kd), v5, v6, v7, v8, none, none, none] ∧ In5 K H H' A B g ps sl pl p kt kd (ns.take 30) kn kx (3 * i)) ?_ ?_ ?_ ?_
    · intro p H11 hp e11 h11
      have y8 := x8
      refine ⟨_, _, [cd "a"], [], none, none, none, none, rfl, W0.ex e11, e11 _ _ (e90 _ _ x8), e11 _ _ (e90 _ _ gpl), h11, e11 _ _ (e10 _ _ h9), e11 _ _ h10, fun v hv => (by cases hv), Nat.zero_le _, by decide, by show 1 ≤ 100 + _; omega, fun l hl => ?_, fun b => Nat.zero_le _, ⟨(ne_of_none x8 hkt).symm, (ne_of_none gpl hkt).symm, ne_of_none (e10 _ _ h9) hp, ne_of_none h9 hkd⟩, ⟨(ne_of_none (e9 _ _ x8) hkd).symm, (ne_of_none (e9 _ _ gpl) hkd).symm, ne_of_none h10 hp⟩, e1.trans (e5.trans (e90.trans e11)), fun b => ?_, fun b => ?_, fresh_back (e1.trans e5) hkt, fresh_back (e1.trans (e5.trans e9)) hkd⟩
      · rw [List.mem_singleton.mp hl]
        exact ⟨by decide, by decide⟩
      · cases b
        · exact f0
        · exact fun x hx => fresh_back e2 (f1 x hx)
      · cases b
        · exact fun x hx => fresh_back e1 (k0 x hx)
        · exact fun x hx => fresh_back (e1.trans e6) (k1 x hx)
    · rintro p i σ H11 hi ⟨g, ps, kn, kx, v5, v6, v7, v8, rfl, I⟩
      exact sq_of I.hp
    · rintro p i x σ H11 hx ⟨g, ps, kn, kx, v5, v6, v7, v8, rfl, I⟩
      obtain ⟨c, rfl⟩ : ∃ c, x = .int c := by
        rw [List.getElem?_map, Option.map_eq_some_iff] at hx
        obtain ⟨c, _, rfl⟩ := hx
        exact ⟨c, rfl⟩
      have hi30 : i < 30 := by
        have h1 := (List.getElem?_eq_some_iff.mp hx).1
        rw [List.length_map, List.length_take] at h1
        omega
      walk_at "n12"
      obtain ⟨b, hb⟩ : ∃ b, b = decide (c * 16807 % 2147483587 % 4 = 3) := ⟨_, rfl⟩
      refine q_asg (v := .int (if b then 1 else 0)) (by rw [hb]; walk_at "ev") fun H12 e12 => ?_
      walk_at "n12"
      have I12 := I.ex e12
      have ixA : ∀ {H : Hp} {σ : L2.St} {ta tb : TE}, H sl = some (.lst [.ref (A false).p, .ref (A true).p]) → Ev ta σ H (.ref sl) → Ev tb σ H (.int (if b then 1 else 0)) → Ev (tOp (rIxL K) ta tb) σ H (.ref (A b).p) := fun h1 h2 h3 =>
        ev_is (ev_op h2 h3 (rv_ixL' (sq_of h1) (two_lo b) (two_get _ _ b))) (by cases b <;> rfl)
      have ixB : ∀ {H : Hp} {σ : L2.St} {ta tb : TE}, H pl = some (.lst [.ref (B false).p, .ref (B true).p]) → Ev ta σ H (.ref pl) → Ev tb σ H (.int (if b then 1 else 0)) → Ev (tOp (rIxL K) ta tb) σ H (.ref (B b).p) := fun h1 h2 h3 =>
        ev_is (ev_op h2 h3 (rv_ixL' (sq_of h1) (two_lo b) (two_get _ _ b))) (by cases b <;> rfl)
      obtain ⟨m, hm⟩ : ∃ m, m = c / 7 % (g b + 2) := ⟨_, rfl⟩
      refine q_asg (v := .int m) (by
        rw [hm]
        refine ev_op (by walk_at "ev") (ev_op (ev_dget (k := sK "last") (ixB I12.hpl (ev_var rfl) (ev_var rfl)) ev_c (.inl (I12.w.L b).hp) (pl_last _ _)) ev_c rv_I0) (rv_I ?_)
        have := (I12.w.O b).g0
        show (0 : Int) < g b + 2
        omega) fun H13 e13 => ?_
      walk_at "n12"
      have I13 := I12.ex e13
      refine q_cut (M := fun σ' H' => ∃ kn', σ' = [some (.ref a), some (.ref sl), some (.ref pl), some (.ref kt), some (.ref kd), some (.int c), some (.int (if b then 1 else 0)), some (.int m), v8, none, none, none] ∧ In5 K H H' A B g ps sl pl p kt kd (ns.take 30) kn' kx (3 * i + 1)) ?_ ?_
      · refine s_when (b := decide (c % 7 < 3)) (et_test (by walk_at "ev")) (fun hb1 H14 e14 => ?_) (fun hb1 H14 e14 => ⟨kn, rfl, (I13.ex e14).later (by omega)⟩)
        have I14 := I13.ex e14
        refine s_app (v := vS (textBy (c / 7) (1 + c / 28 % 40))) I14.hkd (ev_var rfl) (ev_call (vs := [.int (c / 7), .int (1 + c / 28 % 40)]) (by walk_at "ea") (sv_text_by (by omega) (by omega))) (by rw [List.length_map]; have := I14.nl; omega) fun H15 e15 => ?_
        refine ⟨kn ++ [textBy (c / 7) (1 + c / 28 % 40)], rfl, ?_⟩
        have I16 := (I14.ex e15).known (l := textBy (c / 7) (1 + c / 28 % 40)) (textBy_ok _ _) (by rw [textBy_len _ (by omega)]; omega)
        rw [List.map_append] at I16
        exact I16
      · rintro σ' H14 ⟨kn', rfl, I14⟩
        have cnt : ∀ {H : Hp} {σ : L2.St} {ta tb tc td : TE} {g' : Int} {ps' : List Pc}, H sl = some (.lst [.ref (A false).p, .ref (A true).p]) → H pl = some (.lst [.ref (B false).p, .ref (B true).p]) → SkP K H (A b) g' ps' → PlP H (B b) g' ps' → Ev ta σ H (.ref sl) → Ev tb σ H (.ref pl) → Ev tc σ H (.int (if b then 1 else 0)) → Ev td σ H (.int m) →
            EvT (tNot (tB (tCall (sp_counted5 K) [] E0 (tCons (tOp (rIxL K) ta tc) (tCons (tOp (rIxL K) tb tc) (tCons td tNil)))))) σ H false := fun h1 h2 hS' hL' e1 e2 e3 e4 =>
          et_not (a := true) (et_B (ev_call (ea_cons (ixA h1 e1 e3) (ea_cons (ixB h2 e2 e3) (EvA.one e4))) (sv_counted5 hS' hL')))
        refine q_when (b := false) (et_is (et_and (a := decide (c / 49 % 2 = 1)) (b := false) (et_test (by walk_at "ev")) fun _ => cnt I14.hsl I14.hpl (I14.w.S b) (I14.w.L b) (ev_var rfl) (ev_var rfl) (ev_var rfl) (ev_var rfl)) (by simp)) (fun hb => by cases hb) fun _ H15 e15 => ?_
        have I15 := I14.ex e15
        refine q_cut (M := fun σ' H' => ∃ g' ps' v8', σ' = [some (.ref a), some (.ref sl), some (.ref pl), some (.ref kt), some (.ref kd), some (.int c), some (.int (if b then 1 else 0)), some (.int m), v8', none, none, none] ∧ In5 K H H' A B g' ps' sl pl p kt kd (ns.take 30) kn' kx (3 * i + 2)) ?_ ?_
        · refine s_if (b := decide (c % 7 < 5)) (et_test (by walk_at "ev")) (fun hb1 H16 e16 => ?_) (fun hb1 H16 e16 => ?_)
          · have I16 := I15.ex e16
            have hnl : (kn'.length : Int) ≤ 300 := by
              have := I16.nl
              omega
            have hn0 : 0 < (kn'.length : Int) := by
              have := I16.ne
              omega
            obtain ⟨j, hj⟩ : ∃ j : Int, j = if decide (2 < c % 7) then c / 14 % (kn'.length : Int) else (kn'.length : Int) - 1 := ⟨_, rfl⟩
            have hj0 : 0 ≤ j ∧ j < kn'.length := by
              rw [hj]
              split
              · exact ⟨Int.emod_nonneg _ (by omega), Int.emod_lt_of_pos _ hn0⟩
              · omega
            have hk : j.toNat < kn'.length := by omega
            have lenE : ∀ {H : Hp} {σ : L2.St} {ta : TE}, H kd = some (.lst (kn'.map vS)) → Ev ta σ H (.ref kd) → Ev (tCB (rLenS K) (tCons ta tNil)) σ H (.int (kn'.length : Int)) := fun h1 h2 => by
              have := ev_len h2 (sq_of (K := K) h1)
              rw [List.length_map] at this
              exact this
            refine q_asg (v := vS kn'[j.toNat]) (ev_op (ev_var rfl) (ev_pick (z := .int j) (vs := [.int ((kn'.length : Int) - 1), .int (c / 14 % (kn'.length : Int))]) (i := if decide (2 < c % 7) then 1 else 0) (ea_cons (ev_op (lenE I16.hkd (ev_var rfl)) ev_c rv_I0) (EvA.one (ev_op (by walk_at "ev") (lenE I16.hkd (ev_var rfl)) (rv_I hn0)))) (fun H17 e17 => by walk_at "ev") (two_lo _) (by rw [two_get, hj]; split <;> rfl) (by show 2 ≤ 100000; decide)) (rv_ixL' (sq_of I16.hkd) hj0.1 (by rw [List.getElem?_map, List.getElem?_eq_getElem hk]; rfl))) fun H17 e17 => ?_
            walk_at "n12"
            have I17 := I16.ex e17
            obtain ⟨hok, hol⟩ := I17.ok _ (List.getElem_mem hk)
            generalize kn'[j.toNat] = l at hok hol
            refine s_ifn_go (c_go (vs := [.ref (A b).p, .ref (B b).p, vS l]) (ea_cons (ixA I17.hsl (ev_var rfl) (ev_var rfl)) (ea_cons (ixB I17.hpl (ev_var rfl) (ev_var rfl)) (EvA.one (ev_var rfl)))) fun H18 e18 => ?_)
            have I18 := I17.ex e18
            refine ⟨A b, B b, l, g b, ps b, rfl, I18.w.S b, I18.w.L b, I18.w.O b, by have := I18.pz b; omega, I18.w.ab b b, hok, by omega, fun H19 m19 S19 L19 => ⟨true, rfl, iteF ?_⟩⟩
            exact ⟨_, _, _, rfl, I18.deed m19 S19 L19 ((I18.w.O b).need l) (needPs_len _ _ _)⟩
          · have I16 := I15.ex e16
            refine s_ifn_go (c_go (vs := [.ref (A b).p, .ref (B b).p, .int m]) (ea_cons (ixA I16.hsl (ev_var rfl) (ev_var rfl)) (ea_cons (ixB I16.hpl (ev_var rfl) (ev_var rfl)) (EvA.one (ev_var rfl)))) fun H18 e18 => ?_)
            have I18 := I16.ex e18
            refine ⟨A b, B b, m, g b, ps b, rfl, I18.w.S b, I18.w.L b, I18.w.O b, by have := I18.pz b; omega, I18.w.ab b b, fun H19 m19 S19 L19 => ⟨true, rfl, iteF ?_⟩⟩
            exact ⟨_, _, _, rfl, I18.deed m19 S19 L19 ((I18.w.O b).gone m) (gone_len _ _)⟩
        · rintro σ' H16 ⟨g', ps', v8', rfl, I16⟩
          refine q_when (b := false) (et_is (et_and (a := decide (c / 98 % 2 = 1)) (b := false) (et_test (by walk_at "ev")) fun _ => cnt I16.hsl I16.hpl (I16.w.S b) (I16.w.L b) (ev_var rfl) (ev_var rfl) (ev_var rfl) (ev_var rfl)) (by simp)) (fun hb => by cases hb) fun _ H17 e17 => ?_
          have I17 := I16.ex e17
          refine s_ifn_go (c_go (vs := [.ref (A b).p, .ref (B b).p, .int m, .ref kt]) (ea_cons (ixA I17.hsl (ev_var rfl) (ev_var rfl)) (ea_cons (ixB I17.hpl (ev_var rfl) (ev_var rfl)) (ea_cons (ev_var rfl) (EvA.one (ev_var rfl))))) fun H18 e18 => ?_)
          have I18 := I17.ex e18
          refine ⟨A b, B b, m, g' b, ps' b, kt, kx, rfl, I18.w.S b, I18.w.L b, I18.w.O b, by have := I18.pz b; omega, I18.hkt, by have := I18.kl; omega, fun H19 v m19 h19 t19 => ⟨true, rfl, iteF ?_⟩⟩
          refine ⟨g', ps', kn', kx ++ [v], _, _, _, _, rfl, (I18.kept m19 h19 (t19 _ fun x hx => ?_)).later (by omega)⟩
          simp only [List.mem_cons, List.not_mem_nil, or_false] at hx
          rcases hx with rfl | rfl
          · rw [I18.hkt]
            exact fun z => nomatch z
          · rw [I18.hkd]
            exact fun z => nomatch z
    · rintro p σ H11 ⟨g, ps, kn, kx, v5, v6, v7, v8, rfl, I⟩
      have hz : ((ns.take 30).map V.int).length ≤ 30 := by
        rw [List.length_map, List.length_take]
        omega
      have I0 := I.later (j := 100) (by omega)
      refine q_forNLn (xs := [.bl true, .non, vS (cd "1")]) (el_lst (ea_cons ev_c (ea_cons ev_c (EvA.one ev_str))) (by show 3 ≤ 100000; decide)) (fun t i σ H' => ∃ v9 v10, σ = [some (.ref a), some (.ref sl), some (.ref pl), some (.ref kt), some (.ref kd), v5, v6, v7, v8, v9, v10, none] ∧ Ex H11 H' ∧ H' t = some (.lst [.bl true, .non, vS (cd "1")])) (fun t H12 ht e12 h12 => ⟨none, none, rfl, e12, h12⟩) ?_ ?_ ?_
      · rintro t i σ H12 hi ⟨v9, v10, rfl, e12, h12⟩
        exact sq_of h12
      · rintro t i x σ H12 hx ⟨v9, v10, rfl, e12, h12⟩
        have hxx : (∃ nm, ∀ H, TN H x nm) ∧ ∀ ps : List Pc, findV ps x = none := by
          have hm := List.mem_of_getElem? hx
          simp only [List.mem_cons, List.not_mem_nil, or_false] at hm
          rcases hm with rfl | rfl | rfl
          · exact ⟨⟨_, fun _ => .bl _⟩, fun _ => rfl⟩
          · exact ⟨⟨_, fun _ => .non⟩, fun _ => rfl⟩
          · exact ⟨⟨_, fun _ => .str _⟩, fun _ => rfl⟩
        obtain ⟨⟨nm, htn⟩, hfv⟩ := hxx
        walk_at "n12"
        have ix0 : ∀ {H : Hp} {σ : L2.St} {ta : TE}, H sl = some (.lst [.ref (A false).p, .ref (A true).p]) → Ev ta σ H (.ref sl) → Ev (tOp (rIxL K) ta (tC (.int 0))) σ H (.ref (A false).p) := fun h1 h2 => ev_op h2 ev_c (rv_ixL' (sq_of h1) (by decide) rfl)
        refine q_forR1 (n := 2) (EvA.one ev_c) (by decide) (fun j σ H' => ∃ v10, σ = [some (.ref a), some (.ref sl), some (.ref pl), some (.ref kt), some (.ref kd), v5, v6, v7, v8, some x, v10, none] ∧ Ex H12 H') (fun H13 e13 => ⟨v10, rfl, e13⟩) ?_ ?_
        · rintro j σ H13 hj ⟨v10, rfl, e13⟩
          walk_at "n12"
          have I13 := I0.ex (e12.trans e13)
          refine s_when (D := { nx := _, rt := _, bk := _, ct := _ }) (b := false) (et_not (a := true) (et_B (ev_alike (evd_answerN (way := (j : Int)) (ea_cons (ix0 I13.hsl (ev_var rfl)) (ea_cons (ev_var rfl) (EvA.one (ev_var rfl)))) (htn _) (hfv _) (I13.w.S false) (I13.w.O false) (by have := I13.pz false; omega)) (evd_tup (ead_cons (evd_str ev_str) (ead_cons (evd_tru ev_c) ead_nil)) (by decide)) ⟨by show 2 ≤ 50000; decide, fun d h => by simp only [List.mem_cons, List.not_mem_nil, or_false] at h; rcases h with rfl | rfl <;> trivial⟩))) (fun hb => by cases hb) fun _ H14 e14 => ?_
          exact ⟨_, rfl, e13.trans e14⟩
        · rintro σ H13 ⟨v10, rfl, e13⟩
          have I13 := I0.ex (e12.trans e13)
          obtain ⟨dx, ho⟩ := (I13.w.S false).ob
          refine s_when (D := { nx := _, rt := _, bk := _, ct := _ }) (b := false) (et_not (a := true) (et_B (ev_alike (d := .int 0) (evd_int (ev_is (ev_meth (ix0 I13.hsl (ev_var rfl)) ho rfl (EvA.one (ev_var rfl)) (sv_count (I13.w.S false) (htn _))) (by rw [hfv]; rfl))) (evd_int ev_c) trivial))) (fun hb => by cases hb) fun _ H14 e14 => ?_
          exact ⟨_, _, rfl, e12.trans (e13.trans e14), e14 _ _ (e13 _ _ h12)⟩
      · rintro t σ H12 ⟨v9, v10, rfl, e12, h12⟩
        have I12 := I0.ex e12
        refine s_ret (v := .bl true) (ev_is (ev_eqD (n := 4) (d := dI []) (d2 := dI []) (evd_of_L (xs := (kx.filter (fun _ => false)).map id) (el_lcF (l := kx) (gv := id) (fun _ => false) id (ev_var rfl) (by rw [List.map_id]; exact sq_of I12.hkt) (by have := I12.kl; omega) (fun _ => rfl) (fun x H13 hx e13 => ?_) (fun x H13 _ _ hf => by cases hf)) fun p H13 h13 => rep_dI (by rw [show kx.filter (fun _ => false) = [] by simp] at h13; exact h13)) (evd_of_L (el_lst ea_nil (by decide)) fun p H13 h13 => rep_dI h13) (fit_dI (by decide)) (fit_dI (by decide)) (sg_dI _) (sg_dI _)) (by rw [eqv_same (sg_dI _)])) fun H13 e13 => ?_
        · obtain ⟨t', l1, l2, zs, rfl, g1, g2, g3, _, _, g6⟩ := (I12.to x hx).ex e13
          refine et_test (ev_is (ev_neD (n := 4) (d := dI zs) (d2 := dI zs) (evd_of (ev_op (ev_var rfl) ev_c (rv_ixT (st_of g1) rfl)) (rep_dI g2)) (evd_of (ev_op (ev_var rfl) ev_c (rv_ixT (st_of g1) rfl)) (rep_dI g3)) (fit_dI (by omega)) (fit_dI (by omega)) (sg_dI _) (sg_dI _)) ?_)
          rw [eqv_same (sg_dI _)]
          rfl
        · exact q _ ((I12.ex e13).e0)
end

end Ck
set_option maxHeartbeats 0
namespace Ck
open PySem L2
def h_fa_0 : List He.Fa := [.free "ValueError", .free "bool", .free "int", .free "isinstance", .free "len", .free "list", .free "min", .free "range", .free "sorted", .free "str", .free "tuple", .glo "is_whole", .meth "Stock" "need", .meth "Stock" "put", .meth "Stock" "free", .meth "Stock" "piece", .meth "Stock" "count", .meth "Stock" "numbers", .glo "_law_cell_at", .glo "_law_whole", .glo "_law_sign_by", .glo "_law_text_by", .glo "_law_alike", .glo "_law_word_of", .glo "_law_answer", .glo "_law_counted", .glo "_law_look", .glo "_law_needed", .glo "_law_freed", .glo "law", .glo "ShelfError", .keep "ShelfError", .glo "NoSize", .keep "NoSize", .glo "NoName", .keep "NoName", .glo "NotThere", .keep "NotThere"]
def h_fa_1 : List He.Fa := [.glo "NoPlace", .keep "NoPlace", .glo "NoText", .keep "NoText", .glo "TooLong", .keep "TooLong", .glo "TooMany", .keep "TooMany", .glo "NoNote", .keep "NoNote", .glo "Stock", .cls "Stock", .mkr "Stock", .noat "Stock" "greatest", .noat "Stock" "by_text", .noat "Stock" "texts", .noat "Stock" "counts"]
def h_fa : List He.Fa := h_fa_0 ++ (h_fa_1)
def h_fn : List He.DefD := [⟨("is_whole", none), "is_whole", "is_whole", defArgs s_is_whole, defBody s_is_whole, defScope s_is_whole, [], []⟩, ⟨("Stock", some "__init__"), "__init__", "Stock.__init__", defArgs s_Stock_init, defBody s_Stock_init, defScope s_Stock_init, [], []⟩, ⟨("Stock", some "need"), "need", "Stock.need", defArgs s_Stock_need, defBody s_Stock_need, defScope s_Stock_need, [], []⟩, ⟨("Stock", some "put"), "put", "Stock.put", defArgs s_Stock_put, defBody s_Stock_put, defScope s_Stock_put, [], []⟩, ⟨("Stock", some "free"), "free", "Stock.free", defArgs s_Stock_free, defBody s_Stock_free, defScope s_Stock_free, [], []⟩, ⟨("Stock", some "piece"), "piece", "Stock.piece", defArgs s_Stock_piece, defBody s_Stock_piece, defScope s_Stock_piece, [], []⟩, ⟨("Stock", some "count"), "count", "Stock.count", defArgs s_Stock_count, defBody s_Stock_count, defScope s_Stock_count, [], []⟩, ⟨("Stock", some "numbers"), "numbers", "Stock.numbers", defArgs s_Stock_numbers, defBody s_Stock_numbers, defScope s_Stock_numbers, [], []⟩, ⟨("_law_cell_at", none), "_law_cell_at", "_law_cell_at", defArgs s__law_cell_at, defBody s__law_cell_at, defScope s__law_cell_at, [], []⟩, ⟨("_law_whole", none), "_law_whole", "_law_whole", defArgs s__law_whole, defBody s__law_whole, defScope s__law_whole, [], []⟩, ⟨("_law_sign_by", none), "_law_sign_by", "_law_sign_by", defArgs s__law_sign_by, defBody s__law_sign_by, defScope s__law_sign_by, [], []⟩, ⟨("_law_text_by", none), "_law_text_by", "_law_text_by", defArgs s__law_text_by, defBody s__law_text_by, defScope s__law_text_by, [], []⟩, ⟨("_law_alike", none), "_law_alike", "_law_alike", defArgs s__law_alike, defBody s__law_alike, defScope s__law_alike, [], []⟩, ⟨("_law_word_of", none), "_law_word_of", "_law_word_of", defArgs s__law_word_of, defBody s__law_word_of, defScope s__law_word_of, [], []⟩, ⟨("_law_answer", none), "_law_answer", "_law_answer", defArgs s__law_answer, defBody s__law_answer, defScope s__law_answer, [], []⟩, ⟨("_law_counted", none), "_law_counted", "_law_counted", defArgs s__law_counted, defBody s__law_counted, defScope s__law_counted, [], []⟩, ⟨("_law_look", none), "_law_look", "_law_look", defArgs s__law_look, defBody s__law_look, defScope s__law_look, [], []⟩, ⟨("_law_needed", none), "_law_needed", "_law_needed", defArgs s__law_needed, defBody s__law_needed, defScope s__law_needed, [], []⟩, ⟨("_law_freed", none), "_law_freed", "_law_freed", defArgs s__law_freed, defBody s__law_freed, defScope s__law_freed, [], []⟩, ⟨("law", none), "law", "law", defArgs s_law, defBody s_law, defScope s_law, [], []⟩]
def h_loose : List Str := [("ShelfError" : Str), ("NoSize" : Str), ("NoName" : Str), ("NotThere" : Str), ("NoPlace" : Str), ("NoText" : Str), ("TooLong" : Str), ("TooMany" : Str), ("NoNote" : Str), ("is_whole" : Str), ("Stock" : Str), ("_law_cell_at" : Str), ("_law_whole" : Str), ("_law_sign_by" : Str), ("_law_text_by" : Str), ("_law_alike" : Str), ("_law_word_of" : Str), ("_law_answer" : Str), ("_law_counted" : Str), ("_law_look" : Str), ("_law_needed" : Str), ("_law_freed" : Str)]
def h_ex (K : PySem.W.Frag) : Bool := exNames.all (exB K)
abbrev RR : PySem.W.OpenRow := PySem.W.OpenLaw.row PySem.Challenge.rw_chunkshelf_k05_stock_counted
abbrev hk : PySem.W.Hook := CkH.hookC 5 h_fa h_fn h_ex
def ob (s : PySem.W.SharedT) : CkH.AlC := CkH.obsC 5 h_fa h_fn h_ex (HandSHeadRun.getT s)
theorem ob_eq (s : PySem.W.SharedT) : ob s = hk.obs s.abs := CkH.obsC_eq (HandSHeadRun.getT_eq s)
theorem head_run (w : World) : HandSHeadRun.RunEq RR (PySem.W.view RR.prog [26]) hk ob 9000 h_loose w := by
  intro os
  kernel_rfl
theorem facts {K : PySem.W.Frag} {h : Heap} {mg : Str → Option Value} (X : K.In h) (G : h.Ns mainGlobals mg) (c : CkH.SaysC h_fa h_fn h_ex K) : Txt K mg := by
  have x0 : mg "ValueError" = none := He.free_ok X G (c.1.fact 0 (f := .free "ValueError") rfl)
  have x1 : mg "bool" = none := He.free_ok X G (c.1.fact 1 (f := .free "bool") rfl)
  have x2 : mg "int" = none := He.free_ok X G (c.1.fact 2 (f := .free "int") rfl)
  have x3 : mg "isinstance" = none := He.free_ok X G (c.1.fact 3 (f := .free "isinstance") rfl)
  have x4 : mg "len" = none := He.free_ok X G (c.1.fact 4 (f := .free "len") rfl)
  have x5 : mg "list" = none := He.free_ok X G (c.1.fact 5 (f := .free "list") rfl)
  have x6 : mg "min" = none := He.free_ok X G (c.1.fact 6 (f := .free "min") rfl)
  have x7 : mg "range" = none := He.free_ok X G (c.1.fact 7 (f := .free "range") rfl)
  have x8 : mg "sorted" = none := He.free_ok X G (c.1.fact 8 (f := .free "sorted") rfl)
  have x9 : mg "str" = none := He.free_ok X G (c.1.fact 9 (f := .free "str") rfl)
  have x10 : mg "tuple" = none := He.free_ok X G (c.1.fact 10 (f := .free "tuple") rfl)
  have x11 : mg "is_whole" = some (.ref (He.ga K "is_whole")) := He.glo_ok X G (c.1.fact 11 (f := .glo "is_whole") rfl)
  have x12 : ∃ fd, Fun K "is_whole" "is_whole" s_is_whole (He.ga K "is_whole") fd := (c.1.def_ 0 rfl).imp fun _ F => CkH.fun_of F
  have x13 : ∃ fd, Fun K "__init__" "Stock.__init__" s_Stock_init (He.ma K (He.ga K "Stock") "__init__") fd := (c.1.def_ 1 rfl).imp fun _ F => CkH.fun_of F
  have x14 : Meth K (He.ga K "Stock") "need" (He.ma K (He.ga K "Stock") "need") := He.meth_ok (c.1.fact 12 (f := .meth "Stock" "need") rfl)
  have x15 : ∃ fd, Fun K "need" "Stock.need" s_Stock_need (He.ma K (He.ga K "Stock") "need") fd := (c.1.def_ 2 rfl).imp fun _ F => CkH.fun_of F
  have x16 : Meth K (He.ga K "Stock") "put" (He.ma K (He.ga K "Stock") "put") := He.meth_ok (c.1.fact 13 (f := .meth "Stock" "put") rfl)
  have x17 : ∃ fd, Fun K "put" "Stock.put" s_Stock_put (He.ma K (He.ga K "Stock") "put") fd := (c.1.def_ 3 rfl).imp fun _ F => CkH.fun_of F
  have x18 : Meth K (He.ga K "Stock") "free" (He.ma K (He.ga K "Stock") "free") := He.meth_ok (c.1.fact 14 (f := .meth "Stock" "free") rfl)
  have x19 : ∃ fd, Fun K "free" "Stock.free" s_Stock_free (He.ma K (He.ga K "Stock") "free") fd := (c.1.def_ 4 rfl).imp fun _ F => CkH.fun_of F
  have x20 : Meth K (He.ga K "Stock") "piece" (He.ma K (He.ga K "Stock") "piece") := He.meth_ok (c.1.fact 15 (f := .meth "Stock" "piece") rfl)
  have x21 : ∃ fd, Fun K "piece" "Stock.piece" s_Stock_piece (He.ma K (He.ga K "Stock") "piece") fd := (c.1.def_ 5 rfl).imp fun _ F => CkH.fun_of F
  have x22 : Meth K (He.ga K "Stock") "count" (He.ma K (He.ga K "Stock") "count") := He.meth_ok (c.1.fact 16 (f := .meth "Stock" "count") rfl)
  have x23 : ∃ fd, Fun K "count" "Stock.count" s_Stock_count (He.ma K (He.ga K "Stock") "count") fd := (c.1.def_ 6 rfl).imp fun _ F => CkH.fun_of F
  have x24 : Meth K (He.ga K "Stock") "numbers" (He.ma K (He.ga K "Stock") "numbers") := He.meth_ok (c.1.fact 17 (f := .meth "Stock" "numbers") rfl)
  have x25 : ∃ fd, Fun K "numbers" "Stock.numbers" s_Stock_numbers (He.ma K (He.ga K "Stock") "numbers") fd := (c.1.def_ 7 rfl).imp fun _ F => CkH.fun_of F
  have x26 : mg "_law_cell_at" = some (.ref (He.ga K "_law_cell_at")) := He.glo_ok X G (c.1.fact 18 (f := .glo "_law_cell_at") rfl)
  have x27 : ∃ fd, Fun K "_law_cell_at" "_law_cell_at" s__law_cell_at (He.ga K "_law_cell_at") fd := (c.1.def_ 8 rfl).imp fun _ F => CkH.fun_of F
  have x28 : mg "_law_whole" = some (.ref (He.ga K "_law_whole")) := He.glo_ok X G (c.1.fact 19 (f := .glo "_law_whole") rfl)
  have x29 : ∃ fd, Fun K "_law_whole" "_law_whole" s__law_whole (He.ga K "_law_whole") fd := (c.1.def_ 9 rfl).imp fun _ F => CkH.fun_of F
  have x30 : mg "_law_sign_by" = some (.ref (He.ga K "_law_sign_by")) := He.glo_ok X G (c.1.fact 20 (f := .glo "_law_sign_by") rfl)
  have x31 : ∃ fd, Fun K "_law_sign_by" "_law_sign_by" s__law_sign_by (He.ga K "_law_sign_by") fd := (c.1.def_ 10 rfl).imp fun _ F => CkH.fun_of F
  have x32 : mg "_law_text_by" = some (.ref (He.ga K "_law_text_by")) := He.glo_ok X G (c.1.fact 21 (f := .glo "_law_text_by") rfl)
  have x33 : ∃ fd, Fun K "_law_text_by" "_law_text_by" s__law_text_by (He.ga K "_law_text_by") fd := (c.1.def_ 11 rfl).imp fun _ F => CkH.fun_of F
  have x34 : mg "_law_alike" = some (.ref (He.ga K "_law_alike")) := He.glo_ok X G (c.1.fact 22 (f := .glo "_law_alike") rfl)
  have x35 : ∃ fd, Fun K "_law_alike" "_law_alike" s__law_alike (He.ga K "_law_alike") fd := (c.1.def_ 12 rfl).imp fun _ F => CkH.fun_of F
  have x36 : mg "_law_word_of" = some (.ref (He.ga K "_law_word_of")) := He.glo_ok X G (c.1.fact 23 (f := .glo "_law_word_of") rfl)
  have x37 : ∃ fd, Fun K "_law_word_of" "_law_word_of" s__law_word_of (He.ga K "_law_word_of") fd := (c.1.def_ 13 rfl).imp fun _ F => CkH.fun_of F
  have x38 : mg "_law_answer" = some (.ref (He.ga K "_law_answer")) := He.glo_ok X G (c.1.fact 24 (f := .glo "_law_answer") rfl)
  have x39 : ∃ fd, Fun K "_law_answer" "_law_answer" s__law_answer (He.ga K "_law_answer") fd := (c.1.def_ 14 rfl).imp fun _ F => CkH.fun_of F
  have x40 : mg "_law_counted" = some (.ref (He.ga K "_law_counted")) := He.glo_ok X G (c.1.fact 25 (f := .glo "_law_counted") rfl)
  have x41 : ∃ fd, Fun K "_law_counted" "_law_counted" s__law_counted (He.ga K "_law_counted") fd := (c.1.def_ 15 rfl).imp fun _ F => CkH.fun_of F
  have x42 : mg "_law_look" = some (.ref (He.ga K "_law_look")) := He.glo_ok X G (c.1.fact 26 (f := .glo "_law_look") rfl)
  have x43 : ∃ fd, Fun K "_law_look" "_law_look" s__law_look (He.ga K "_law_look") fd := (c.1.def_ 16 rfl).imp fun _ F => CkH.fun_of F
  have x44 : mg "_law_needed" = some (.ref (He.ga K "_law_needed")) := He.glo_ok X G (c.1.fact 27 (f := .glo "_law_needed") rfl)
  have x45 : ∃ fd, Fun K "_law_needed" "_law_needed" s__law_needed (He.ga K "_law_needed") fd := (c.1.def_ 17 rfl).imp fun _ F => CkH.fun_of F
  have x46 : mg "_law_freed" = some (.ref (He.ga K "_law_freed")) := He.glo_ok X G (c.1.fact 28 (f := .glo "_law_freed") rfl)
  have x47 : ∃ fd, Fun K "_law_freed" "_law_freed" s__law_freed (He.ga K "_law_freed") fd := (c.1.def_ 18 rfl).imp fun _ F => CkH.fun_of F
  have x48 : mg "law" = some (.ref (He.ga K "law")) := He.glo_ok X G (c.1.fact 29 (f := .glo "law") rfl)
  have x49 : ∃ fd, Fun K "law" "law" s_law (He.ga K "law") fd := (c.1.def_ 19 rfl).imp fun _ F => CkH.fun_of F
  have x50 : mg "ShelfError" = some (.ref (He.ga K "ShelfError")) := He.glo_ok X G (c.1.fact 30 (f := .glo "ShelfError") rfl)
  have x51 : PySem.W.keepIn K (.ref (He.ga K "ShelfError")) = true := He.keep_ok (c.1.fact 31 (f := .keep "ShelfError") rfl)
  have x52 : mg "NoSize" = some (.ref (He.ga K "NoSize")) := He.glo_ok X G (c.1.fact 32 (f := .glo "NoSize") rfl)
  have x53 : PySem.W.keepIn K (.ref (He.ga K "NoSize")) = true := He.keep_ok (c.1.fact 33 (f := .keep "NoSize") rfl)
  have x54 : mg "NoName" = some (.ref (He.ga K "NoName")) := He.glo_ok X G (c.1.fact 34 (f := .glo "NoName") rfl)
  have x55 : PySem.W.keepIn K (.ref (He.ga K "NoName")) = true := He.keep_ok (c.1.fact 35 (f := .keep "NoName") rfl)
  have x56 : mg "NotThere" = some (.ref (He.ga K "NotThere")) := He.glo_ok X G (c.1.fact 36 (f := .glo "NotThere") rfl)
  have x57 : PySem.W.keepIn K (.ref (He.ga K "NotThere")) = true := He.keep_ok (c.1.fact 37 (f := .keep "NotThere") rfl)
  have x58 : mg "NoPlace" = some (.ref (He.ga K "NoPlace")) := He.glo_ok X G (c.1.fact 38 (f := .glo "NoPlace") rfl)
  have x59 : PySem.W.keepIn K (.ref (He.ga K "NoPlace")) = true := He.keep_ok (c.1.fact 39 (f := .keep "NoPlace") rfl)
  have x60 : mg "NoText" = some (.ref (He.ga K "NoText")) := He.glo_ok X G (c.1.fact 40 (f := .glo "NoText") rfl)
  have x61 : PySem.W.keepIn K (.ref (He.ga K "NoText")) = true := He.keep_ok (c.1.fact 41 (f := .keep "NoText") rfl)
  have x62 : mg "TooLong" = some (.ref (He.ga K "TooLong")) := He.glo_ok X G (c.1.fact 42 (f := .glo "TooLong") rfl)
  have x63 : PySem.W.keepIn K (.ref (He.ga K "TooLong")) = true := He.keep_ok (c.1.fact 43 (f := .keep "TooLong") rfl)
  have x64 : mg "TooMany" = some (.ref (He.ga K "TooMany")) := He.glo_ok X G (c.1.fact 44 (f := .glo "TooMany") rfl)
  have x65 : PySem.W.keepIn K (.ref (He.ga K "TooMany")) = true := He.keep_ok (c.1.fact 45 (f := .keep "TooMany") rfl)
  have x66 : mg "NoNote" = some (.ref (He.ga K "NoNote")) := He.glo_ok X G (c.1.fact 46 (f := .glo "NoNote") rfl)
  have x67 : PySem.W.keepIn K (.ref (He.ga K "NoNote")) = true := He.keep_ok (c.1.fact 47 (f := .keep "NoNote") rfl)
  have x68 : mg "Stock" = some (.ref (He.ga K "Stock")) := He.glo_ok X G (c.1.fact 48 (f := .glo "Stock") rfl)
  have x69 : Cls K (He.ga K "Stock") := He.cls_ok (c.1.fact 49 (f := .cls "Stock") rfl)
  have x70 : Mk K (He.ga K "Stock") (He.ma K (He.ga K "Stock") "__init__") := He.mkr_ok (c.1.fact 50 (f := .mkr "Stock") rfl)
  have x71 : NoAttr K (He.ga K "Stock") "greatest" := He.noat_ok (c.1.fact 51 (f := .noat "Stock" "greatest") rfl)
  have x72 : NoAttr K (He.ga K "Stock") "by_text" := He.noat_ok (c.1.fact 52 (f := .noat "Stock" "by_text") rfl)
  have x73 : NoAttr K (He.ga K "Stock") "texts" := He.noat_ok (c.1.fact 53 (f := .noat "Stock" "texts") rfl)
  have x74 : NoAttr K (He.ga K "Stock") "counts" := He.noat_ok (c.1.fact 54 (f := .noat "Stock" "counts") rfl)
  have x75 : ExF K mg "NoSize" := exF_of (He.glo_ok X G (c.1.fact 32 (f := .glo "NoSize") rfl)) (List.all_eq_true.mp c.2 _ (by decide))
  have x76 : ExF K mg "NoName" := exF_of (He.glo_ok X G (c.1.fact 34 (f := .glo "NoName") rfl)) (List.all_eq_true.mp c.2 _ (by decide))
  have x77 : ExF K mg "NotThere" := exF_of (He.glo_ok X G (c.1.fact 36 (f := .glo "NotThere") rfl)) (List.all_eq_true.mp c.2 _ (by decide))
  have x78 : ExF K mg "NoPlace" := exF_of (He.glo_ok X G (c.1.fact 38 (f := .glo "NoPlace") rfl)) (List.all_eq_true.mp c.2 _ (by decide))
  have x79 : ExF K mg "NoText" := exF_of (He.glo_ok X G (c.1.fact 40 (f := .glo "NoText") rfl)) (List.all_eq_true.mp c.2 _ (by decide))
  have x80 : ExF K mg "TooLong" := exF_of (He.glo_ok X G (c.1.fact 42 (f := .glo "TooLong") rfl)) (List.all_eq_true.mp c.2 _ (by decide))
  have x81 : ExF K mg "TooMany" := exF_of (He.glo_ok X G (c.1.fact 44 (f := .glo "TooMany") rfl)) (List.all_eq_true.mp c.2 _ (by decide))
  have x82 : ExF K mg "NoNote" := exF_of (He.glo_ok X G (c.1.fact 46 (f := .glo "NoNote") rfl)) (List.all_eq_true.mp c.2 _ (by decide))
  exact {
    b_ValueError := x0,
    b_bool := x1,
    b_int := x2,
    b_isinstance := x3,
    b_len := x4,
    b_list := x5,
    b_min := x6,
    b_range := x7,
    b_sorted := x8,
    b_str := x9,
    b_tuple := x10,
    m_is_whole := x11,
    F_is_whole := x12,
    F_Stock_init := x13,
    me_Stock_need := x14,
    F_Stock_need := x15,
    me_Stock_put := x16,
    F_Stock_put := x17,
    me_Stock_free := x18,
    F_Stock_free := x19,
    me_Stock_piece := x20,
    F_Stock_piece := x21,
    me_Stock_count := x22,
    F_Stock_count := x23,
    me_Stock_numbers := x24,
    F_Stock_numbers := x25,
    m__law_cell_at := x26,
    F__law_cell_at := x27,
    m__law_whole := x28,
    F__law_whole := x29,
    m__law_sign_by := x30,
    F__law_sign_by := x31,
    m__law_text_by := x32,
    F__law_text_by := x33,
    m__law_alike := x34,
    F__law_alike := x35,
    m__law_word_of := x36,
    F__law_word_of := x37,
    m__law_answer := x38,
    F__law_answer := x39,
    m__law_counted := x40,
    F__law_counted := x41,
    m__law_look := x42,
    F__law_look := x43,
    m__law_needed := x44,
    F__law_needed := x45,
    m__law_freed := x46,
    F__law_freed := x47,
    m_law := x48,
    F_law := x49,
    m_ShelfError := x50,
    k_ShelfError := x51,
    m_NoSize := x52,
    k_NoSize := x53,
    m_NoName := x54,
    k_NoName := x55,
    m_NotThere := x56,
    k_NotThere := x57,
    m_NoPlace := x58,
    k_NoPlace := x59,
    m_NoText := x60,
    k_NoText := x61,
    m_TooLong := x62,
    k_TooLong := x63,
    m_TooMany := x64,
    k_TooMany := x65,
    m_NoNote := x66,
    k_NoNote := x67,
    m_Stock := x68,
    cl_Stock := x69,
    mk_Stock := x70,
    na_Stock_greatest := x71,
    na_Stock_by_text := x72,
    na_Stock_texts := x73,
    na_Stock_counts := x74,
    x_NoSize := x75,
    x_NoName := x76,
    x_NotThere := x77,
    x_NoPlace := x78,
    x_NoText := x79,
    x_TooLong := x80,
    x_TooMany := x81,
    x_NoNote := x82 }
end Ck
open PySem PySem.W PySem.Calls PyProof.Rows
theorem PySem.Challenge.cw_chunkshelf_k05_stock_counted_holds : PySem.Challenge.rw_chunkshelf_k05_stock_counted.Holds := by
  w_on; o_law
  refine HandSHeadRun.head_any (r := OpenLaw.row PySem.Challenge.rw_chunkshelf_k05_stock_counted) (q := view (OpenLaw.row PySem.Challenge.rw_chunkshelf_k05_stock_counted).prog [26]) (H := Ck.hk) (ob := Ck.ob) (M := 9000) (loose := Ck.h_loose) (d := HandSHeadRun.topDef (OpenLaw.row PySem.Challenge.rw_chunkshelf_k05_stock_counted).prog 26) (kwd := []) Ck.ob_eq
    (by kernel_rfl) (fun s => by kernel_rfl) Ck.head_run (by kernel_rfl) (by kernel_rfl) (by kernel_rfl) (by rfl) (by first | assumption | decide +kernel) (by decide +kernel) ⟨rfl, rfl, rfl, rfl, rfl, by decide +kernel⟩ ?hw ?hc
  case hw => w_witness2
  case hc =>
    refine L2.walk_ofE (l := PySem.Challenge.rw_chunkshelf_k05_stock_counted) (n := 63) (k := 9) (x := "_law_script") (CX := L2.CX0) rfl (by decide) (by kernel_rfl) ⟨rfl, by decide, by decide⟩ ?F (fun _ _ _ _ z => z)
    intro w mg fa h Y G hmg0
    obtain ⟨K, KX, c⟩ := Y
    have hmg : mg ("law" : PySem.Str) = some (.ref fa) := by
      have e : (HandSHeadRun.topDef (OpenLaw.row PySem.Challenge.rw_chunkshelf_k05_stock_counted).prog 26).name = ("law" : PySem.Str) := by kernel_rfl
      rw [← e]
      exact hmg0
    have T := Ck.facts KX G c
    have ef := hmg.symm.trans T.m_law
    cases ef
    refine ⟨K, Ck.fdOf K _, Ck.sp_law K, KX, fun s u => .of_eq ((Ck.ok_law (P := (PySem.Challenge.rw_chunkshelf_k05_stock_counted).prog) (w := w) (base := h) T).2.1 [u] rfl), fun H a ns hl _ hS => ⟨a, ns, rfl, hS, hl, fun _ _ => rfl⟩, fun base hb hn => ?_⟩
    exact (Ck.DefC.law (fun b _ _ => (Ck.ok_law (P := (PySem.Challenge.rw_chunkshelf_k05_stock_counted).prog) (w := w) (base := b) T)) (fun _ _ _ _ z => z) base hb hn)

