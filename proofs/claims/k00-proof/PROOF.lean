import PyProof.Rows.All
import Wide.All
import OpenK.AllK
import Wide.FinOn
import HandS.ForMost
import HandS.ForExc
import HandS.Evl
import HandS.Steps
import HandS.Codes
import HandS.ExcInit
import HandS.ExcIs
import HandS.ExcField
import HandS.HotCalls
import HandS.IsInst
import HandS.RaiseMore
import HandS.Walk
import HandS.Zip
import HandS.Style
import HandS.Head0
import HandS.Head1
import HandS.Head2
import HandS.HeadEnd
import HandS.HeadHook1
import HandS.HeadHook2
import PySem.Challenge.RW_heapshown_k00_errors_as_told
set_option Elab.async false
set_option linter.all false
set_option maxRecDepth 100000
set_option maxHeartbeats 4000000
namespace K0
open PySem PySem.Spec PyProof.Rows L2
/-! ### the text -/
def topS (i : Nat) : Stmt := PySem.Challenge.pw_heapshown_k00_errors_as_told.main.body.getD i (.Pass ⟨0, 0, 0, 0⟩)
abbrev sPen : Stmt := topS 14
abbrev sDraw : Stmt := topS 15
abbrev sPick : Stmt := topS 16
abbrev sValue : Stmt := topS 17
theorem scPen : FnScope ["script", "fold", "cell"] ["script"] (defScope sPen) := ⟨rfl, rfl, rfl, by decide +kernel, rfl, by decide +kernel, by decide +kernel⟩
theorem scDraw : FnScope ["pen", "many", "cell", "digit", "blend"] ["pen", "many"] (defScope sDraw) := ⟨rfl, rfl, rfl, by decide +kernel, rfl, by decide +kernel, by decide +kernel⟩
theorem scPick : FnScope ["pen", "some"] ["pen", "some"] (defScope sPick) := ⟨rfl, rfl, rfl, by decide +kernel, rfl, by decide +kernel, by decide +kernel⟩
theorem scValue : FnScope ["pen", "way"] ["pen"] (defScope sValue) := ⟨rfl, rfl, rfl, by decide +kernel, rfl, by decide +kernel, by decide +kernel⟩
/-! ### the pen: a dict of five texts -/
def penK (c : Addr) (a d n f : Int) : List (Key × V) := [(.inr "cells", .ref c), (.inr "at", .int a), (.inr "digits", .int d), (.inr "count", .int n), (.inr "fold", .int f)]
section
variable {c : Addr} {a d n f x : Int}
theorem pk_cells : valV (penK c a d n f) (Sum.inr "cells") = some (.ref c) := by rfl
theorem pk_at : valV (penK c a d n f) (Sum.inr "at") = some (.int a) := by rfl
theorem pk_digits : valV (penK c a d n f) (Sum.inr "digits") = some (.int d) := by rfl
theorem pk_count : valV (penK c a d n f) (Sum.inr "count") = some (.int n) := by rfl
theorem pk_fold : valV (penK c a d n f) (Sum.inr "fold") = some (.int f) := by rfl
theorem pp_at : putK (penK c a d n f) (Sum.inr "at") (.int x) = penK c x d n f := by rfl
theorem pp_digits : putK (penK c a d n f) (Sum.inr "digits") (.int x) = penK c a x n f := by rfl
theorem pp_count : putK (penK c a d n f) (Sum.inr "count") (.int x) = penK c a d x f := by rfl
theorem pp_fold : putK (penK c a d n f) (Sum.inr "fold") (.int x) = penK c a d n x := by rfl
end

/-! ### exact readings -/
section
variable {D : Ends} {σ : L2.St} {H : Hp} {td ty tv te ta tb : TE} {p : Addr} {k : Str} {v x y z : V} {kvs : List (Key × V)} {i j : Int}
theorem val_dget (h1 : Val td σ H (.ref p)) (h2 : Val ty σ H (.str k)) (e : H p = some (.dK kvs)) (l : valV kvs (.inr k) = some v) : Val (tDGet td ty) σ H v := fun Q q =>
  h1 _ (h2 _ ⟨p, v, rfl, by have z := DGet.k (k := .inr k) e; rw [l] at z; exact z, q⟩)
theorem st_dput (hv : Val tv σ H v) (h1 : Val td σ H (.ref p)) (h2 : Val ty σ H (.str k)) (e : H p = some (.dK kvs)) (hl : kvs.length < sizeLine) (q : D.nx σ (upd H p (.dK (putK kvs (.inr k) v)))) : sDPut td ty tv D σ H :=
  hv _ (h1 _ (h2 _ ⟨p, _, rfl, DPut.k (k := .inr k) e hl, q⟩))
def rInt1 : List V → Hp → VK → Prop := fun xs H Q => (∃ i, xs = [.int i] ∧ Q (.int i) H) ∨ ∃ k, xs = [.bl k] ∧ Q (.int (if k then 1 else 0)) H
theorem call_int1' {X : Cx} : CallR X (.type "int") rInt1 := call_int1
theorem val_int (h : Val te σ H (.int i)) : Val (tCB rInt1 (tCons te tNil)) σ H (.int i) := fun Q q => h _ (.inl ⟨i, rfl, q⟩)
theorem val_I0 {g : Int → Int → V} (ha : Val ta σ H (.int i)) (hb : Val tb σ H (.int j)) : Val (tOp (rI0 g) ta tb) σ H (g i j) := val_op ha hb fun _ q => ⟨i, j, rfl, rfl, q⟩
theorem val_I {C : Int → Int → Prop} {g : Int → Int → V} (ha : Val ta σ H (.int i)) (hb : Val tb σ H (.int j)) (hc : C i j) : Val (tOp (rI C g) ta tb) σ H (g i j) := val_op ha hb fun _ q => ⟨i, j, rfl, rfl, hc, q⟩
theorem ans_I0 {g : Int → Int → Bool} {b : Bool} (ha : Val ta σ H (.int i)) (hb : Val tb σ H (.int j)) (e : g i j = b) : Ans (tTest (tOp (rI0 fun i j => .bl (g i j)) ta tb)) σ H b := ans_cmp ha hb fun Q q => ⟨i, j, rfl, rfl, by show Q (.bl (g i j)) H; rw [e]; exact q⟩
theorem val_ixL {K : PySem.W.Frag} {xs : List V} (ha : Val ta σ H (.ref p)) (hb : Val tb σ H (.int i)) (h : SqL K H p xs) (e : atI xs i = some v) : Val (tOp (rIxL K) ta tb) σ H v := val_op ha hb fun _ q => ⟨p, xs, i, v, rfl, rfl, h, e, q⟩
def rLenS (K : PySem.W.Frag) : List V → Hp → VK → Prop := fun xs H Q => ∃ p ys, xs = [.ref p] ∧ (SqL K H p ys ∨ SqT K H p ys) ∧ Q (.int ys.length) H
theorem call_lenS {X : Cx} : CallR X (.builtin "len") (rLenS X.K) := call_len_seq
theorem val_len {K : PySem.W.Frag} {xs : List V} (ha : Val ta σ H (.ref p)) (h : SqL K H p xs) : Val (tCB (rLenS K) (tCons ta tNil)) σ H (.int xs.length) := fun Q q => ha _ ⟨p, xs, rfl, .inl h, q⟩
end
/-! ### promises -/
structure PenOk (H : Hp) (p c : Addr) (cs : List Int) (a d n f : Int) : Prop where
  at_ : H p = some (.dK (penK c a d n f))
  cells : H c = some (.lst (cs.map V.int))
  len : cs.length ≤ 63
  a0 : 0 ≤ a
  d0 : 0 ≤ d
  n0 : 0 ≤ n
  f0 : 0 ≤ f ∧ f < 2147483647
def Pen (H : Hp) (p : Addr) : Prop := ∃ c cs a d n f, PenOk H p c cs a d n f
theorem PenOk.ne {H : Hp} {p c : Addr} {cs : List Int} {a d n f : Int} (h : PenOk H p c cs a d n f) : c ≠ p := ne_of h.cells h.at_ (fun z => nomatch z)
/-- the pen's dict is written -/
theorem PenOk.put {H : Hp} {p c : Addr} {cs : List Int} {a d n f a' d' n' f' : Int} (h : PenOk H p c cs a d n f) (ha : 0 ≤ a') (hd : 0 ≤ d') (hn : 0 ≤ n') (hf : 0 ≤ f' ∧ f' < 2147483647) : PenOk (upd H p (.dK (penK c a' d' n' f'))) p c cs a' d' n' f' :=
  ⟨upd_same, by rw [upd_ne h.ne]; exact h.cells, h.len, ha, hd, hn, hf⟩
theorem Pen.same {H H' : Hp} {p : Addr} (h : Pen H p) (e : Same H H') : Pen H' p := by
  obtain ⟨c, cs, a, d, n, f, h⟩ := h
  exact ⟨c, cs, a, d, n, f, e _ _ h.at_, e _ _ h.cells, h.len, h.a0, h.d0, h.n0, h.f0⟩
/-- all that was tracked but at p is as it was -/
def SameBut (p : Addr) (H H' : Hp) : Prop := ∀ b o, b ≠ p → H b = some o → H' b = some o
def spPen (K : PySem.W.Frag) : Sp := fun vs H Q _ => ∃ (a : Addr) (ns : List Int), vs = [.ref a] ∧ SqL K H a (ns.map V.int) ∧ ns.length ≤ 63 ∧ ∀ p H', H p = none → Same H H' → Pen H' p → Q (.ref p) H'
def spDraw : Sp := fun vs H Q _ => ∃ (p : Addr) (m : Int), vs = [.ref p, .int m] ∧ 0 < m ∧ m < 1073741824 ∧ Pen H p ∧ ∀ (r : Int) (o : HO), 0 ≤ r → r < m → Pen (upd H p o) p → Q (.int r) (upd H p o)
section
variable {P : Program} {w : World} {K : PySem.W.Frag} {mg : Str → Option Value} {base : Heap} {f fD : Addr} {fd fdD : FuncData} {CX : CXT}
def Hh (H : Hp) (p c : Addr) (a d n f : Int) : Hp := upd H p (.dK (penK c a d n f))
theorem st_pput {D : Ends} {σ : L2.St} {H : Hp} {p c : Addr} {a d n f a' d' n' f' : Int} {tv : TE} {k : Str} {v : V} (hv : Val tv σ (Hh H p c a d n f) v) (h1 : σ[0]? = some (some (.ref p))) (e : putK (penK c a d n f) (.inr k) v = penK c a' d' n' f')
    (q : D.nx σ (Hh H p c a' d' n' f')) : sDPut (tVar 0) (tC (.str k)) tv D σ (Hh H p c a d n f) :=
  st_dput hv (val_var h1) val_c upd_same (show 5 < sizeLine by decide) (by rw [e]; unfold Hh; rw [upd_upd]; exact q)
theorem ok_pen (F : Fun K "_law_pen" "_law_pen" sPen f fd) (gI : mg "int" = none) (gL : mg "list" = none) : FnOk P w K mg base CX0 1 f fd ["script"] (spPen K) := by
  refine F.ok scPen (fun vs H Q E h => ?_) (fun cdv A outer s H vs Q E hr h => ⟨_, pss_cons (ps_set (i := 1) scPen.nd rfl (.inl rfl) pe_int)
    (pss_cons (ps_for PassesOwn.never rfl (pi_list (pv 0)) (pg_name (i := 2) scPen.nd rfl (.inl rfl))
      (pss_one (ps_set (i := 1) scPen.nd rfl (.inl rfl) (pe_op op_mod (pe_callTy call_int1' rfl gI (by decide +kernel) (pa_cons (pe_op op_add (pe_op op_mul (pv 1) pe_int) (pv 2)) pa_nil)) pe_int))))
    (pss_one (ps_ret (pe_disp (pps_cons pe_str (pe_callTy call_list_of rfl gL (by decide +kernel) (pa_cons (pv 0) pa_nil)) (pps_cons pe_str pe_int (pps_cons pe_str pe_int (pps_cons pe_str pe_int (pps_cons pe_str (pv 1) pps_nil))))) rfl rfl (by decide) (by decide))))), ?_⟩)
  · obtain ⟨a, ns, rfl, _⟩ := h
    rfl
  obtain ⟨a, ns, rfl, hS, hl, hQ⟩ := h
  refine Evl.q_asg (v := .int 0) Evl.ev_c fun H1 e1 => ?_
  refine Evl.q_forLn (a := a) (xs := ns.map V.int) (Evl.ev_var rfl) (Evl.ex_l e1 hS) (fun _ σ' H' => Evl.Ex H H' ∧ ∃ (fold : Int) (o : Option V), (0 ≤ fold ∧ fold < 2147483647) ∧ σ' = [some (.ref a), some (.int fold), o])
    (fun H2 e2 => ⟨e1.trans e2, 0, none, by decide, rfl⟩) (fun i σ' H' _ h => Evl.ex_l h.1 hS) (fun i x σ' H' hx hp => ?_) (fun σ' H' hp => ?_)
  · obtain ⟨e2, fold, o, hf, rfl⟩ := hp
    rw [List.getElem?_map] at hx
    obtain ⟨n, _, rfl⟩ := Option.map_eq_some_iff.mp hx
    refine Evl.s_asg (v := .int ((fold * 47 + n) % 1000000007)) (Evl.ev_op (Evl.ev_cb (Evl.ea_cons (Evl.ev_op (Evl.ev_op (Evl.ev_var rfl) Evl.ev_c (Evl.rv_I (Or.inr (by decide)))) (Evl.ev_var rfl) Evl.rv_I0) Evl.ea_nil) fun H3 _ Q q => Or.inl ⟨_, rfl, q H3 (Evl.Ex.refl _)⟩) Evl.ev_c (Evl.rv_I (by show (0 : Int) < 1000000007; decide))) fun H3 e3 => ?_
    exact ⟨e2.trans e3, _, _, ⟨Int.emod_nonneg _ (by decide), Int.lt_trans (Int.emod_lt_of_pos _ (by decide)) (by decide)⟩, rfl⟩
  · obtain ⟨e2, fold, o, hf, rfl⟩ := hp
    intro p hp
    refine ⟨_, rfl, a, ns.map V.int, rfl, .inl (Evl.ex_l (e2.trans (Evl.Ex.new hp)) hS), fun l hl2 => ?_⟩
    have lp : l ≠ p := fun z => by rw [z, upd_same] at hl2; cases hl2
    refine ⟨_, rfl, ?_⟩
    have em : mergeK [] (penK l 0 0 0 fold) = penK l 0 0 0 fold := rfl
    have hlH : H' l = none := by rw [upd_ne lp] at hl2; exact hl2
    refine ⟨by rw [upd_ne (Ne.symm lp)]; exact upd_same, penK l 0 0 0 fold, rfl, by show 5 ≤ 15; decide, hQ p _ (Evl.fresh_back e2 hp) (fun b o hb => ?_) ?_⟩
    · have h1 := e2 b o hb
      rw [upd_ne (ne_of_none h1 hp), upd_ne (ne_of_none h1 hlH), upd_ne (ne_of_none h1 hp)]
      exact h1
    · rw [em]
      exact ⟨l, ns, 0, 0, 0, fold, upd_same, by rw [upd_ne lp]; exact upd_same, hl, by decide, by decide, by decide, hf⟩
theorem ok_draw (F : Fun K "_law_draw" "_law_draw" sDraw f fd) (gI : mg "int" = none) (gL : mg "len" = none) : FnOk P w K mg base CX0 1 f fd ["pen", "many"] spDraw := by
  refine F.ok scDraw (fun vs H Q E h => ?_) (fun cdv A outer s H vs Q E hr h => ?_)
  · obtain ⟨p, m, rfl, _⟩ := h
    rfl
  have hu := hu_of hr
  refine ⟨_, pss_cons (ps_dput hu (pv 0) pe_str (pe_op op_add (pe_dget hu (pv 0) pe_str (fun _ _ => rfl)) pe_int) rfl)
    (C8.pss_cut (ps_if (PW.pt (pw_and (pt_cmpR op_eq (pe_dget hu (pv 0) pe_str (fun _ _ => rfl)) pe_int (nomark _)) (pw_and1 (pt_cmpR op_lt (pe_dget hu (pv 0) pe_str (fun _ _ => rfl)) (pe_callB call_lenS rfl gL boot_len (pa_cons (pe_dget hu (pv 0) pe_str (fun _ _ => rfl)) pa_nil)) (nomark _)))))
      (pss_cons (ps_set (i := 2) scDraw.nd rfl (.inl rfl) (pe_ix ix_list (pe_dget hu (pv 0) pe_str (fun _ _ => rfl)) (pe_dget hu (pv 0) pe_str (fun _ _ => rfl)) (fun _ _ => rfl)))
        (pss_cons (ps_dput hu (pv 0) pe_str (pe_op op_add (pe_dget hu (pv 0) pe_str (fun _ _ => rfl)) pe_int) rfl)
        (pss_one (ps_if (pt_cmpR op_ge (pv 2) (pe_op op_pow pe_int pe_int) (nomark _))
          (pss_one (ps_dput hu (pv 0) pe_str (pe_op op_sub (pv 2) (pe_op op_pow pe_int pe_int)) rfl))
          (pss_one (ps_dput hu (pv 0) pe_str (pe_op op_mod (pe_callTy call_int1' rfl gI (by decide +kernel) (pa_cons (pe_op op_add (pe_op op_mul (pe_dget hu (pv 0) pe_str (fun _ _ => rfl)) pe_int) (pv 2)) pa_nil)) pe_int) rfl))))))
      pss_nil)
    (pss_cons (ps_if (pt_cmpR op_gt (pe_dget hu (pv 0) pe_str (fun _ _ => rfl)) pe_int (nomark _))
      (pss_cons (ps_set (i := 3) scDraw.nd rfl (.inl rfl) (pe_op op_mod (pe_callTy call_int1' rfl gI (by decide +kernel) (pa_cons (pe_dget hu (pv 0) pe_str (fun _ _ => rfl)) pa_nil)) (pv 1)))
        (pss_cons (ps_dput hu (pv 0) pe_str (pe_op op_fdiv (pe_dget hu (pv 0) pe_str (fun _ _ => rfl)) (pv 1)) rfl)
        (pss_one (ps_ret (pv 3)))))
      pss_nil)
    (pss_cons (ps_set (i := 4) scDraw.nd rfl (.inl rfl) (pe_op op_mod (pe_callTy call_int1' rfl gI (by decide +kernel) (pa_cons (pe_op op_add (pe_op op_add (pe_op op_mul (pe_dget hu (pv 0) pe_str (fun _ _ => rfl)) pe_int) (pe_op op_mul (pe_dget hu (pv 0) pe_str (fun _ _ => rfl)) pe_int)) pe_int) pa_nil)) pe_int))
    (pss_cons (ps_set (i := 4) scDraw.nd rfl (.inl rfl) (pe_op op_mod (pe_callTy call_int1' rfl gI (by decide +kernel) (pa_cons (pe_op op_add (pe_op op_add (pe_op op_mul (pv 4) (pv 4)) (pe_op op_mul pe_int (pv 4))) (pe_dget hu (pv 0) pe_str (fun _ _ => rfl))) pa_nil)) pe_int))
    (pss_cons (ps_dput hu (pv 0) pe_str (pe_op op_mod (pe_callTy call_int1' rfl gI (by decide +kernel) (pa_cons (pe_op op_add (pe_op op_mul (pv 4) pe_int) pe_int) pa_nil)) pe_int) rfl)
    (pss_one (ps_ret (pe_op op_mod (pe_callTy call_int1' rfl gI (by decide +kernel) (pa_cons (pe_op op_fdiv (pv 4) pe_int) pa_nil)) (pv 1))))))))), ?_⟩
  obtain ⟨p, m, rfl, m0, m1, ⟨c, cs, a, d, n, f, hp⟩, hQ⟩ := h
  have hcp := hp.ne
  have hG : ∀ a d n f, Hh H p c a d n f p = some (.dK (penK c a d n f)) := fun _ _ _ _ => upd_same
  have hC : ∀ a d n f, Hh H p c a d n f c = some (.lst (cs.map V.int)) := fun a d n f => by unfold Hh; rw [upd_ne hcp]; exact hp.cells
  refine st_seq (st_dput (p := p) (kvs := penK c a d n f) (v := .int (n + 1)) (k := "count") (val_I0 (val_dget (val_var rfl) val_c hp.at_ pk_count) val_c) (val_var rfl) val_c hp.at_ (show 5 < sizeLine by decide) ?_)
  rw [pp_count]
  show C8.tCut _ _ _ [some (V.ref p), some (V.int m), none, none, none] (Hh H p c a d (n + 1) f)
  refine ⟨fun σ' H' => ∃ (o2 : Option V) (a d f : Int), 0 ≤ a ∧ 0 ≤ d ∧ (0 ≤ f ∧ f < 2147483647) ∧ σ' = [some (V.ref p), some (V.int m), o2, none, none] ∧ H' = Hh H p c a d (n + 1) f, ?_, ?_⟩
  · by_cases hd : d = 0
    · by_cases ha : a < cs.length
      · have hlen : (cs.map V.int).length = cs.length := List.length_map ..
        obtain ⟨x, hx⟩ : ∃ x, cs[a.toNat]? = some x := by
          refine ⟨cs[a.toNat]'(by have := hp.a0; omega), List.getElem?_eq_getElem _⟩
        have hat : atI (cs.map V.int) a = some (.int x) := by
          have e : ((a.toNat : Nat) : Int) = a := Int.toNat_of_nonneg hp.a0
          rw [← e]
          exact atI_nat (by rw [List.getElem?_map, hx]; rfl)
        refine st_yes (ans_and (ans_eq (x := .int d) (y := .int 0) (val_dget (val_var rfl) val_c (hG ..) pk_digits) val_c rfl (by rw [hd]; rfl))
          (ans_I0 (i := a) (j := (cs.length : Int)) (val_dget (val_var rfl) val_c (hG ..) pk_at) (by rw [← hlen]; exact val_len (val_dget (val_var rfl) val_c (hG ..) pk_cells) (SqL.of (hC ..))) (decide_eq_true ha))) ?_
        refine st_seq (st_set (v := .int x) (val_ixL (val_dget (val_var rfl) val_c (hG ..) pk_cells) (val_dget (val_var rfl) val_c (hG ..) pk_at) (SqL.of (hC ..)) hat) ?_)
        refine st_seq (st_pput (k := "at") (val_I0 (val_dget (val_var rfl) val_c (hG ..) pk_at) val_c) rfl pp_at ?_)
        have hpow : Val (tOp (rI CPow fun i j => .int (i ^ j.toNat)) (tC (.int 10)) (tC (.int 18))) [some (V.ref p), some (V.int m), some (V.int x), none, none] (Hh H p c (a + 1) d (n + 1) f) (.int (10 ^ 18)) := val_I (i := 10) (j := 18) val_c val_c (by unfold CPow; decide)
        by_cases hb : (10 : Int) ^ 18 ≤ x
        · refine st_yes (ans_I0 (i := x) (j := 10 ^ 18) (val_var rfl) hpow (decide_eq_true hb)) ?_
          refine st_pput (k := "digits") (val_I0 (i := x) (j := 10 ^ 18) (val_var rfl) hpow) rfl pp_digits ?_
          exact ⟨_, _, _, _, by have := hp.a0; omega, by omega, hp.f0, rfl, rfl⟩
        · refine st_no (ans_I0 (i := x) (j := 10 ^ 18) (val_var rfl) hpow (decide_eq_false hb)) ?_
          refine st_pput (k := "fold") (val_I (val_int (val_I0 (val_I (val_dget (val_var rfl) val_c (hG ..) pk_fold) val_c (Or.inr (by decide))) (val_var rfl))) val_c (by show (0 : Int) < 2147483587; decide)) rfl pp_fold ?_
          exact ⟨_, _, _, _, by have := hp.a0; omega, hp.d0, ⟨Int.emod_nonneg _ (by decide), Int.lt_trans (Int.emod_lt_of_pos _ (by decide)) (by decide)⟩, rfl, rfl⟩
      · refine st_no (ans_and (ans_eq (x := .int d) (y := .int 0) (val_dget (val_var rfl) val_c (hG ..) pk_digits) val_c rfl (by rw [hd]; rfl))
          (ans_I0 (i := a) (j := (cs.length : Int)) (val_dget (val_var rfl) val_c (hG ..) pk_at) (by rw [← (List.length_map (as := cs) V.int)]; exact val_len (val_dget (val_var rfl) val_c (hG ..) pk_cells) (SqL.of (hC ..))) (decide_eq_false ha))) ?_
        exact ⟨_, _, _, _, hp.a0, hp.d0, hp.f0, rfl, rfl⟩
    · refine st_no (ans_and0 (ans_eq (x := .int d) (y := .int 0) (val_dget (val_var rfl) val_c (hG ..) pk_digits) val_c rfl (decide_eq_false fun z => hd (V.int.inj z)))) ?_
      exact ⟨_, _, _, _, hp.a0, hp.d0, hp.f0, rfl, rfl⟩
  · rintro σ' H' ⟨o2, a, d, f, ha, hd, hf, rfl, rfl⟩
    have hn : 0 ≤ n + 1 := by have := hp.n0; omega
    have end_ : ∀ (r a d n f : Int), 0 ≤ r → r < m → 0 ≤ a → 0 ≤ d → 0 ≤ n → (0 ≤ f ∧ f < 2147483647) → Q (.int r) (Hh H p c a d n f) := fun r a d n f h1 h2 h3 h4 h5 h6 => hQ r _ h1 h2 ⟨c, cs, a, d, n, f, hp.put h3 h4 h5 h6⟩
    by_cases hd0 : 0 < d
    · refine st_seq (st_yes (ans_I0 (i := d) (j := 0) (val_dget (val_var rfl) val_c (hG ..) pk_digits) val_c (decide_eq_true hd0)) ?_)
      refine st_seq (st_set (val_I (val_int (val_dget (val_var rfl) val_c (hG ..) pk_digits)) (val_var rfl) m0) ?_)
      refine st_seq (st_pput (k := "digits") (val_I (val_dget (val_var rfl) val_c (hG ..) pk_digits) (val_var rfl) ⟨m0, m1⟩) rfl pp_digits ?_)
      exact st_ret (val_var rfl) (end_ _ _ _ _ _ (Int.emod_nonneg _ (by omega)) (Int.emod_lt_of_pos _ m0) ha (Int.ediv_nonneg hd (by omega)) hn hf)
    · refine st_seq (st_no (ans_I0 (i := d) (j := 0) (val_dget (val_var rfl) val_c (hG ..) pk_digits) val_c (decide_eq_false hd0)) (st_next ?_))
      dsimp only
      have b1 : ∀ x : Int, 0 ≤ x % 2147483647 ∧ x % 2147483647 < 2147483647 := fun x => ⟨Int.emod_nonneg _ (by decide), Int.emod_lt_of_pos _ (by decide)⟩
      have b2 : ∀ x : Int, 0 ≤ x % 2147483629 ∧ x % 2147483629 < 2147483629 := fun x => ⟨Int.emod_nonneg _ (by decide), Int.emod_lt_of_pos _ (by decide)⟩
      refine st_seq (st_set (v := .int ((f * 48271 + (n + 1) * 7919 + 13) % 2147483647)) (val_I (val_int (val_I0 (val_I0 (val_I (val_dget (val_var rfl) val_c (hG ..) pk_fold) val_c (Or.inr (by decide))) (val_I (val_dget (val_var rfl) val_c (hG ..) pk_count) val_c (Or.inr (by decide)))) val_c)) val_c (by show (0 : Int) < 2147483647; decide)) ?_)
      dsimp only
      generalize hx : (f * 48271 + (n + 1) * 7919 + 13) % 2147483647 = x
      have bx := b1 (f * 48271 + (n + 1) * 7919 + 13)
      rw [hx] at bx
      refine st_seq (st_set (v := .int ((x * x + 31 * x + (n + 1)) % 2147483629)) (val_I (val_int (val_I0 (val_I0 (val_I (val_var rfl) (val_var rfl) (Or.inl ⟨by omega, by omega⟩)) (val_I val_c (val_var rfl) (Or.inl (by decide)))) (val_dget (val_var rfl) val_c (hG ..) pk_count))) val_c (by show (0 : Int) < 2147483629; decide)) ?_)
      dsimp only
      generalize hy : (x * x + 31 * x + (n + 1)) % 2147483629 = y
      have bY := b2 (x * x + 31 * x + (n + 1))
      rw [hy] at bY
      refine st_seq (st_pput (k := "fold") (val_I (val_int (val_I0 (val_I (val_var rfl) val_c (Or.inr (by decide))) val_c)) val_c (by show (0 : Int) < 2147483647; decide)) rfl pp_fold ?_)
      dsimp only
      exact st_ret (v := .int (y / 64 % m)) (val_I (val_int (val_I (val_var rfl) val_c ⟨by decide, by decide⟩)) (val_var rfl) m0) (end_ _ _ _ _ _ (Int.emod_nonneg _ (by omega)) (Int.emod_lt_of_pos _ m0) ha hd hn (b1 _))
end
end K0
set_option Elab.async false
set_option linter.all false
set_option maxRecDepth 100000
set_option maxHeartbeats 4000000
namespace K0
open PySem PySem.Spec PyProof.Rows L2
theorem sqL_upd {K : PySem.W.Frag} {H : Hp} {l p : Addr} {xs : List V} {kvs : List (Key × V)} {o : HO} (h : SqL K H l xs) (hp : H p = some (.dK kvs)) : SqL K (upd H p o) l xs := by
  rcases h with (h | ⟨ob, h⟩) | h
  · exact .inl (.inl (by rw [upd_ne (ne_of h hp (fun z => nomatch z))]; exact h))
  · exact .inl (.inr ⟨ob, by rw [upd_ne (ne_of h hp (fun z => nomatch z))]; exact h⟩)
  · exact .inr h
theorem Pen.get {H : Hp} {p : Addr} (h : Pen H p) : ∃ kvs, H p = some (.dK kvs) := by
  obtain ⟨c, cs, a, d, n, f, h⟩ := h
  exact ⟨_, h.at_⟩
def spPick (K : PySem.W.Frag) : Sp := fun vs H Q _ => ∃ (p l : Addr) (xs : List V), vs = [.ref p, .ref l] ∧ Pen H p ∧ SqL K H l xs ∧ 0 < xs.length ∧ xs.length < 1073741824 ∧ ∀ (v : V) (o : HO), v ∈ xs → Pen (upd H p o) p → Q v (upd H p o)
theorem upd_none {H : Hp} {p b : Addr} {o : HO} (h : upd H p o b = none) : b ≠ p ∧ H b = none := by
  by_cases e : b = p
  · rw [e, upd_same] at h; cases h
  · exact ⟨e, by rw [upd_ne e] at h; exact h⟩
theorem SameBut.upd {H : Hp} (p : Addr) (o : HO) : SameBut p H (upd H p o) := fun b u ne e => by rw [upd_ne ne]; exact e
theorem SameBut.trans {H H1 H2 : Hp} {p : Addr} (a : SameBut p H H1) (b : SameBut p H1 H2) : SameBut p H H2 := fun c o ne e => b c o ne (a c o ne e)
theorem SameBut.new {H H1 : Hp} {p b : Addr} {o : HO} (a : SameBut p H H1) (h : H1 b = none) : SameBut p H (L2.upd H1 b o) := fun c u ne e => by
  have z := a c u ne e
  rw [upd_ne (ne_of_none z h)]
  exact z
theorem Pen.new {H : Hp} {p b : Addr} {o : HO} (h : Pen H p) (hb : H b = none) : Pen (L2.upd H b o) p := h.same fun c u e => by
  rw [upd_ne (ne_of_none e hb)]
  exact e
/-- what a drawn value is -/
inductive Shape (H H' : Hp) : V → Prop where
  | lst {a b : Addr} {n : Int} (ha : H a = none) (hb : H b = none) (ne : a ≠ b) (e : H' a = some (.lst [.int n, .ref b])) (e2 : H' b = some (.lst [])) (h0 : 0 ≤ n) (h1 : n < 100) : Shape H H' (.ref a)
  | tup {t u : Addr} {n : Int} (e : H' t = some (.tup [.str "a", .ref u])) (e2 : H' u = some (.tup [.int n])) (h0 : 0 ≤ n) (h1 : n < 1000000) : Shape H H' (.ref t)
  | sc {v : V} (h : v ∈ [V.non, .bl true, .bl false, .int 0, .int (-1), .str "x", .str "", .int (10 ^ 40)]) : Shape H H' v
  | dic {d : Addr} (e : H' d = some (.dK [(.inr "k", .int 1)])) : Shape H H' (.ref d)
def spValue : Sp := fun vs H Q _ => ∃ p : Addr, vs = [.ref p] ∧ Pen H p ∧ ∀ (v : V) (H' : Hp), SameBut p H H' → Pen H' p → Shape H H' v → Q v H'
section
variable {P : Program} {w : World} {K : PySem.W.Frag} {mg : Str → Option Value} {base : Heap} {f fD fP : Addr} {fd fdD fdP : FuncData}
theorem ok_pick (F : Fun K "_law_pick" "_law_pick" sPick f fd) (GD : FnOk P w K mg base CX0 1 fD fdD ["pen", "many"] spDraw) (bD : Binds K fdD ["pen", "many"] []) (kD : PySem.W.keepIn K (.ref fD) = true) (gD : mg "_law_draw" = some (.ref fD)) (gL : mg "len" = none) :
    FnOk P w K mg base CX0 2 f fd ["pen", "some"] (spPick K) := by
  refine F.ok scPick (fun vs H Q E h => ?_) (fun cdv A outer s H vs Q E hr h => ⟨_, pss_one (ps_ret (pe_ix ix_list (pv 1) (pe_call GD hr rfl gD kD bD .nil pass0 (pa_cons (pv 0) (pa_cons (pe_callB call_lenS rfl gL boot_len (pa_cons (pv 1) pa_nil)) pa_nil))) (fun _ _ => rfl))), ?_⟩)
  · obtain ⟨p, l, xs, rfl, _⟩ := h
    rfl
  obtain ⟨p, l, xs, rfl, hp, hl, h0, h1, hQ⟩ := h
  refine ⟨_, rfl, _, rfl, _, rfl, l, xs, rfl, .inl hl, p, (xs.length : Int), rfl, by omega, by omega, hp, fun r o r0 r1 hp' => ?_⟩
  obtain ⟨kvs, hk⟩ := hp.get
  have hr2 : r.toNat < xs.length := by omega
  have er : ((r.toNat : Nat) : Int) = r := Int.toNat_of_nonneg r0
  refine ⟨l, xs, r, xs[r.toNat], rfl, rfl, sqL_upd hl hk, ?_, hQ _ o (List.getElem_mem _) hp'⟩
  have z := atI_nat (xs := xs) (j := r.toNat) (List.getElem?_eq_getElem hr2)
  rw [er] at z
  exact z
theorem ok_value (F : Fun K "_law_value" "_law_value" sValue f fd) (GD : FnOk P w K mg base CX0 1 fD fdD ["pen", "many"] spDraw) (bD : Binds K fdD ["pen", "many"] []) (kD : PySem.W.keepIn K (.ref fD) = true) (gD : mg "_law_draw" = some (.ref fD))
    (GP : FnOk P w K mg base CX0 2 fP fdP ["pen", "some"] (spPick K)) (bP : Binds K fdP ["pen", "some"] []) (kP : PySem.W.keepIn K (.ref fP) = true) (gP : mg "_law_pick" = some (.ref fP)) :
    FnOk P w K mg base CX0 3 f fd ["pen"] spValue := by
  refine F.ok scValue (fun vs H Q E h => ?_) (fun cdv A outer s H vs Q E hr h => ⟨_, pss_cons (ps_set (i := 1) scValue.nd rfl (.inl rfl) (pe_call GD (hr.mono (by decide)) rfl gD kD bD .nil pass0 (pa_cons (pv 0) (pa_cons pe_int pa_nil))))
    (pss_cons (ps_if (pt_cmpR op_eq (pv 1) pe_int (nomark _)) (pss_one (ps_ret (pe_lst (pa_cons (pe_call GD (hr.mono (by decide)) rfl gD kD bD .nil pass0 (pa_cons (pv 0) (pa_cons pe_int pa_nil))) (pa_cons (pe_lst pa_nil) pa_nil))))) pss_nil)
    (pss_cons (ps_if (pt_cmpR op_eq (pv 1) pe_int (nomark _)) (pss_one (ps_ret (pe_tup (pa_cons pe_str (pa_cons (pe_tup (pa_cons (pe_call GD (hr.mono (by decide)) rfl gD kD bD .nil pass0 (pa_cons (pv 0) (pa_cons (pe_op op_pow pe_int pe_int) pa_nil))) pa_nil)) pa_nil))))) pss_nil)
    (pss_one (ps_ret (pe_call GP hr rfl gP kP bP .nil pass0 (pa_cons (pv 0) (pa_cons (pe_lst (pa_cons pe_non (pa_cons pe_bl (pa_cons pe_bl (pa_cons pe_int (pa_cons (pe_un un_neg pe_int) (pa_cons pe_str (pa_cons pe_str (pa_cons (pe_op op_pow pe_int pe_int)
      (pa_cons (pe_disp (pps_cons pe_str pe_int pps_nil) rfl rfl (by decide) (by decide)) pa_nil)))))))))) pa_nil))))))), ?_⟩)
  · obtain ⟨p, rfl, _⟩ := h
    rfl
  obtain ⟨p, rfl, hp, hQ⟩ := h
  refine ⟨_, rfl, p, 8, rfl, by decide, by decide, hp, fun r o r0 r1 hp1 => ?_⟩
  have s1 : SameBut p H (L2.upd H p o) := .upd p o
  dsimp only [gName]
  by_cases h0 : r = 0
  · refine st_yes (ans_eq (x := .int r) (y := .int 0) (val_var rfl) val_c rfl (decide_eq_true (by rw [h0]))) ?_
    refine ⟨_, rfl, p, 100, rfl, by decide, by decide, hp1, fun n o2 n0 n1 hp2 => ?_⟩
    refine ⟨by decide, fun b hb => ⟨by show 2 ≤ sizeLine; decide, fun a ha => ?_⟩⟩
    obtain ⟨ab, ha1⟩ := upd_none ha
    have s2 : SameBut p H (L2.upd (L2.upd H p o) p o2) := s1.trans (.upd p o2)
    refine hQ _ _ ((s2.new hb).new ha) ((hp2.new hb).new ha) (.lst (b := b) (n := n) (upd_none (upd_none ha1).2).2 (upd_none (upd_none hb).2).2 ab upd_same ?_ n0 n1)
    rw [upd_ne (Ne.symm ab), upd_same]
  · refine st_seq (st_no (ans_eq (x := .int r) (y := .int 0) (val_var rfl) val_c rfl (decide_eq_false fun z => h0 (V.int.inj z))) (st_next ?_))
    dsimp only
    by_cases h1 : r = 1
    · refine st_yes (ans_eq (x := .int r) (y := .int 1) (val_var rfl) val_c rfl (decide_eq_true (by rw [h1]))) ?_
      refine ⟨_, rfl, 10, 6, rfl, rfl, by unfold CPow; decide, p, _, rfl, by decide, by decide, hp1, fun n o2 n0 n1 hp2 => ?_⟩
      refine ⟨by show 1 ≤ sizeLine; decide, fun u hu => ⟨by show 2 ≤ sizeLine; decide, fun t ht => ?_⟩⟩
      obtain ⟨tu, _⟩ := upd_none ht
      have s2 : SameBut p H (L2.upd (L2.upd H p o) p o2) := s1.trans (.upd p o2)
      refine hQ _ _ ((s2.new hu).new ht) ((hp2.new hu).new ht) (.tup (u := u) (n := n) upd_same ?_ n0 n1)
      rw [upd_ne (Ne.symm tu), upd_same]
    · refine st_seq (st_no (ans_eq (x := .int r) (y := .int 1) (val_var rfl) val_c rfl (decide_eq_false fun z => h1 (V.int.inj z))) (st_next ?_))
      dsimp only
      refine ⟨_, rfl, 1, rfl, 10, 40, rfl, rfl, by unfold CPow; decide, fun d hd => ⟨upd_same, [(.inr "k", .int 1)], rfl, by show 1 ≤ 15; decide, by show 9 ≤ sizeLine; decide, fun l hl => ?_⟩⟩
      have em : mergeK [] [((.inr "k" : Key), V.int 1)] = [(.inr "k", .int 1)] := rfl
      rw [em, upd_upd] at hl ⊢
      obtain ⟨ld, _⟩ := upd_none hl
      have hp2 := (hp1.new (o := .dK [(.inr "k", .int 1)]) hd).new (o := .lst [V.non, .bl true, .bl false, .int 0, .int (-1), .str "x", .str "", .int (10 ^ 40), .ref d]) hl
      have s2 := (s1.new (o := .dK [(.inr "k", .int 1)]) hd).new (o := .lst [V.non, .bl true, .bl false, .int 0, .int (-1), .str "x", .str "", .int (10 ^ 40), .ref d]) hl
      refine ⟨p, l, [V.non, .bl true, .bl false, .int 0, .int (-1), .str "x", .str "", .int (10 ^ 40), .ref d], rfl, hp2, SqL.of upd_same, (show 0 < 9 by decide), (show 9 < 1073741824 by decide), fun v o hv hp' => ?_⟩
      refine hQ v _ (s2.trans (.upd p o)) hp' ?_
      have dp : d ≠ p := by
        obtain ⟨kvs, hk⟩ := hp1.get
        exact Ne.symm (ne_of_none hk hd)
      rcases List.mem_append.mp (show v ∈ [V.non, .bl true, .bl false, .int 0, .int (-1), .str "x", .str "", .int (10 ^ 40)] ++ [V.ref d] from hv) with h | h
      · exact .sc h
      · rw [List.mem_singleton.mp h]
        exact .dic (by rw [upd_ne dp, upd_ne (Ne.symm ld), upd_same])
end
end K0
set_option Elab.async false
set_option linter.all false
set_option maxRecDepth 100000
set_option maxHeartbeats 4000000
namespace K0
open PySem PySem.Spec PyProof.Rows L2
/-! ### HeapError.__init__(self, text): the class has none of its own, so it is ValueError's -/
structure HeC (K : PySem.W.Frag) (mg : Str → Option Value) (HE : Addr) : Prop where
  g : mg "HeapError" = some (.ref HE)
  ga : PySem.W.specialIn K (.ref HE) "__getattribute__" = some (some (.builtin "type.__getattribute__"))
  rd : PySem.W.readsIn K HE (.type "type") = true
  ini : PySem.W.findCls K (.ref HE) (.type "type") "__init__" = some (.val (.builtin "ValueError.__init__"))
section
variable {X : Cx} {e : Expr} {es : List Expr} {ta : TA} {p1 p2 pos : Pos} {HE : Addr}
theorem pe_heinit {pl : Sem Bool} (T : HeC X.K X.mg HE) (hg : Gl X "HeapError") (ha : PA X (e :: es) ta)
    (hc : eval (.Call (.Attribute (.Name "HeapError" p1) "__init__" p2) (e :: es) [] pos) X.env = (do
      let ov ← eval (.Name "HeapError" p1) X.env
      standAt p2.atName
      let (f, first) ← holding [ov] (getMethod ov "__init__" pl)
      callWith pos f first (backTo pos (starEach (e :: es) X.env)) (backToKw pos (keywordEach [] X.env))) := by rfl)
    (he : starEach (e :: es) X.env = (false, eval e X.env) :: starEach es X.env := by rfl) (hpl : (backTo pos (starEach es X.env)).any (·.1) = false := by rfl) :
    PE X (.Call (.Attribute (.Name "HeapError" p1) "__init__" p2) (e :: es) [] pos) (tVeI X.K ta) := by
  refine ⟨fun pins s σ H Q I h => ?_⟩
  refine PySem.W.methodCall_KW (ld_glob I hg T.g ?_ (by decide)) hc
  refine PySem.W.method_cls I.kIn T.ga (PySem.W.cls_value I.kIn T.rd T.ini (by decide +kernel) ?_)
  show wpAny _ _ (callWith pos (Value.builtin "ValueError.__init__") [] (backTo pos (starEach (e :: es) X.env)) []) _ _ _
  refine PyProof.Rows.callWith_method1 (thn (ha.run pos pins _ σ H _ (I.tok _) h) fun us s1 ⟨vs, H1, I1, r1, a, C, ws, ev, hl, T, ea, q⟩ => ?_) he hpl
  subst ev
  cases r1 with
  | @cons _ u0 _ ur ra rw' =>
    obtain rfl : u0 = Value.ref a := ra
    have hlen : ur.length ≤ sizeLine := by
      rw [← Paired.length rw', sizeLine_eq]
      omega
    exact oinit_ok T I1 ea hlen fun s' J => ⟨.non, H1, J, rfl, q⟩
end
/-! ### an exception made without arguments, its __init__ storing nothing -/
def tMkN (C : Addr) (sp : Sp) : L2.St → Hp → XK → Prop := fun σ H Q => ∀ a, H a = none → sp [.ref a] (upd H a (exo a C none)) (fun v H2 => v = .non ∧ H2 a = some (exo a C none) ∧ Q (.ref C) none (del H2 a)) (fun _ _ _ => False)
section
variable {X : Cx} {p pos : Pos}
theorem mk_endN {pins : List (Addr × Obj)} {σ : L2.St} {H1 H2 : Hp} {Q : XK} {hp hp2 h2 : Heap} {g1 g2 : Array GenState} {d1 d2 : Drawn} {t1 t2 : Nat} {os1 os2 : OsState} {a C : Addr} (T : Raises X (.ref C)) (I1 : Inv X pins σ H1 ⟨hp, g1, d1, t1, os1⟩)
    (ha : hp.objs.size ≤ a) (k : ∀ b o, hp.get? b = some o → hp2.get? b = some o) (un : Un (frs X.stack) [] (upd H1 a (exo a C none)) H2 hp2 h2) (hok : HOk X.prog X.w H2 h2) (ho : os2 = os1) (hb : AllBare g2)
    (ea : H2 a = some (exo a C none)) (q : Q (.ref C) none (del H2 a)) : MkP X pins σ Q (.ref a) ⟨h2, g2, d2, t2, os2⟩ := by
  obtain ⟨t0, hoe⟩ := exo_at hok ea
  have hn : H1 a = none := I1.hok.fresh ha
  obtain ⟨G, g1', g2'⟩ := restrict h2 fun b => decide (b ≠ a)
  have gk : ∀ b, b ≠ a → G.get? b = h2.get? b := fun b hb => g1' b (decide_eq_true hb)
  have ge : G.get? a = none := g2' a (by simp)
  have nha : ∀ {b : Addr} {o : Obj}, hp.get? b = some o → b ≠ a := fun {b o} z => Nat.ne_of_lt (Nat.lt_of_lt_of_le (Heap.lt_size z) ha)
  have up : ∀ {b : Addr}, b ≠ a → H1 b = none → upd H1 a (exo a C none) b = none := fun {b} hb n => by rw [upd_ne hb]; exact n
  have U : Un (frs X.stack) [] H1 (del H2 a) hp G := {
    keep := fun b o z n hf hx => by
      rw [gk b (nha z)]
      exact un.keep b o (k b o z) (up (nha z) n) hf hx
    slot := fun b o z n hf hx => by
      rw [gk b (nha z)]
      exact un.slot b o (k b o z) (up (nha z) n) hf hx
    free := fun b o z n hx => by
      rw [del_ne (nha z)]
      exact un.free b o (k b o z) (up (nha z) n) hx
    there := fun b o z hx => by
      rw [gk b (nha z)]
      exact un.there b o (k b o z) hx
    tups := fun b xs z => by
      rw [del_ne (ne_of_none z hn)]
      exact un.tups b xs (by rw [upd_ne (ne_of_none z hn)]; exact z)
    frzs := fun b o v z => by
      rw [del_ne (ne_of_none z hn)]
      exact un.frzs b o v (by rw [upd_ne (ne_of_none z hn)]; exact z)
    tbls := fun b ps z => by
      rw [del_ne (ne_of_none z hn)]
      exact un.tbls b ps (by rw [upd_ne (ne_of_none z hn)]; exact z) }
  have hok3 : HOk X.prog X.w (del H2 a) G := fun b o z => by
    have hba : b ≠ a := fun e => by
      rw [e, del_same] at z
      cases z
    rw [del_ne hba] at z
    have noa : ∀ {c : Addr}, H2 c = some (.own b) → c ≠ a := fun {c} hc => at_ne ea hc exo_own
    exact (hok b o z).stay (fun c v hc y => by
        have hca : c ≠ a := by
          rcases hc with hc | hc
          · rw [hc]
            exact hba
          · exact noa hc
        rw [gk c hca]
        exact y)
      (fun c hc => by rw [del_ne (noa hc)]; exact hc) (fun c xs hc => by rw [del_ne (at_ne ea hc exo_tup)]; exact hc)
  have J : Inv X pins σ (del H2 a) ⟨G, g2, d2, t2, os2⟩ := I1.call' (ch := []) ho U hok3 hb (fun b z => absurd z (by simp))
  refine ⟨a, _, _, ⟨G, g2, d2, t2, os2⟩, _, .ref C, none, rfl, J, fun b o z => ?_, ge, hoe, ⟨rfl, rfl⟩, rfl, rfl, del_same, rfl, hb, T, q⟩
  by_cases hba : b = a
  · rw [hba, ge] at z
    cases z
  · exact (gk b hba).symm.trans z
theorem pmk_oexN {CX : CXT} {x : Str} {C fI : Addr} {k : Nat} {fd : FuncData} {ps : List Str} {sp : Sp} (T : OexC X.K C) (iC : PySem.W.findIn X.K (.ref C) "__init__" = some (some (.ref fI))) (tI : PySem.W.typeIn X.K (.ref fI) = some (.type "function"))
    (F1 : FnOk X.prog X.w X.K X.mg X.base CX k fI fd ps sp) (hr : Room (k + 1) X.A) (hb : L2.Binds X.K fd ps []) (hx : Passes CX X (fun _ _ _ => False)) (hg : Gl X x) (hm : X.mg x = some (.ref C)) (hdb : (x == ("__debug__" : Str)) = false := by decide) :
    PMk X (.Call (.Name x p) [] [] pos) (tMkN C sp) := by
  intro pins s σ H Q I h
  obtain ⟨nm, q, N, bs, bm, sn, sub, ab, col, dd, k0, k1, k2, k3, k5, hC, hbm⟩ := T.cls
  refine wpAny_Call_Name_kw (ld_glob I hg hm ?_ hdb)
  refine PySem.W.callWith_K0 I.kIn T.kC ?_
  show wpAny _ _ (call (.ref C) []) _ _ _
  obtain ⟨hp, g, dr, tk, os⟩ := s
  have hsz : hp.objs.size ≤ hp.objs.size + 1 := Nat.le_succ _
  have hn : H (hp.objs.size + 1) = none := I.hok.fresh hsz
  have hq := h (hp.objs.size + 1) hn
  have kk : ∀ b o, hp.get? b = some o → ((hp.push (PySem.W.kdv_tup [])).push (PySem.HandSPX.excO C hp.objs.size)).get? b = some o := fun b o e => Heap.get?_push_of_some _ (Heap.get?_push_of_some _ e)
  have hget : ((hp.push (PySem.W.kdv_tup [])).push (PySem.HandSPX.excO C hp.objs.size)).get? (hp.objs.size + 1) = some (PySem.HandSPX.excO C hp.objs.size) := by heap_get
  have I2 : Inv X pins σ (upd H (hp.objs.size + 1) (exo (hp.objs.size + 1) C none)) ⟨(hp.push (PySem.W.kdv_tup [])).push (PySem.HandSPX.excO C hp.objs.size), g, dr, tk, os⟩ :=
    I.laid (t' := tk) (a := hp.objs.size + 1) (o := exo (hp.objs.size + 1) C none) (h' := (hp.push (PySem.W.kdv_tup [])).push (PySem.HandSPX.excO C hp.objs.size)) kk hsz (exo_ok hget)
  have r2 : Vals [V.ref (hp.objs.size + 1)] [Value.ref (hp.objs.size + 1)] := .cons rfl .nil
  have hl : ([Value.ref (hp.objs.size + 1)] ++ []).length = ps.length := by
    rw [← F1.len _ _ _ _ hq]
    rfl
  have hus : ([] : List Value).length ≤ sizeLine := Nat.zero_le _
  refine wpAny_call (PySem.HandSPX.call_own F.excBase_ValueError (fun Y => PySem.HandSPX.refsVE_contains Y bm hbm) (I.kIn _ _ hC) (PySem.W.looks_findIn I.kIn iC) (fun self => PySem.W.bind_fn I.kIn self tI) hus
    (codeAny_mono (F1.run _ X.stack _ _ ⟨[Value.ref (hp.objs.size + 1)], []⟩ [Value.ref (hp.objs.size + 1)] _ _ (fun _ _ _ => False) (hr.make C [] []) (I2.env0.make C [] []) (hb _ [Value.ref (hp.objs.size + 1)] I2.kIn hl) r2 hq) fun r s' hq' => ?_))
  cases r with
  | error er => exact hx pins σ _ _ er s' I2 hq'
  | ok fl =>
    cases fl with
    | ret u =>
      obtain ⟨v, H2, os2, bare2, un2, hok2, rv, ev, ea, q2⟩ := hq'
      subst ev
      obtain ⟨h2, g2, d2, t2, os'⟩ := s'
      exact ⟨rv, mk_endN (raises_own T.exC T.tyC) I hsz kk un2 hok2 os2 bare2 ea q2⟩
    | next => exact False.elim hq'
    | brk => exact False.elim hq'
    | cont => exact False.elim hq'
end
end K0
set_option Elab.async false
set_option linter.all false
set_option maxRecDepth 100000
set_option maxHeartbeats 4000000
namespace K0
open PySem PySem.Spec PyProof.Rows L2
/-! ### what an __init__ leaves -/
def spI0 (C : Addr) : Sp := fun vs H Q _ => ∃ a, vs = [.ref a] ∧ H a = some (exo a C none) ∧ Q .non H
def spI1 (C : Addr) (f1 : Str) : Sp := fun vs H Q _ => ∃ a v1, vs = [.ref a, v1] ∧ H a = some (exo a C none) ∧ ∀ d, H d = none → d ≠ a → Q .non (upd (upd H d (exd d [(f1, v1)])) a (exo a C (some d)))
def spI2 (C : Addr) (f1 f2 : Str) : Sp := fun vs H Q _ => ∃ a v1 v2, vs = [.ref a, v1, v2] ∧ H a = some (exo a C none) ∧ ∀ d, H d = none → d ≠ a →
  Q .non (upd (upd (upd H d (exd d [(f1, v1)])) a (exo a C (some d))) d (exd d [(f2, v2), (f1, v1)]))
def spI3 (C : Addr) (f1 f2 f3 : Str) : Sp := fun vs H Q _ => ∃ a v1 v2 v3, vs = [.ref a, v1, v2, v3] ∧ H a = some (exo a C none) ∧ ∀ d, H d = none → d ≠ a →
  Q .non (upd (upd (upd (upd H d (exd d [(f1, v1)])) a (exo a C (some d))) d (exd d [(f2, v2), (f1, v1)])) d (exd d [(f3, v3), (f2, v2), (f1, v1)]))
/-- a class of the text's errors: what is known of it -/
structure XC (P : Program) (w : World) (K : PySem.W.Frag) (mg : Str → Option Value) (base : Heap) (x : Str) (C : Addr) (ps : List Str) (sp : Sp) : Prop where
  T : OexC K C
  g : mg x = some (.ref C)
  ini : ∃ (fI : Addr) (fd : FuncData), PySem.W.findIn K (.ref C) "__init__" = some (some (.ref fI)) ∧ PySem.W.typeIn K (.ref fI) = some (.type "function") ∧ FnOk P w K mg base CX0 1 fI fd ps sp ∧ L2.Binds K fd ps []
section
variable {P : Program} {w : World} {K : PySem.W.Frag} {mg : Str → Option Value} {base : Heap} {f C HE : Addr} {fd : FuncData}
abbrev sBadText : Stmt := inClass (topS 2) 0
theorem scBadText : FnScope ["self", "line", "word"] ["self", "line", "word"] (defScope sBadText) := ⟨rfl, rfl, rfl, by decide +kernel, rfl, by decide +kernel, by decide +kernel⟩
theorem ok_BadText (F : Fun K "__init__" "BadText.__init__" sBadText f fd) (HE1 : HeC K mg HE) (T : OexC K C) (n1 : PySem.W.findIn K (.ref C) "line" = some none) (n2 : PySem.W.findIn K (.ref C) "word" = some none) : FnOk P w K mg base CX0 1 f fd ["self", "line", "word"] (spI2 C "line" "word") := by
  refine F.ok scBadText (fun vs H Q E h => ?_) (fun cdv A outer s H vs Q E hr h => ⟨_, pss_cons (ps_expr (pe_heinit HE1 rfl (pa_cons (pv 0) (pa_cons pe_str pa_nil)))) (pss_cons (ps_ost (pv 0) (pv 1)) (pss_one (ps_ost (pv 0) (pv 2)))), ?_⟩)
  · obtain ⟨a, v1, v2, rfl, _⟩ := h
    rfl
  obtain ⟨a, v1, v2, rfl, ha, hQ⟩ := h
  refine ⟨_, rfl, a, C, [.str _], rfl, (show 1 ≤ 1000 by decide), T, ha, ?_⟩
  refine ⟨_, rfl, _, rfl, a, C, rfl, T, n1, .inl ⟨ha, fun d hd ne => ?_⟩⟩
  refine ⟨_, rfl, _, rfl, a, C, rfl, T, n2, .inr ⟨d, [("line", v1)], upd_same, by rw [upd_ne ne]; exact upd_same, (show 1 ≤ 900 by decide), hQ d hd ne⟩⟩
abbrev sBadName : Stmt := inClass (topS 3) 0
theorem scBadName : FnScope ["self", "name"] ["self", "name"] (defScope sBadName) := ⟨rfl, rfl, rfl, by decide +kernel, rfl, by decide +kernel, by decide +kernel⟩
theorem ok_BadName (F : Fun K "__init__" "BadName.__init__" sBadName f fd) (HE1 : HeC K mg HE) (T : OexC K C) (n1 : PySem.W.findIn K (.ref C) "name" = some none) : FnOk P w K mg base CX0 1 f fd ["self", "name"] (spI1 C "name") := by
  refine F.ok scBadName (fun vs H Q E h => ?_) (fun cdv A outer s H vs Q E hr h => ⟨_, pss_cons (ps_expr (pe_heinit HE1 rfl (pa_cons (pv 0) (pa_cons pe_str pa_nil)))) (pss_one (ps_ost (pv 0) (pv 1))), ?_⟩)
  · obtain ⟨a, v1, rfl, _⟩ := h
    rfl
  obtain ⟨a, v1, rfl, ha, hQ⟩ := h
  refine ⟨_, rfl, a, C, [.str _], rfl, (show 1 ≤ 1000 by decide), T, ha, ?_⟩
  refine ⟨_, rfl, _, rfl, a, C, rfl, T, n1, .inl ⟨ha, fun d hd ne => hQ d hd ne⟩⟩
abbrev sBadNumber : Stmt := inClass (topS 4) 0
theorem scBadNumber : FnScope ["self", "what", "number"] ["self", "what", "number"] (defScope sBadNumber) := ⟨rfl, rfl, rfl, by decide +kernel, rfl, by decide +kernel, by decide +kernel⟩
theorem ok_BadNumber (F : Fun K "__init__" "BadNumber.__init__" sBadNumber f fd) (HE1 : HeC K mg HE) (T : OexC K C) (n1 : PySem.W.findIn K (.ref C) "what" = some none) (n2 : PySem.W.findIn K (.ref C) "number" = some none) : FnOk P w K mg base CX0 1 f fd ["self", "what", "number"] (spI2 C "what" "number") := by
  refine F.ok scBadNumber (fun vs H Q E h => ?_) (fun cdv A outer s H vs Q E hr h => ⟨_, pss_cons (ps_expr (pe_heinit HE1 rfl (pa_cons (pv 0) (pa_cons pe_str pa_nil)))) (pss_cons (ps_ost (pv 0) (pv 1)) (pss_one (ps_ost (pv 0) (pv 2)))), ?_⟩)
  · obtain ⟨a, v1, v2, rfl, _⟩ := h
    rfl
  obtain ⟨a, v1, v2, rfl, ha, hQ⟩ := h
  refine ⟨_, rfl, a, C, [.str _], rfl, (show 1 ≤ 1000 by decide), T, ha, ?_⟩
  refine ⟨_, rfl, _, rfl, a, C, rfl, T, n1, .inl ⟨ha, fun d hd ne => ?_⟩⟩
  refine ⟨_, rfl, _, rfl, a, C, rfl, T, n2, .inr ⟨d, [("what", v1)], upd_same, by rw [upd_ne ne]; exact upd_same, (show 1 ≤ 900 by decide), hQ d hd ne⟩⟩
abbrev sBadRow : Stmt := inClass (topS 5) 0
theorem scBadRow : FnScope ["self", "what", "row"] ["self", "what", "row"] (defScope sBadRow) := ⟨rfl, rfl, rfl, by decide +kernel, rfl, by decide +kernel, by decide +kernel⟩
theorem ok_BadRow (F : Fun K "__init__" "BadRow.__init__" sBadRow f fd) (HE1 : HeC K mg HE) (T : OexC K C) (n1 : PySem.W.findIn K (.ref C) "what" = some none) (n2 : PySem.W.findIn K (.ref C) "row" = some none) : FnOk P w K mg base CX0 1 f fd ["self", "what", "row"] (spI2 C "what" "row") := by
  refine F.ok scBadRow (fun vs H Q E h => ?_) (fun cdv A outer s H vs Q E hr h => ⟨_, pss_cons (ps_expr (pe_heinit HE1 rfl (pa_cons (pv 0) (pa_cons pe_str pa_nil)))) (pss_cons (ps_ost (pv 0) (pv 1)) (pss_one (ps_ost (pv 0) (pv 2)))), ?_⟩)
  · obtain ⟨a, v1, v2, rfl, _⟩ := h
    rfl
  obtain ⟨a, v1, v2, rfl, ha, hQ⟩ := h
  refine ⟨_, rfl, a, C, [.str _], rfl, (show 1 ≤ 1000 by decide), T, ha, ?_⟩
  refine ⟨_, rfl, _, rfl, a, C, rfl, T, n1, .inl ⟨ha, fun d hd ne => ?_⟩⟩
  refine ⟨_, rfl, _, rfl, a, C, rfl, T, n2, .inr ⟨d, [("what", v1)], upd_same, by rw [upd_ne ne]; exact upd_same, (show 1 ≤ 900 by decide), hQ d hd ne⟩⟩
abbrev sNoName : Stmt := inClass (topS 6) 0
theorem scNoName : FnScope ["self", "name"] ["self", "name"] (defScope sNoName) := ⟨rfl, rfl, rfl, by decide +kernel, rfl, by decide +kernel, by decide +kernel⟩
theorem ok_NoName (F : Fun K "__init__" "NoName.__init__" sNoName f fd) (HE1 : HeC K mg HE) (T : OexC K C) (n1 : PySem.W.findIn K (.ref C) "name" = some none) : FnOk P w K mg base CX0 1 f fd ["self", "name"] (spI1 C "name") := by
  refine F.ok scNoName (fun vs H Q E h => ?_) (fun cdv A outer s H vs Q E hr h => ⟨_, pss_cons (ps_expr (pe_heinit HE1 rfl (pa_cons (pv 0) (pa_cons pe_str pa_nil)))) (pss_one (ps_ost (pv 0) (pv 1))), ?_⟩)
  · obtain ⟨a, v1, rfl, _⟩ := h
    rfl
  obtain ⟨a, v1, rfl, ha, hQ⟩ := h
  refine ⟨_, rfl, a, C, [.str _], rfl, (show 1 ≤ 1000 by decide), T, ha, ?_⟩
  refine ⟨_, rfl, _, rfl, a, C, rfl, T, n1, .inl ⟨ha, fun d hd ne => hQ d hd ne⟩⟩
abbrev sTakenName : Stmt := inClass (topS 7) 0
theorem scTakenName : FnScope ["self", "name"] ["self", "name"] (defScope sTakenName) := ⟨rfl, rfl, rfl, by decide +kernel, rfl, by decide +kernel, by decide +kernel⟩
theorem ok_TakenName (F : Fun K "__init__" "TakenName.__init__" sTakenName f fd) (HE1 : HeC K mg HE) (T : OexC K C) (n1 : PySem.W.findIn K (.ref C) "name" = some none) : FnOk P w K mg base CX0 1 f fd ["self", "name"] (spI1 C "name") := by
  refine F.ok scTakenName (fun vs H Q E h => ?_) (fun cdv A outer s H vs Q E hr h => ⟨_, pss_cons (ps_expr (pe_heinit HE1 rfl (pa_cons (pv 0) (pa_cons pe_str pa_nil)))) (pss_one (ps_ost (pv 0) (pv 1))), ?_⟩)
  · obtain ⟨a, v1, rfl, _⟩ := h
    rfl
  obtain ⟨a, v1, rfl, ha, hQ⟩ := h
  refine ⟨_, rfl, a, C, [.str _], rfl, (show 1 ≤ 1000 by decide), T, ha, ?_⟩
  refine ⟨_, rfl, _, rfl, a, C, rfl, T, n1, .inl ⟨ha, fun d hd ne => hQ d hd ne⟩⟩
abbrev sUnlike : Stmt := inClass (topS 8) 0
theorem scUnlike : FnScope ["self", "what"] ["self", "what"] (defScope sUnlike) := ⟨rfl, rfl, rfl, by decide +kernel, rfl, by decide +kernel, by decide +kernel⟩
theorem ok_Unlike (F : Fun K "__init__" "Unlike.__init__" sUnlike f fd) (HE1 : HeC K mg HE) (T : OexC K C) (n1 : PySem.W.findIn K (.ref C) "what" = some none) : FnOk P w K mg base CX0 1 f fd ["self", "what"] (spI1 C "what") := by
  refine F.ok scUnlike (fun vs H Q E h => ?_) (fun cdv A outer s H vs Q E hr h => ⟨_, pss_cons (ps_expr (pe_heinit HE1 rfl (pa_cons (pv 0) (pa_cons pe_str pa_nil)))) (pss_one (ps_ost (pv 0) (pv 1))), ?_⟩)
  · obtain ⟨a, v1, rfl, _⟩ := h
    rfl
  obtain ⟨a, v1, rfl, ha, hQ⟩ := h
  refine ⟨_, rfl, a, C, [.str _], rfl, (show 1 ≤ 1000 by decide), T, ha, ?_⟩
  refine ⟨_, rfl, _, rfl, a, C, rfl, T, n1, .inl ⟨ha, fun d hd ne => hQ d hd ne⟩⟩
abbrev sTooMany : Stmt := inClass (topS 9) 0
theorem scTooMany : FnScope ["self", "what", "many", "limit"] ["self", "what", "many", "limit"] (defScope sTooMany) := ⟨rfl, rfl, rfl, by decide +kernel, rfl, by decide +kernel, by decide +kernel⟩
theorem ok_TooMany (F : Fun K "__init__" "TooMany.__init__" sTooMany f fd) (HE1 : HeC K mg HE) (T : OexC K C) (n1 : PySem.W.findIn K (.ref C) "what" = some none) (n2 : PySem.W.findIn K (.ref C) "many" = some none) (n3 : PySem.W.findIn K (.ref C) "limit" = some none) : FnOk P w K mg base CX0 1 f fd ["self", "what", "many", "limit"] (spI3 C "what" "many" "limit") := by
  refine F.ok scTooMany (fun vs H Q E h => ?_) (fun cdv A outer s H vs Q E hr h => ⟨_, pss_cons (ps_expr (pe_heinit HE1 rfl (pa_cons (pv 0) (pa_cons pe_str pa_nil)))) (pss_cons (ps_ost (pv 0) (pv 1)) (pss_cons (ps_ost (pv 0) (pv 2)) (pss_one (ps_ost (pv 0) (pv 3))))), ?_⟩)
  · obtain ⟨a, v1, v2, v3, rfl, _⟩ := h
    rfl
  obtain ⟨a, v1, v2, v3, rfl, ha, hQ⟩ := h
  refine ⟨_, rfl, a, C, [.str _], rfl, (show 1 ≤ 1000 by decide), T, ha, ?_⟩
  refine ⟨_, rfl, _, rfl, a, C, rfl, T, n1, .inl ⟨ha, fun d hd ne => ?_⟩⟩
  refine ⟨_, rfl, _, rfl, a, C, rfl, T, n2, .inr ⟨d, [("what", v1)], upd_same, by rw [upd_ne ne]; exact upd_same, (show 1 ≤ 900 by decide), ?_⟩⟩
  refine ⟨_, rfl, _, rfl, a, C, rfl, T, n3, .inr ⟨d, [("many", v2), ("what", v1)], by rw [upd_ne (Ne.symm ne)]; exact upd_same, upd_same, (show 2 ≤ 900 by decide), hQ d hd ne⟩⟩
abbrev sNotKept : Stmt := inClass (topS 10) 0
theorem scNotKept : FnScope ["self", "promise", "witness"] ["self", "promise", "witness"] (defScope sNotKept) := ⟨rfl, rfl, rfl, by decide +kernel, rfl, by decide +kernel, by decide +kernel⟩
theorem ok_NotKept (F : Fun K "__init__" "NotKept.__init__" sNotKept f fd) (HE1 : HeC K mg HE) (T : OexC K C) (n1 : PySem.W.findIn K (.ref C) "promise" = some none) (n2 : PySem.W.findIn K (.ref C) "witness" = some none) : FnOk P w K mg base CX0 1 f fd ["self", "promise", "witness"] (spI2 C "promise" "witness") := by
  refine F.ok scNotKept (fun vs H Q E h => ?_) (fun cdv A outer s H vs Q E hr h => ⟨_, pss_cons (ps_expr (pe_heinit HE1 rfl (pa_cons (pv 0) (pa_cons pe_str pa_nil)))) (pss_cons (ps_ost (pv 0) (pv 1)) (pss_one (ps_ost (pv 0) (pv 2)))), ?_⟩)
  · obtain ⟨a, v1, v2, rfl, _⟩ := h
    rfl
  obtain ⟨a, v1, v2, rfl, ha, hQ⟩ := h
  refine ⟨_, rfl, a, C, [.str _], rfl, (show 1 ≤ 1000 by decide), T, ha, ?_⟩
  refine ⟨_, rfl, _, rfl, a, C, rfl, T, n1, .inl ⟨ha, fun d hd ne => ?_⟩⟩
  refine ⟨_, rfl, _, rfl, a, C, rfl, T, n2, .inr ⟨d, [("promise", v1)], upd_same, by rw [upd_ne ne]; exact upd_same, (show 1 ≤ 900 by decide), hQ d hd ne⟩⟩
abbrev sNothingToUndo : Stmt := inClass (topS 11) 0
theorem scNothingToUndo : FnScope ["self"] ["self"] (defScope sNothingToUndo) := ⟨rfl, rfl, rfl, by decide +kernel, rfl, by decide +kernel, by decide +kernel⟩
theorem ok_NothingToUndo (F : Fun K "__init__" "NothingToUndo.__init__" sNothingToUndo f fd) (HE1 : HeC K mg HE) (T : OexC K C) : FnOk P w K mg base CX0 1 f fd ["self"] (spI0 C) := by
  refine F.ok scNothingToUndo (fun vs H Q E h => ?_) (fun cdv A outer s H vs Q E hr h => ⟨_, pss_one (ps_expr (pe_heinit HE1 rfl (pa_cons (pv 0) (pa_cons pe_str pa_nil)))), ?_⟩)
  · obtain ⟨a, rfl, _⟩ := h
    rfl
  obtain ⟨a, rfl, ha, hQ⟩ := h
  refine ⟨_, rfl, a, C, [.str _], rfl, (show 1 ≤ 1000 by decide), T, ha, hQ⟩
abbrev sNothingToRedo : Stmt := inClass (topS 12) 0
theorem scNothingToRedo : FnScope ["self"] ["self"] (defScope sNothingToRedo) := ⟨rfl, rfl, rfl, by decide +kernel, rfl, by decide +kernel, by decide +kernel⟩
theorem ok_NothingToRedo (F : Fun K "__init__" "NothingToRedo.__init__" sNothingToRedo f fd) (HE1 : HeC K mg HE) (T : OexC K C) : FnOk P w K mg base CX0 1 f fd ["self"] (spI0 C) := by
  refine F.ok scNothingToRedo (fun vs H Q E h => ?_) (fun cdv A outer s H vs Q E hr h => ⟨_, pss_one (ps_expr (pe_heinit HE1 rfl (pa_cons (pv 0) (pa_cons pe_str pa_nil)))), ?_⟩)
  · obtain ⟨a, rfl, _⟩ := h
    rfl
  obtain ⟨a, rfl, ha, hQ⟩ := h
  refine ⟨_, rfl, a, C, [.str _], rfl, (show 1 ≤ 1000 by decide), T, ha, hQ⟩
end
end K0
set_option Elab.async false
set_option linter.all false
set_option maxRecDepth 100000
set_option maxHeartbeats 4000000
namespace K0
open PySem PySem.Spec PyProof.Rows L2
abbrev sFall : Stmt := topS 20
abbrev sOther : Stmt := topS 21
theorem scFall : FnScope ["kind", "one", "two", "three"] ["kind", "one", "two", "three"] (defScope sFall) := ⟨rfl, rfl, rfl, by decide +kernel, rfl, by decide +kernel, by decide +kernel⟩
theorem scOther : FnScope ["kind", "one", "two", "three"] ["kind", "one", "two", "three"] (defScope sOther) := ⟨rfl, rfl, rfl, by decide +kernel, rfl, by decide +kernel, by decide +kernel⟩
/-- the fields of the error of a kind, the last one ahead -/
def fsOf (j : Nat) (v1 v2 v3 : V) : List (Str × V) := match j with
  | 0 => [("word", v2), ("line", v1)]
  | 1 => [("name", v1)]
  | 2 => [("number", v2), ("what", v1)]
  | 3 => [("row", v2), ("what", v1)]
  | 4 => [("name", v1)]
  | 5 => [("name", v1)]
  | 6 => [("what", v1)]
  | 7 => [("limit", v3), ("many", v2), ("what", v1)]
  | 8 => [("witness", v2), ("promise", v1)]
  | 9 => []
  | _ => []
/-- what is wished of an error: its class, its dict, the heap -/
def Rz (E : XK) (H : Hp) (C : Addr) (fs : List (Str × V)) : Prop := match fs with
  | [] => ∀ H', Same H H' → E (.ref C) none H'
  | q :: r => ∀ d H', H d = none → Same H H' → H' d = some (.xd (q :: r)) → E (.ref C) (some d) H'
def spFall (cA : Nat → Addr) (lo hi : Nat) : Sp := fun vs H _ E => ∃ (j : Nat) (v1 v2 v3 : V), lo ≤ j ∧ j < hi ∧ vs = [.int j, v1, v2, v3] ∧ Rz E H (cA j) (fsOf j v1 v2 v3)
theorem same_of {H H' : Hp} {a d : Addr} (ha : H a = none) (hd : H d = none) (h : ∀ b, b ≠ a → b ≠ d → H' b = H b) : Same H H' := fun b o e => by
  rw [h b (ne_of_none e ha) (ne_of_none e hd)]
  exact e
section
variable {P : Program} {w : World} {K : PySem.W.Frag} {mg : Str → Option Value} {base : Heap} {f fO : Addr} {fd fdO : FuncData} {cA : Nat → Addr}
theorem ok_other (F : Fun K "_law_other_fall" "_law_other_fall" sOther f fd) (x6 : XC P w K mg base "Unlike" (cA 6) ["self", "what"] (spI1 (cA 6) "what")) (x7 : XC P w K mg base "TooMany" (cA 7) ["self", "what", "many", "limit"] (spI3 (cA 7) "what" "many" "limit")) (x8 : XC P w K mg base "NotKept" (cA 8) ["self", "promise", "witness"] (spI2 (cA 8) "promise" "witness")) (x9 : XC P w K mg base "NothingToUndo" (cA 9) ["self"] (spI0 (cA 9))) (x10 : XC P w K mg base "NothingToRedo" (cA 10) ["self"] (spI0 (cA 10))) : FnOk P w K mg base (L2.CX P w) 3 f fd ["kind", "one", "two", "three"] (spFall cA 6 11) := by
  obtain ⟨fI6, fd6, i6, t6, G6, b6⟩ := x6.ini
  obtain ⟨fI7, fd7, i7, t7, G7, b7⟩ := x7.ini
  obtain ⟨fI8, fd8, i8, t8, G8, b8⟩ := x8.ini
  obtain ⟨fI9, fd9, i9, t9, G9, b9⟩ := x9.ini
  obtain ⟨fI10, fd10, i10, t10, G10, b10⟩ := x10.ini
  refine F.okX scOther (fun vs H Q E h => ?_) (fun cdv A outer s H vs Q E hr h => ?_)
  · obtain ⟨j, v1, v2, v3, _, _, rfl, _⟩ := h
    rfl
  have hr2 : Room 2 (A.deeper (envOfC "_law_other_fall" (defScope sOther) s.heap.objs.size f cdv)) := hr
  refine ⟨_, pss_cons (ps_if (pt_cmpR op_eq (pv 0) pe_int (nomark _)) (pss_one (ps_raise rfl (takes_of rfl rfl rfl rfl) (pmk_oex x6.T i6 t6 G6 hr2 b6 .nil pass0 rfl x6.g (pa_cons (pv 1) pa_nil)))) pss_nil) (pss_cons (ps_if (pt_cmpR op_eq (pv 0) pe_int (nomark _)) (pss_one (ps_raise rfl (takes_of rfl rfl rfl rfl) (pmk_oex x7.T i7 t7 G7 hr2 b7 .nil pass0 rfl x7.g (pa_cons (pv 1) (pa_cons (pv 2) (pa_cons (pv 3) pa_nil)))))) pss_nil) (pss_cons (ps_if (pt_cmpR op_eq (pv 0) pe_int (nomark _)) (pss_one (ps_raise rfl (takes_of rfl rfl rfl rfl) (pmk_oex x8.T i8 t8 G8 hr2 b8 .nil pass0 rfl x8.g (pa_cons (pv 1) (pa_cons (pv 2) pa_nil))))) pss_nil) (pss_cons (ps_if (pt_cmpR op_eq (pv 0) pe_int (nomark _)) (pss_one (ps_raise rfl (takes_of rfl rfl rfl rfl) (pmk_oexN x9.T i9 t9 G9 hr2 b9 pass0 rfl x9.g))) pss_nil) (pss_one (ps_raise rfl (takes_of rfl rfl rfl rfl) (pmk_oexN x10.T i10 t10 G10 hr2 b10 pass0 rfl x10.g)))))), ?_⟩
  obtain ⟨j, v1, v2, v3, j0, j1, rfl, hR⟩ := h
  by_cases h6 : j = 6
  · subst h6
    refine st_seq (st_yes (ans_eq (x := .int ((6 : Nat) : Int)) (y := .int 6) (val_var rfl) val_c rfl (by decide)) ?_)
    refine ⟨_, rfl, ⟨(show 1 ≤ 1000 by decide), fun a ha => ?_⟩⟩
    refine ⟨a, v1, rfl, upd_same, fun d hd ne => ?_⟩
    have hdH := (upd_none hd).2
    refine ⟨rfl, d, [("what", v1)], upd_same, by rw [upd_ne ne]; exact upd_same, hdH, ?_⟩
    refine hR d _ hdH (same_of ha hdH fun b hb hb2 => ?_) upd_same
    simp only [upd_ne hb2, del_ne hb, upd_ne hb]
  refine st_seq (st_no (ans_eq (x := .int (j : Int)) (y := .int 6) (val_var rfl) val_c rfl (decide_eq_false fun z => h6 (by have z2 := V.int.inj z; omega))) (st_next ?_))
  dsimp only
  by_cases h7 : j = 7
  · subst h7
    refine st_seq (st_yes (ans_eq (x := .int ((7 : Nat) : Int)) (y := .int 7) (val_var rfl) val_c rfl (by decide)) ?_)
    refine ⟨_, rfl, ⟨_, rfl, ⟨_, rfl, ⟨(show 3 ≤ 1000 by decide), fun a ha => ?_⟩⟩⟩⟩
    refine ⟨a, v1, v2, v3, rfl, upd_same, fun d hd ne => ?_⟩
    have hdH := (upd_none hd).2
    refine ⟨rfl, d, [("limit", v3), ("many", v2), ("what", v1)], by rw [upd_ne (Ne.symm ne), upd_ne (Ne.symm ne)]; exact upd_same, upd_same, hdH, ?_⟩
    refine hR d _ hdH (same_of ha hdH fun b hb hb2 => ?_) upd_same
    simp only [upd_ne hb2, del_ne hb, upd_ne hb]
  refine st_seq (st_no (ans_eq (x := .int (j : Int)) (y := .int 7) (val_var rfl) val_c rfl (decide_eq_false fun z => h7 (by have z2 := V.int.inj z; omega))) (st_next ?_))
  dsimp only
  by_cases h8 : j = 8
  · subst h8
    refine st_seq (st_yes (ans_eq (x := .int ((8 : Nat) : Int)) (y := .int 8) (val_var rfl) val_c rfl (by decide)) ?_)
    refine ⟨_, rfl, ⟨_, rfl, ⟨(show 2 ≤ 1000 by decide), fun a ha => ?_⟩⟩⟩
    refine ⟨a, v1, v2, rfl, upd_same, fun d hd ne => ?_⟩
    have hdH := (upd_none hd).2
    refine ⟨rfl, d, [("witness", v2), ("promise", v1)], by rw [upd_ne (Ne.symm ne)]; exact upd_same, upd_same, hdH, ?_⟩
    refine hR d _ hdH (same_of ha hdH fun b hb hb2 => ?_) upd_same
    simp only [upd_ne hb2, del_ne hb, upd_ne hb]
  refine st_seq (st_no (ans_eq (x := .int (j : Int)) (y := .int 8) (val_var rfl) val_c rfl (decide_eq_false fun z => h8 (by have z2 := V.int.inj z; omega))) (st_next ?_))
  dsimp only
  by_cases h9 : j = 9
  · subst h9
    refine st_seq (st_yes (ans_eq (x := .int ((9 : Nat) : Int)) (y := .int 9) (val_var rfl) val_c rfl (by decide)) ?_)
    intro a ha
    refine ⟨a, rfl, upd_same, rfl, upd_same, ?_⟩
    refine hR _ (same_of ha ha fun b hb _ => ?_)
    rw [del_ne hb, upd_ne hb]
  refine st_seq (st_no (ans_eq (x := .int (j : Int)) (y := .int 9) (val_var rfl) val_c rfl (decide_eq_false fun z => h9 (by have z2 := V.int.inj z; omega))) (st_next ?_))
  dsimp only
  obtain rfl : j = 10 := by omega
  intro a ha
  refine ⟨a, rfl, upd_same, rfl, upd_same, ?_⟩
  refine hR _ (same_of ha ha fun b hb _ => ?_)
  rw [del_ne hb, upd_ne hb]
theorem ok_fall (F : Fun K "_law_fall" "_law_fall" sFall f fd) (GO : FnOk P w K mg base (L2.CX P w) 3 fO fdO ["kind", "one", "two", "three"] (spFall cA 6 11)) (bO : L2.Binds K fdO ["kind", "one", "two", "three"] []) (kO : PySem.W.keepIn K (.ref fO) = true) (gO : mg "_law_other_fall" = some (.ref fO)) (x0 : XC P w K mg base "BadText" (cA 0) ["self", "line", "word"] (spI2 (cA 0) "line" "word")) (x1 : XC P w K mg base "BadName" (cA 1) ["self", "name"] (spI1 (cA 1) "name")) (x2 : XC P w K mg base "BadNumber" (cA 2) ["self", "what", "number"] (spI2 (cA 2) "what" "number")) (x3 : XC P w K mg base "BadRow" (cA 3) ["self", "what", "row"] (spI2 (cA 3) "what" "row")) (x4 : XC P w K mg base "NoName" (cA 4) ["self", "name"] (spI1 (cA 4) "name")) (x5 : XC P w K mg base "TakenName" (cA 5) ["self", "name"] (spI1 (cA 5) "name")) : FnOk P w K mg base (L2.CX P w) 4 f fd ["kind", "one", "two", "three"] (spFall cA 0 11) := by
  obtain ⟨fI0, fd0, i0, t0, G0, b0⟩ := x0.ini
  obtain ⟨fI1, fd1, i1, t1, G1, b1⟩ := x1.ini
  obtain ⟨fI2, fd2, i2, t2, G2, b2⟩ := x2.ini
  obtain ⟨fI3, fd3, i3, t3, G3, b3⟩ := x3.ini
  obtain ⟨fI4, fd4, i4, t4, G4, b4⟩ := x4.ini
  obtain ⟨fI5, fd5, i5, t5, G5, b5⟩ := x5.ini
  refine F.okX scFall (fun vs H Q E h => ?_) (fun cdv A outer s H vs Q E hr h => ?_)
  · obtain ⟨j, v1, v2, v3, _, _, rfl, _⟩ := h
    rfl
  have hr2 : Room 2 (A.deeper (envOfC "_law_fall" (defScope sFall) s.heap.objs.size f cdv)) := hr.mono (by decide)
  refine ⟨_, pss_cons (ps_if (pt_cmpR op_eq (pv 0) pe_int (nomark _)) (pss_one (ps_raise rfl (takes_of rfl rfl rfl rfl) (pmk_oex x0.T i0 t0 G0 hr2 b0 .nil pass0 rfl x0.g (pa_cons (pv 1) (pa_cons (pv 2) pa_nil))))) pss_nil) (pss_cons (ps_if (pt_cmpR op_eq (pv 0) pe_int (nomark _)) (pss_one (ps_raise rfl (takes_of rfl rfl rfl rfl) (pmk_oex x1.T i1 t1 G1 hr2 b1 .nil pass0 rfl x1.g (pa_cons (pv 1) pa_nil)))) pss_nil) (pss_cons (ps_if (pt_cmpR op_eq (pv 0) pe_int (nomark _)) (pss_one (ps_raise rfl (takes_of rfl rfl rfl rfl) (pmk_oex x2.T i2 t2 G2 hr2 b2 .nil pass0 rfl x2.g (pa_cons (pv 1) (pa_cons (pv 2) pa_nil))))) pss_nil) (pss_cons (ps_if (pt_cmpR op_eq (pv 0) pe_int (nomark _)) (pss_one (ps_raise rfl (takes_of rfl rfl rfl rfl) (pmk_oex x3.T i3 t3 G3 hr2 b3 .nil pass0 rfl x3.g (pa_cons (pv 1) (pa_cons (pv 2) pa_nil))))) pss_nil) (pss_cons (ps_if (pt_cmpR op_eq (pv 0) pe_int (nomark _)) (pss_one (ps_raise rfl (takes_of rfl rfl rfl rfl) (pmk_oex x4.T i4 t4 G4 hr2 b4 .nil pass0 rfl x4.g (pa_cons (pv 1) pa_nil)))) pss_nil) (pss_cons (ps_if (pt_cmpR op_eq (pv 0) pe_int (nomark _)) (pss_one (ps_raise rfl (takes_of rfl rfl rfl rfl) (pmk_oex x5.T i5 t5 G5 hr2 b5 .nil pass0 rfl x5.g (pa_cons (pv 1) pa_nil)))) pss_nil) (pss_one (ps_expr (pe_call GO hr rfl gO kO bO .nil (passes_call (takes_of rfl rfl rfl rfl) (fun _ _ _ _ h => h)) (pa_cons (pv 0) (pa_cons (pv 1) (pa_cons (pv 2) (pa_cons (pv 3) pa_nil)))))))))))), ?_⟩
  obtain ⟨j, v1, v2, v3, j0, j1, rfl, hR⟩ := h
  by_cases h0 : j = 0
  · subst h0
    refine st_seq (st_yes (ans_eq (x := .int ((0 : Nat) : Int)) (y := .int 0) (val_var rfl) val_c rfl (by decide)) ?_)
    refine ⟨_, rfl, ⟨_, rfl, ⟨(show 2 ≤ 1000 by decide), fun a ha => ?_⟩⟩⟩
    refine ⟨a, v1, v2, rfl, upd_same, fun d hd ne => ?_⟩
    have hdH := (upd_none hd).2
    refine ⟨rfl, d, [("word", v2), ("line", v1)], by rw [upd_ne (Ne.symm ne)]; exact upd_same, upd_same, hdH, ?_⟩
    refine hR d _ hdH (same_of ha hdH fun b hb hb2 => ?_) upd_same
    simp only [upd_ne hb2, del_ne hb, upd_ne hb]
  refine st_seq (st_no (ans_eq (x := .int (j : Int)) (y := .int 0) (val_var rfl) val_c rfl (decide_eq_false fun z => h0 (by have z2 := V.int.inj z; omega))) (st_next ?_))
  dsimp only
  by_cases h1 : j = 1
  · subst h1
    refine st_seq (st_yes (ans_eq (x := .int ((1 : Nat) : Int)) (y := .int 1) (val_var rfl) val_c rfl (by decide)) ?_)
    refine ⟨_, rfl, ⟨(show 1 ≤ 1000 by decide), fun a ha => ?_⟩⟩
    refine ⟨a, v1, rfl, upd_same, fun d hd ne => ?_⟩
    have hdH := (upd_none hd).2
    refine ⟨rfl, d, [("name", v1)], upd_same, by rw [upd_ne ne]; exact upd_same, hdH, ?_⟩
    refine hR d _ hdH (same_of ha hdH fun b hb hb2 => ?_) upd_same
    simp only [upd_ne hb2, del_ne hb, upd_ne hb]
  refine st_seq (st_no (ans_eq (x := .int (j : Int)) (y := .int 1) (val_var rfl) val_c rfl (decide_eq_false fun z => h1 (by have z2 := V.int.inj z; omega))) (st_next ?_))
  dsimp only
  by_cases h2 : j = 2
  · subst h2
    refine st_seq (st_yes (ans_eq (x := .int ((2 : Nat) : Int)) (y := .int 2) (val_var rfl) val_c rfl (by decide)) ?_)
    refine ⟨_, rfl, ⟨_, rfl, ⟨(show 2 ≤ 1000 by decide), fun a ha => ?_⟩⟩⟩
    refine ⟨a, v1, v2, rfl, upd_same, fun d hd ne => ?_⟩
    have hdH := (upd_none hd).2
    refine ⟨rfl, d, [("number", v2), ("what", v1)], by rw [upd_ne (Ne.symm ne)]; exact upd_same, upd_same, hdH, ?_⟩
    refine hR d _ hdH (same_of ha hdH fun b hb hb2 => ?_) upd_same
    simp only [upd_ne hb2, del_ne hb, upd_ne hb]
  refine st_seq (st_no (ans_eq (x := .int (j : Int)) (y := .int 2) (val_var rfl) val_c rfl (decide_eq_false fun z => h2 (by have z2 := V.int.inj z; omega))) (st_next ?_))
  dsimp only
  by_cases h3 : j = 3
  · subst h3
    refine st_seq (st_yes (ans_eq (x := .int ((3 : Nat) : Int)) (y := .int 3) (val_var rfl) val_c rfl (by decide)) ?_)
    refine ⟨_, rfl, ⟨_, rfl, ⟨(show 2 ≤ 1000 by decide), fun a ha => ?_⟩⟩⟩
    refine ⟨a, v1, v2, rfl, upd_same, fun d hd ne => ?_⟩
    have hdH := (upd_none hd).2
    refine ⟨rfl, d, [("row", v2), ("what", v1)], by rw [upd_ne (Ne.symm ne)]; exact upd_same, upd_same, hdH, ?_⟩
    refine hR d _ hdH (same_of ha hdH fun b hb hb2 => ?_) upd_same
    simp only [upd_ne hb2, del_ne hb, upd_ne hb]
  refine st_seq (st_no (ans_eq (x := .int (j : Int)) (y := .int 3) (val_var rfl) val_c rfl (decide_eq_false fun z => h3 (by have z2 := V.int.inj z; omega))) (st_next ?_))
  dsimp only
  by_cases h4 : j = 4
  · subst h4
    refine st_seq (st_yes (ans_eq (x := .int ((4 : Nat) : Int)) (y := .int 4) (val_var rfl) val_c rfl (by decide)) ?_)
    refine ⟨_, rfl, ⟨(show 1 ≤ 1000 by decide), fun a ha => ?_⟩⟩
    refine ⟨a, v1, rfl, upd_same, fun d hd ne => ?_⟩
    have hdH := (upd_none hd).2
    refine ⟨rfl, d, [("name", v1)], upd_same, by rw [upd_ne ne]; exact upd_same, hdH, ?_⟩
    refine hR d _ hdH (same_of ha hdH fun b hb hb2 => ?_) upd_same
    simp only [upd_ne hb2, del_ne hb, upd_ne hb]
  refine st_seq (st_no (ans_eq (x := .int (j : Int)) (y := .int 4) (val_var rfl) val_c rfl (decide_eq_false fun z => h4 (by have z2 := V.int.inj z; omega))) (st_next ?_))
  dsimp only
  by_cases h5 : j = 5
  · subst h5
    refine st_seq (st_yes (ans_eq (x := .int ((5 : Nat) : Int)) (y := .int 5) (val_var rfl) val_c rfl (by decide)) ?_)
    refine ⟨_, rfl, ⟨(show 1 ≤ 1000 by decide), fun a ha => ?_⟩⟩
    refine ⟨a, v1, rfl, upd_same, fun d hd ne => ?_⟩
    have hdH := (upd_none hd).2
    refine ⟨rfl, d, [("name", v1)], upd_same, by rw [upd_ne ne]; exact upd_same, hdH, ?_⟩
    refine hR d _ hdH (same_of ha hdH fun b hb hb2 => ?_) upd_same
    simp only [upd_ne hb2, del_ne hb, upd_ne hb]
  refine st_seq (st_no (ans_eq (x := .int (j : Int)) (y := .int 5) (val_var rfl) val_c rfl (decide_eq_false fun z => h5 (by have z2 := V.int.inj z; omega))) (st_next ?_))
  dsimp only
  exact ⟨_, rfl, _, rfl, _, rfl, _, rfl, j, v1, v2, v3, by omega, j1, rfl, hR⟩
end
end K0
set_option Elab.async false
set_option linter.all false
set_option maxRecDepth 100000
set_option maxHeartbeats 4000000
namespace PySem.W
open PySem PySem.Spec PySem.Calls PyProof.Rows
section
variable {prog : Program} {w : World} {A : Around} {E : Value → Shared → Prop} {s : Shared} {K : Frag} {x D : Addr} {ox : Obj} {od : Option Obj}
theorem k0_findObj {C : Addr} {name : Str} {a g : Value} (hc : (clsIn K C).isSome = true) (ha : findIn K (.ref C) name = some (some a)) (hg : specialIn K a "__get__" = some (some g)) (ht : takesIn K a = some true) : findObj K C od name = some (.bind g a) := by
  obtain ⟨cd, hc⟩ := Option.isSome_iff_exists.mp hc
  unfold findObj
  rw [hc, Option.bind_some, ha, Option.bind_some]
  simp [hg, ht]
/-- e.__class__ of an error, with a dict or without -/
theorem k0_class {Q : Option Value → Shared → Prop} (hga : findIn K (.ref D) "__getattribute__" = some (some (.builtin "BaseException.__getattribute__"))) (hgt : findIn K (.ref D) "__getattr__" = some none) (hsub : subIn K (.ref D) (.type "BaseException") = some true)
    (hdct : hasDictIn K D = true) (ha : findIn K (.ref D) "__class__" = some (some (.builtin "object.__class__")))
    (hn : specialIn K (.builtin "object.__class__") "__get__" = some (some (.builtin "getset_descriptor.__get__"))) (htk : takesIn K (.builtin "object.__class__") = some true) (hm : mroIn K D (.type "object") = some true)
    (X : K.In s.heap) (I : InstAt s.heap x ox D od) (h : Q (some (.ref D)) { s with toks := s.toks + 1 }) : wpAny (model prog w) A (getAttr? (.ref x) "__class__") Q E s := by
  have hf : findObj K D od "__class__" = some (.bind (.builtin "getset_descriptor.__get__") (.builtin "object.__class__")) := k0_findObj (by obtain ⟨cd, hc, _⟩ := any_some hdct; rw [hc]; rfl) ha hn htk
  obtain ⟨hp, g, d, t, os⟩ := s
  have L0 := I.type (M := model prog w)
  have L1 := looks_findIn (M := model prog w) X hga
  have L2 := looks_findIn (M := model prog w) X hgt
  have L3 := looks_find (M := model prog w) X I hf
  have sub : Looks (model prog w) hp (isInstance (.ref x) (.type "BaseException")) true := L0.andThen (looks_subIn X hsub)
  have z0 : (false && onTheHeap (Value.builtin "BaseException.__getattribute__")) = false := rfl
  have z2 : (Value.builtin "BaseException.__getattribute__" == Value.builtin "object.__getattribute__") = false := by decide +kernel
  have z1 : (onTheHeap (Value.ref D) && Value.builtin "BaseException.__getattribute__" == Value.builtin "object.__getattribute__") = false := by rw [z2]; rfl
  unfold getAttr? getAttrBy? getAttrBy
  refine wpAny_bind (wpAny_mkText (wpAny_bind (wpAny_attempt (wpAny_holding (wpAny_bind (L0.at (wpAny_bind (L1.at ?_))))))))
  show wpAny _ _ (if (onTheHeap (Value.ref D) && Value.builtin "BaseException.__getattribute__" == Value.builtin "object.__getattribute__") = true then _ else _) _ _ _
  rw [z1, if_neg Bool.false_ne_true]
  unfold getAttrByItsOwn hookBefore
  refine wpAny_bind ?_
  rw [if_pos (show onTheHeap (Value.ref D) = true from rfl)]
  refine L2.at ?_
  refine wpAny_bind (wpAny_attempt (wpAny_holding ?_))
  unfold callGetattribute
  rw [z0, if_neg Bool.false_ne_true]
  unfold boundAndCalled
  rw [PySem.F.excAttr_ValueError.ga.bind (.ref x)]
  refine wpAny_bind (wpAny_pure ?_)
  show wpAny _ _ (call (.builtin "BaseException.__getattribute__") [.ref x, .str "__class__" t]) _ _ _
  refine wpAny_call (codeAny_call_builtin PySem.F.excAttr_ValueError.ga.plain PySem.F.entry_bexc_ga ?_)
  refine @check_slot (model prog w) _ _ ⟨hp, g, d, t + 1, os⟩ "BaseException.__getattribute__" "BaseException" "__getattribute__" (.ref x) [.str "__class__" t] [] _ (by decide +kernel) (by decide +kernel) sub (PySem.F.args_bexc_ga (.ref x) (.str "__class__" t)) ?_
  unfold Builtin.«object.__getattribute__»
  refine wpAny_bind (wpAny_of_eq (a := ((Value.ref x : Value), [Value.str "__class__" t])) (by first | rfl | (simp only [slotArgs]; rfl)) ?_)
  refine wpAny_bind (wpAny_pure (wpAny_bind (L0.at (wpAny_bind (L3.at ?_)))))
  show wpAny _ _ (holding [Value.builtin "object.__class__"] (call (.builtin "getset_descriptor.__get__") [.builtin "object.__class__", .ref x, .ref D]) >>= ret) _ _ _
  refine wpAny_bind (wpAny_holding (wpAny_call (class_get (s := ⟨hp, g, d, t + 1, os⟩) (ox := ox) (od := od) X I hm ?_)))
  refine wpAny_pure ?_
  show wpAny _ _ (handedOut (.ref D)) _ _ _
  rw [handedOut_of (v := .ref D) rfl]
  first
    | exact wpAny_pure (wpAny_pure h)
    | exact wpAny_pure h
    | exact wpAny_pure (wpAny_bind (wpAny_pure (wpAny_pure h)))
theorem k0_kitx (hga : findIn K (.ref D) "__getattribute__" = some (some (.builtin "BaseException.__getattribute__"))) (hgt : findIn K (.ref D) "__getattr__" = some none) (hsub : subIn K (.ref D) (.type "BaseException") = some true) (hdct : hasDictIn K D = true) (ha : findIn K (.ref D) "__class__" = some (some (.builtin "object.__class__")))
    (hn : specialIn K (.builtin "object.__class__") "__get__" = some (some (.builtin "getset_descriptor.__get__"))) (htk : takesIn K (.builtin "object.__class__") = some true) (hm : mroIn K D (.type "object") = some true) :
    KitX K (.ref x) (.ref D) (fun h => InstAt h x ox D od) where
  ty := fun _ _ _ I => I.type
  it := fun _ _ X _ => by
    obtain ⟨cdD, hcD, _⟩ := any_some hdct
    unfold clsIn at hcD
    split at hcD
    · rename_i c' d' cd' sl' ho
      intro A' Q' E' s' k q
      unfold isType loadHead
      exact wpAny_bind (wpAny_loadPart (k _ _ (X _ _ ho)) (wpAny_pure q))
    · cases hcD
  ne := fun h tp dd its n sl X htp => by
    obtain ⟨cdD, hcD, _⟩ := any_some hdct
    refine Bool.eq_false_iff.mpr fun q => ?_
    have e : D = tp := Value.ref.inj (beq_iff_eq.mp q)
    subst e
    unfold clsIn at hcD
    split at hcD
    · rename_i c' d' cd' sl' ho
      have z := (X _ _ ho).symm.trans htp
      cases z
    · cases hcD
  ca := fun X I k => k0_class hga hgt hsub hdct ha hn htk hm X I k
end
end PySem.W
namespace K0
open PySem PySem.Spec PyProof.Rows L2 L2H
/-! ### an error that a suite holds, seen through a pin -/
/-- the dict of the error stands, if it has one -/
def XdAt (H : Hp) (d : Option Addr) : Prop := d = none ∨ ∃ dd fs, d = some dd ∧ H dd = some (.xd fs)
theorem XdAt.same {H H' : Hp} {d : Option Addr} (h : XdAt H d) (e : Same H H') : XdAt H' d := by
  rcases h with h | ⟨dd, fs, h1, h2⟩
  · exact .inl h
  · exact .inr ⟨dd, fs, h1, e _ _ h2⟩
def rIsP (K : PySem.W.Frag) (a : Addr) (cls : Value) (d : Option Addr) : List V → Hp → VK → Prop := fun xs H Q => ∃ (D : Addr) (c : V) (cv : Value) (b : Bool), cls = .ref D ∧ ExcC K D ∧ xs = [.ref a, c] ∧ (∀ u, RelV c u → u = cv) ∧ PySem.W.kitOne K (.ref D) cv = some b ∧ XdAt H d ∧ Q (.bl b) H
theorem call_isP {X : Cx} {a : Addr} {oe : Obj} {cls : Value} {d : Option Addr} (hp : (a, oe) ∈ X.pn) (hz : Zc cls d oe) (hf : ∃ vs, oe.data = .fields vs) : CallR X (.builtin "isinstance") (rIsP X.K a cls d) := by
  intro pins s σ H xs us Q I r h
  obtain ⟨D, c, cv, b, rfl, C, rfl, hcv, e, hx, q⟩ := h
  cases r with
  | cons rx rr =>
    cases rr with
    | cons rt rr =>
      cases rr
      cases rx
      have ec := hcv _ rt
      subst ec
      obtain ⟨hget, _⟩ := I.pin (a, oe) (List.mem_append.mpr (.inl hp))
      obtain ⟨vs, hv⟩ := hf
      have J : ∃ od, PySem.W.InstAt s.heap a oe D od := by
        rcases hx with hx | ⟨dd, fs, hx, hd⟩
        · subst hx
          exact ⟨none, hget, hz.1, by unfold PySem.W.notCls; rw [hv] <;> rfl, by rw [hz.2]; trivial⟩
        · subst hx
          have hx : ObjOk X.prog X.w H s.heap dd (.xd fs) := I.hok dd _ hd
          obtain ⟨mA, hns, hr⟩ := hx
          obtain ⟨od, ho, hl⟩ := lookIn_ns hns
          exact ⟨some od, hget, hz.1, by unfold PySem.W.notCls; rw [hv] <;> rfl, by rw [hz.2]; exact ho⟩
      obtain ⟨od, J⟩ := J
      exact PySem.W.kia_one (PySem.W.k0_kitx C.hg C.hk C.hs C.hd C.ha C.hn C.ht C.hm) I.kIn J e (fun z => nomatch z) fun tk => ⟨.bl b, H, I.kept (t' := tk) fun _ _ z => z, rfl, q⟩
def tXp (K : PySem.W.Frag) (a : Addr) (cls : Value) (d : Option Addr) (f : Str) (te : TE) : TE := fun σ H Q => te σ H fun x H1 => x = .ref a ∧ ∃ (C dd : Addr) (fs : List (Str × V)) (v : V), cls = .ref C ∧ XfC K C ∧ PySem.W.findIn K (.ref C) f = some none ∧ d = some dd ∧ H1 dd = some (.xd fs) ∧ fs.lookup f = some v ∧ Q v H1
theorem pe_xp {X : Cx} {a : Addr} {oe : Obj} {cls : Value} {d : Option Addr} {e : Expr} {te : TE} {pos : Pos} {n : Str} (hp : (a, oe) ∈ X.pn) (hz : Zc cls d oe) (hf : ∃ vs, oe.data = .fields vs) (he : PE X e te)
    (hb : attributeBase e n X.env (eval e X.env) = eval e X.env := by rfl) : PE X (.Attribute e n pos) (tXp X.K a cls d n te) := by
  refine ⟨fun pins s σ H Q I h => ?_⟩
  refine attr_of hb (thn (he.run pins s σ H _ I h) fun u s1 hh => ?_)
  obtain ⟨x, H1, I1, rx, ex, C, dd, fs, v, ec, T, hno, ed, ea, l, q⟩ := hh
  subst ex
  obtain rfl : u = Value.ref a := rx
  subst ec
  subst ed
  obtain ⟨ha, _⟩ := I1.pin (a, oe) (List.mem_append_left _ hp)
  obtain ⟨vs, hd⟩ := hf
  have hx : ObjOk X.prog X.w H1 s1.heap dd (.xd fs) := I1.hok dd _ ea
  obtain ⟨mA, hns, hr⟩ := hx
  obtain ⟨od, ho, hl⟩ := lookIn_ns hns
  obtain ⟨u, hu, ru⟩ := RelO.some_of (v := v) (o := mA n) (by rw [← l]; exact hr n)
  have J : PySem.W.InstAt s1.heap a oe C (some od) := ⟨ha, hz.1, by unfold PySem.W.notCls; rw [hd] <;> rfl, by rw [hz.2]; exact ho⟩
  exact HandSPX.exc_get I1.kIn J T.ga T.gg T.exC (PySem.W.findObj_own T.hdC hno rfl (by rw [hl, hu])) (handed_of ru) ⟨v, H1, I1.tok _, ru, q⟩
/-! ### defs called where an error is handled: p is the error's pin -/
structure FnP (P : Program) (w : World) (K : PySem.W.Frag) (mg : Str → Option Value) (base : Heap) (p : Addr × Obj) (k : Nat) (f : Addr) (fd : FuncData) (ps : List Str) (sp : Sp) : Prop where
  len : ∀ vs H Q E, sp vs H Q E → vs.length = ps.length
  run : ∀ (A : Around) (outer : List Env) (s : Shared) (H : Hp) (args : Args) (us : List Value) (vs : List V) (Q : VK) (E : XK), RoomH k A → PinOk outer H s p → Env0 P w K mg base A outer s H → BindsTo s fd args (ps.zip us) → Vals vs us → sp vs H Q E →
    codeAny (model P w) A (.call (.ref f) args) (CR CX0 outer P w H s Q E) s
section
variable {P : Program} {w : World} {K : PySem.W.Frag} {mg : Str → Option Value} {base : Heap} {p : Addr × Obj}
theorem fnP_of {k : Nat} {f : Addr} {x qual : Str} {st : Stmt} {fd : FuncData} {N ps : List Str} {sp : Sp} (F : Fun K x qual st f fd) (S : FnScope N ps (defScope st)) (len : ∀ vs H Q E, sp vs H Q E → vs.length = ps.length)
    (hbody : ∀ (cdv : Value) (A : Around) (outer : List Env) (s : Shared) (H : Hp) (vs : List V) (Q : VK) (E : XK), RoomH k (A.deeper (envOfC qual (defScope st) s.heap.objs.size f cdv)) → sp vs H Q E →
      ∃ t, PSs (cxH CX0 P w K mg base N qual (defScope st) f cdv A outer s H E p).nox (defBody st) t ∧ t { nx := fun _ H' => Q .non H', rt := Q } (L2.start N vs) H) : FnP P w K mg base p (k + 1) f fd ps sp := by
  obtain ⟨oc, od, kV, doc, pm, an, cdv, ct, osl, rfl, lk, hcd⟩ := F.ex
  refine ⟨len, fun A outer s H args us vs Q E hr hpin e0 hb r hsp => ?_⟩
  have hl := len _ _ _ _ hsp
  have KX : K.In s.heap := e0.mod.kin.keeps fun b o e => (e0.bs b o e).1
  have lim : s.heap.NoLimit := e0.mod.nolimit.keeps fun b o e => (e0.bs b o e).1
  have pars : ∀ y ∈ ps.zip us, (defScope st).names.lookup y.1 = some .local ∨ ((defScope st).names.lookup y.1 = some .cell ∧ ((cellsFrom (s.heap.objs.size + 1) (defScope st).names []).lookup y.1).isSome = true) := by
    rintro ⟨n, v⟩ hy
    exact (S.par n (List.of_mem_zip hy).1).imp id fun q => ⟨q, PySem.W.cellsFrom_some _ _ _ (.inl q)⟩
  refine codeAny_call_function hr.depth (KX _ _ lk) rfl S.co S.gen rfl (PySem.W.codeRec_of KX hcd) (hb _ _ _ _ ?_)
  refine wpAny_newFunctionEnv_cells S.kind pars fun env he s1 x => ?_
  subst he
  refine ⟨lim.keeps x.toInCall.keep, codeAny_func ?_⟩
  obtain ⟨t, ht, hq⟩ := hbody cdv A outer s H vs Q E (hr.deeper _) hsp
  have I := inv_startH (CX := CX0) (E := E) S hpin e0 hl r x
  refine wpAny_mono (ht.nox.run [] s1 (L2.start N vs) H _ I hq) (fun fl s' hs => ?_) fun e s' hs => hs
  cases fl with
  | ret u => obtain ⟨v, σ', H', J, rv, q⟩ := hs; exact ⟨v, H', J.os, J.bare, J.base, J.hok, rv, q⟩
  | next => obtain ⟨σ', H', J, q⟩ := hs; exact ⟨V.non, H', J.os, J.bare, J.base, J.hok, (show RelV V.non Value.none from rfl), q⟩
  | brk => obtain ⟨_, _, _, q⟩ := hs; exact False.elim q
  | cont => obtain ⟨_, _, _, q⟩ := hs; exact False.elim q
end
section
variable {X : Cx} {k : Nat} {f : Addr} {fd : FuncData} {ps : List Str} {sp : Sp} {x : Str} {q pos : Pos} {e : Expr} {es : List Expr} {t : TA} {p : Addr × Obj}
theorem pe_callP (F : FnP X.prog X.w X.K X.mg X.base p k f fd ps sp) (hr : RoomH k X.A) (hp : p ∈ X.pn) (hg : Gl X x) (hm : X.mg x = some (.ref f)) (hk : PySem.W.keepIn X.K (.ref f) = true) (hb : L2.Binds X.K fd ps [])
    (ha : PA X (e :: es) t) (hdb : (x == ("__debug__" : Str)) = false := by decide) (he : starEach (e :: es) X.env = (false, eval e X.env) :: starEach es X.env := by rfl) (hpl : (backTo pos (starEach es X.env)).any (·.1) = false := by rfl) :
    PE X (.Call (.Name x q) (e :: es) [] pos) (tCall sp [] E0 t) := by
  refine ⟨fun pins s σ H Q I h => ?_⟩
  refine wpAny_Call_Name_kw (ld_glob I hg hm ?_ hdb)
  refine PySem.W.callWith_K (h₀ := X.base) I.ok.mod.kin hk (thn (ha.run pos pins s σ H _ I h) fun us s1 ⟨vs, H1, I1, r, q1⟩ => ⟨I1.kIn, ?_⟩) he hpl
  have q1 : sp vs H1 Q E0 := by
    have z : sp (vs ++ []) H1 Q E0 := q1
    rwa [List.append_nil] at z
  have hl : us.length = ps.length := by rw [← r.length]; exact F.len _ _ _ _ q1
  have b := hb s1 us I1.kIn (by rw [List.append_nil]; exact hl)
  rw [List.append_nil] at b
  have P1 := I1.pin p (List.mem_append_left _ hp)
  have hpin : PinOk X.stack H1 s1 p := ⟨P1.1, P1.2.1, fun hm => (List.mem_cons.mp (I1.stkSub p.1 hm)).elim P1.2.2.1 P1.2.2.2.1, P1.2.2.2.2⟩
  refine wpAny_call (codeAny_mono (F.run X.A X.stack s1 H1 ⟨us, []⟩ us vs Q E0 hr hpin I1.env0 b r q1) fun r' s' hq => ?_)
  cases r' with
  | error e => exact False.elim hq
  | ok fl =>
    cases fl with
    | ret u => exact I1.after hq
    | next => exact False.elim hq
    | brk => exact False.elim hq
    | cont => exact False.elim hq
end
end K0
set_option Elab.async false
set_option linter.all false
set_option maxRecDepth 100000
set_option maxHeartbeats 4000000
namespace K0
open PySem PySem.Spec PyProof.Rows L2 L2H
abbrev sClasses : Stmt := topS 18
abbrev sMore : Stmt := topS 19
abbrev sFields : Stmt := topS 22
theorem scClasses : FnScope ["e", "found"] ["e"] (defScope sClasses) := ⟨rfl, rfl, rfl, by decide +kernel, rfl, by decide +kernel, by decide +kernel⟩
theorem scMore : FnScope ["e", "found"] ["e"] (defScope sMore) := ⟨rfl, rfl, rfl, by decide +kernel, rfl, by decide +kernel, by decide +kernel⟩
theorem scFields : FnScope ["kind", "e"] ["kind", "e"] (defScope sFields) := ⟨rfl, rfl, rfl, by decide +kernel, rfl, by decide +kernel, by decide +kernel⟩
def nm (j : Nat) : Str := match j with
  | 0 => "BadText"
  | 1 => "BadName"
  | 2 => "BadNumber"
  | 3 => "BadRow"
  | 4 => "NoName"
  | 5 => "TakenName"
  | 6 => "Unlike"
  | 7 => "TooMany"
  | 8 => "NotKept"
  | 9 => "NothingToUndo"
  | _ => "NothingToRedo"
def vals (j : Nat) (v1 v2 v3 : V) : List V := match j with
  | 0 => [v1, v2]
  | 1 => [v1]
  | 2 => [v1, v2]
  | 3 => [v1, v2]
  | 4 => [v1]
  | 5 => [v1]
  | 6 => [v1]
  | 7 => [v1, v2, v3]
  | 8 => [v1, v2]
  | 9 => []
  | _ => []
def acc (lo i j : Nat) : List V := if lo ≤ j ∧ j < i then [.str (nm j)] else []
theorem acc_0 {lo j : Nat} : acc lo lo j = [] := if_neg (by omega)
theorem acc_len {lo i j : Nat} : (acc lo i j).length ≤ 1 := by
  unfold acc
  split
  · exact Nat.le_refl 1
  · exact Nat.zero_le 1
/-- what is known of the classes, for isinstance and fields -/
structure KC (K : PySem.W.Frag) (mg : Str → Option Value) (cA : Nat → Addr) : Prop where
  iso : ∀ j i, j < 11 → i < 11 → PySem.W.kitOne K (.ref (cA j)) (.ref (cA i)) = some (decide (j = i))
  ex : ∀ j, j < 11 → ExcC K (cA j)
  xf : ∀ j, j < 11 → XfC K (cA j)
  ve : ∀ j, j < 11 → PySem.W.kitOne K (.ref (cA j)) (.type "ValueError") = some true
  isi : mg "isinstance" = none
  g0 : mg "BadText" = some (.ref (cA 0))
  g1 : mg "BadName" = some (.ref (cA 1))
  g2 : mg "BadNumber" = some (.ref (cA 2))
  g3 : mg "BadRow" = some (.ref (cA 3))
  g4 : mg "NoName" = some (.ref (cA 4))
  g5 : mg "TakenName" = some (.ref (cA 5))
  g6 : mg "Unlike" = some (.ref (cA 6))
  g7 : mg "TooMany" = some (.ref (cA 7))
  g8 : mg "NotKept" = some (.ref (cA 8))
  g9 : mg "NothingToUndo" = some (.ref (cA 9))
  g10 : mg "NothingToRedo" = some (.ref (cA 10))
  n0_line : PySem.W.findIn K (.ref (cA 0)) "line" = some none
  n0_word : PySem.W.findIn K (.ref (cA 0)) "word" = some none
  n1_name : PySem.W.findIn K (.ref (cA 1)) "name" = some none
  n2_what : PySem.W.findIn K (.ref (cA 2)) "what" = some none
  n2_number : PySem.W.findIn K (.ref (cA 2)) "number" = some none
  n3_what : PySem.W.findIn K (.ref (cA 3)) "what" = some none
  n3_row : PySem.W.findIn K (.ref (cA 3)) "row" = some none
  n4_name : PySem.W.findIn K (.ref (cA 4)) "name" = some none
  n5_name : PySem.W.findIn K (.ref (cA 5)) "name" = some none
  n6_what : PySem.W.findIn K (.ref (cA 6)) "what" = some none
  n7_what : PySem.W.findIn K (.ref (cA 7)) "what" = some none
  n7_many : PySem.W.findIn K (.ref (cA 7)) "many" = some none
  n7_limit : PySem.W.findIn K (.ref (cA 7)) "limit" = some none
  n8_promise : PySem.W.findIn K (.ref (cA 8)) "promise" = some none
  n8_witness : PySem.W.findIn K (.ref (cA 8)) "witness" = some none
section
variable {D : Ends} {σ : L2.St} {H : Hp} {tz : TS} {K : PySem.W.Frag} {mg : Str → Option Value} {cA : Nat → Addr} {a l : Addr} {d : Option Addr}
theorem val_isP {Do : Addr} {c : V} {cv cls : Value} {b : Bool} {te tc : TE} (hv : Val te σ H (.ref a)) (hc : Val tc σ H c) (ec : cls = .ref Do) (C : ExcC K Do) (r : ∀ u, RelV c u → u = cv) (e : PySem.W.kitOne K (.ref Do) cv = some b) (hx : XdAt H d) :
    Val (tCB (rIsP K a cls d) (tCons te (tCons tc tNil))) σ H (.bl b) := fun Q q => hv _ (hc _ ⟨Do, c, cv, b, ec, C, rfl, r, e, hx, q⟩)
/-- if isinstance(e, C_i): found.append(name of i) -/
theorem st_is {lo i j : Nat} {cls : Value} (T : KC K mg cA) (hj : j < 11) (hi : i < 11) (hlo : lo ≤ i) (h0 : σ[0]? = some (some (.ref a))) (h1 : σ[1]? = some (some (.ref l))) (ec : cls = .ref (cA j)) (hx : XdAt H d) (hl : H l = none)
    (q : tz D σ (upd H l (.lst (acc lo (i + 1) j)))) :
    tSeq (tIfS (tB (tCB (rIsP K a cls d) (tCons (tVar 0) (tCons (tC (.ref (cA i))) tNil)))) (tDrop (tBM K "list" rAppend (tVar 1) (tCons (tC (.str (nm i))) tNil))) tNext) tz D σ (upd H l (.lst (acc lo i j))) := by
  have hxl : XdAt (upd H l (.lst (acc lo i j))) d := hx.same fun b o e => by rw [upd_ne (ne_of_none e hl)]; exact e
  have hv : Val (tCB (rIsP K a cls d) (tCons (tVar 0) (tCons (tC (.ref (cA i))) tNil))) σ (upd H l (.lst (acc lo i j))) (.bl (decide (j = i))) := val_isP (val_var h0) val_c ec (T.ex j hj) (fun u h => h) (T.iso j i hj hi) hxl
  by_cases e : j = i
  · rw [decide_eq_true e] at hv
    refine st_seq (st_yes (ans_val hv) ?_)
    refine ⟨_, h1, .inl ⟨rfl, _, SqL.of upd_same⟩, ?_⟩
    refine ⟨l, _, _, rfl, rfl, upd_same, Nat.lt_of_le_of_lt acc_len (by decide), ?_⟩
    rw [upd_upd]
    have ea : acc lo i j ++ [V.str (nm i)] = acc lo (i + 1) j := by
      unfold acc
      rw [if_neg (by omega), if_pos (by omega), e]
      rfl
    rw [ea]
    exact q
  · rw [decide_eq_false e] at hv
    refine st_seq (st_no (ans_val hv) (st_next ?_))
    have ea : acc lo i j = acc lo (i + 1) j := by
      unfold acc
      by_cases h : lo ≤ j ∧ j < i
      · rw [if_pos h, if_pos (by omega)]
      · rw [if_neg h, if_neg (by omega)]
    dsimp only
    rw [ea]
    exact q
end
/-- the names of the classes from lo to hi that the error is of -/
def spNames (cA : Nat → Addr) (a : Addr) (cls : Value) (d : Option Addr) (lo : Nat) : Sp := fun vs H Q _ => ∃ j, j < 11 ∧ vs = [.ref a] ∧ cls = .ref (cA j) ∧ XdAt H d ∧ ∀ l H', Same H H' → H l = none → H' l = some (.lst (acc lo 11 j)) → Q (.ref l) H'
section
variable {P : Program} {w : World} {K : PySem.W.Frag} {mg : Str → Option Value} {base : Heap} {f fM : Addr} {fd fdM : FuncData} {cA : Nat → Addr} {a : Addr} {oe : Obj} {cls : Value} {d : Option Addr}
theorem ok_more (F : Fun K "_law_more_kinds" "_law_more_kinds" sMore f fd) (T : KC K mg cA) (hz : Zc cls d oe) (hf : ∃ vs, oe.data = .fields vs) : FnP P w K mg base (a, oe) 1 f fd ["e"] (spNames cA a cls d 6) := by
  refine fnP_of F scMore (fun vs H Q E h => ?_) (fun cdv A outer s H vs Q E hr h => ⟨_, pss_cons (ps_set (i := 1) scMore.nd rfl (.inl rfl) (pe_lst pa_nil)) (pss_cons (ps_if (pt_val (pe_callB (call_isP (a := a) (d := d) List.mem_cons_self hz hf) rfl T.isi (by decide +kernel) (pa_cons (pv 0) (pa_cons (pe_glob (v := .ref (cA 6)) rfl T.g6 rfl) pa_nil)))) (pss_one (ps_expr (pe_bm PySem.F.plainAttrs_list PySem.F.slot_list_append PySem.F.type_list_append mt_append (pv 1) (pa_cons pe_str pa_nil)))) pss_nil) (pss_cons (ps_if (pt_val (pe_callB (call_isP (a := a) (d := d) List.mem_cons_self hz hf) rfl T.isi (by decide +kernel) (pa_cons (pv 0) (pa_cons (pe_glob (v := .ref (cA 7)) rfl T.g7 rfl) pa_nil)))) (pss_one (ps_expr (pe_bm PySem.F.plainAttrs_list PySem.F.slot_list_append PySem.F.type_list_append mt_append (pv 1) (pa_cons pe_str pa_nil)))) pss_nil) (pss_cons (ps_if (pt_val (pe_callB (call_isP (a := a) (d := d) List.mem_cons_self hz hf) rfl T.isi (by decide +kernel) (pa_cons (pv 0) (pa_cons (pe_glob (v := .ref (cA 8)) rfl T.g8 rfl) pa_nil)))) (pss_one (ps_expr (pe_bm PySem.F.plainAttrs_list PySem.F.slot_list_append PySem.F.type_list_append mt_append (pv 1) (pa_cons pe_str pa_nil)))) pss_nil) (pss_cons (ps_if (pt_val (pe_callB (call_isP (a := a) (d := d) List.mem_cons_self hz hf) rfl T.isi (by decide +kernel) (pa_cons (pv 0) (pa_cons (pe_glob (v := .ref (cA 9)) rfl T.g9 rfl) pa_nil)))) (pss_one (ps_expr (pe_bm PySem.F.plainAttrs_list PySem.F.slot_list_append PySem.F.type_list_append mt_append (pv 1) (pa_cons pe_str pa_nil)))) pss_nil) (pss_cons (ps_if (pt_val (pe_callB (call_isP (a := a) (d := d) List.mem_cons_self hz hf) rfl T.isi (by decide +kernel) (pa_cons (pv 0) (pa_cons (pe_glob (v := .ref (cA 10)) rfl T.g10 rfl) pa_nil)))) (pss_one (ps_expr (pe_bm PySem.F.plainAttrs_list PySem.F.slot_list_append PySem.F.type_list_append mt_append (pv 1) (pa_cons pe_str pa_nil)))) pss_nil) (pss_one (ps_ret (pv 1)))))))), ?_⟩)
  · obtain ⟨j, _, rfl, _⟩ := h
    rfl
  obtain ⟨j, hj, rfl, ec, hx, hQ⟩ := h
  refine ⟨Nat.zero_le _, fun l hl => ?_⟩
  rw [show upd H l (.lst []) = upd H l (.lst (acc 6 6 j)) by rw [acc_0]]
  refine st_is (i := 6) T hj (by decide) (by decide) rfl rfl ec hx hl ?_
  refine st_is (i := 7) T hj (by decide) (by decide) rfl rfl ec hx hl ?_
  refine st_is (i := 8) T hj (by decide) (by decide) rfl rfl ec hx hl ?_
  refine st_is (i := 9) T hj (by decide) (by decide) rfl rfl ec hx hl ?_
  refine st_is (i := 10) T hj (by decide) (by decide) rfl rfl ec hx hl ?_
  refine st_ret (val_var rfl) (hQ l _ (fun b o e => by rw [upd_ne (ne_of_none e hl)]; exact e) hl upd_same)
theorem ok_classes (F : Fun K "_law_classes" "_law_classes" sClasses f fd) (FM : Fun K "_law_more_kinds" "_law_more_kinds" sMore fM fdM) (bM : L2.Binds K fdM ["e"] []) (gM : mg "_law_more_kinds" = some (.ref fM)) (T : KC K mg cA) (hz : Zc cls d oe) (hf : ∃ vs, oe.data = .fields vs) :
    FnP P w K mg base (a, oe) 2 f fd ["e"] (spNames cA a cls d 0) := by
  refine fnP_of F scClasses (fun vs H Q E h => ?_) (fun cdv A outer s H vs Q E hr h => ⟨_, pss_cons (ps_set (i := 1) scClasses.nd rfl (.inl rfl) (pe_lst pa_nil)) (pss_cons (ps_if (pt_val (pe_callB (call_isP (a := a) (d := d) List.mem_cons_self hz hf) rfl T.isi (by decide +kernel) (pa_cons (pv 0) (pa_cons (pe_glob (v := .ref (cA 0)) rfl T.g0 rfl) pa_nil)))) (pss_one (ps_expr (pe_bm PySem.F.plainAttrs_list PySem.F.slot_list_append PySem.F.type_list_append mt_append (pv 1) (pa_cons pe_str pa_nil)))) pss_nil) (pss_cons (ps_if (pt_val (pe_callB (call_isP (a := a) (d := d) List.mem_cons_self hz hf) rfl T.isi (by decide +kernel) (pa_cons (pv 0) (pa_cons (pe_glob (v := .ref (cA 1)) rfl T.g1 rfl) pa_nil)))) (pss_one (ps_expr (pe_bm PySem.F.plainAttrs_list PySem.F.slot_list_append PySem.F.type_list_append mt_append (pv 1) (pa_cons pe_str pa_nil)))) pss_nil) (pss_cons (ps_if (pt_val (pe_callB (call_isP (a := a) (d := d) List.mem_cons_self hz hf) rfl T.isi (by decide +kernel) (pa_cons (pv 0) (pa_cons (pe_glob (v := .ref (cA 2)) rfl T.g2 rfl) pa_nil)))) (pss_one (ps_expr (pe_bm PySem.F.plainAttrs_list PySem.F.slot_list_append PySem.F.type_list_append mt_append (pv 1) (pa_cons pe_str pa_nil)))) pss_nil) (pss_cons (ps_if (pt_val (pe_callB (call_isP (a := a) (d := d) List.mem_cons_self hz hf) rfl T.isi (by decide +kernel) (pa_cons (pv 0) (pa_cons (pe_glob (v := .ref (cA 3)) rfl T.g3 rfl) pa_nil)))) (pss_one (ps_expr (pe_bm PySem.F.plainAttrs_list PySem.F.slot_list_append PySem.F.type_list_append mt_append (pv 1) (pa_cons pe_str pa_nil)))) pss_nil) (pss_cons (ps_if (pt_val (pe_callB (call_isP (a := a) (d := d) List.mem_cons_self hz hf) rfl T.isi (by decide +kernel) (pa_cons (pv 0) (pa_cons (pe_glob (v := .ref (cA 4)) rfl T.g4 rfl) pa_nil)))) (pss_one (ps_expr (pe_bm PySem.F.plainAttrs_list PySem.F.slot_list_append PySem.F.type_list_append mt_append (pv 1) (pa_cons pe_str pa_nil)))) pss_nil) (pss_cons (ps_if (pt_val (pe_callB (call_isP (a := a) (d := d) List.mem_cons_self hz hf) rfl T.isi (by decide +kernel) (pa_cons (pv 0) (pa_cons (pe_glob (v := .ref (cA 5)) rfl T.g5 rfl) pa_nil)))) (pss_one (ps_expr (pe_bm PySem.F.plainAttrs_list PySem.F.slot_list_append PySem.F.type_list_append mt_append (pv 1) (pa_cons pe_str pa_nil)))) pss_nil) (pss_one (ps_ret (pe_op op_cat (pv 1) (pe_callP (ok_more (a := a) FM T hz hf) hr List.mem_cons_self rfl gM FM.kp bM (pa_cons (pv 0) pa_nil))))))))))), ?_⟩)
  · obtain ⟨j, _, rfl, _⟩ := h
    rfl
  obtain ⟨j, hj, rfl, ec, hx, hQ⟩ := h
  refine ⟨Nat.zero_le _, fun l hl => ?_⟩
  rw [show upd H l (.lst []) = upd H l (.lst (acc 0 0 j)) by rw [acc_0]]
  refine st_is (i := 0) T hj (by decide) (by decide) rfl rfl ec hx hl ?_
  refine st_is (i := 1) T hj (by decide) (by decide) rfl rfl ec hx hl ?_
  refine st_is (i := 2) T hj (by decide) (by decide) rfl rfl ec hx hl ?_
  refine st_is (i := 3) T hj (by decide) (by decide) rfl rfl ec hx hl ?_
  refine st_is (i := 4) T hj (by decide) (by decide) rfl rfl ec hx hl ?_
  refine st_is (i := 5) T hj (by decide) (by decide) rfl rfl ec hx hl ?_
  have s1 : Same H (upd H l (.lst (acc 0 6 j))) := fun b o e => by rw [upd_ne (ne_of_none e hl)]; exact e
  refine ⟨_, rfl, _, rfl, j, hj, rfl, ec, hx.same s1, fun m H' s2 hm em => ?_⟩
  refine ⟨l, m, _, _, rfl, rfl, s2 _ _ upd_same, em, Nat.le_trans (Nat.add_le_add acc_len acc_len) (by decide), fun p hp => ?_⟩
  have ea : acc 0 6 j ++ acc 6 11 j = acc 0 11 j := by
    unfold acc
    by_cases h : j < 6
    · rw [if_pos (by omega), if_neg (by omega), if_pos (by omega)]
      rfl
    · rw [if_neg (by omega), if_pos (by omega), if_pos (by omega)]
      rfl
  rw [ea]
  refine hQ p _ (fun b o e => ?_) ?_ upd_same
  · have z := s2 _ _ (s1 _ _ e)
    rw [upd_ne (ne_of_none z hp)]
    exact z
  · exact (s1.trans s2).free hp
end
end K0
set_option Elab.async false
set_option linter.all false
set_option maxRecDepth 100000
set_option maxHeartbeats 4000000
namespace K0
open PySem PySem.Spec PyProof.Rows L2 L2H
def FdAt (H : Hp) (d : Option Addr) (fs : List (Str × V)) : Prop := (fs = [] ∧ d = none) ∨ ∃ dd, d = some dd ∧ H dd = some (.xd fs)
theorem FdAt.same {H H' : Hp} {d : Option Addr} {fs : List (Str × V)} (h : FdAt H d fs) (e : Same H H') : FdAt H' d fs := by
  rcases h with h | ⟨dd, h1, h2⟩
  · exact .inl h
  · exact .inr ⟨dd, h1, e _ _ h2⟩
theorem FdAt.xd {H : Hp} {d : Option Addr} {fs : List (Str × V)} (h : FdAt H d fs) : XdAt H d := by
  rcases h with h | ⟨dd, h1, h2⟩
  · exact .inl h.2
  · exact .inr ⟨dd, fs, h1, h2⟩
theorem FdAt.get {H : Hp} {d : Option Addr} {q : Str × V} {r : List (Str × V)} (h : FdAt H d (q :: r)) : ∃ dd, d = some dd ∧ H dd = some (.xd (q :: r)) := by
  rcases h with h | h
  · exact nomatch h.1
  · exact h
section
variable {D : Ends} {σ : L2.St} {H : Hp} {t1 t2 : TS} {K : PySem.W.Frag} {a : Addr} {d : Option Addr}
def ValA (t : TA) (σ : L2.St) (H : Hp) (vs : List V) : Prop := ∀ Q : List V → Hp → Prop, Q vs H → t σ H Q
theorem va_nil : ValA tNil σ H [] := fun _ q => q
theorem va_cons {te : TE} {tr : TA} {v : V} {vs : List V} (h : Val te σ H v) (hr : ValA tr σ H vs) : ValA (tCons te tr) σ H (v :: vs) := fun _ q => h _ (hr _ q)
theorem st_retL {t : TA} {vs : List V} (h : ValA t σ H vs) (hl : vs.length ≤ sizeLine) (q : ∀ l, H l = none → D.rt (.ref l) (upd H l (.lst vs))) : tRet (tLst t) D σ H := h _ ⟨hl, q⟩
/-- if kind in (n, ..) -/
theorem st_in {ns : List Int} {tv : TA} {j : Int} {b : Bool} (h0 : σ[0]? = some (some (.int j))) (htv : ∀ (H : Hp) (Q : List V → Hp → Prop), Q (ns.map V.int) H → tv σ H Q) (hn : ns.length ≤ 3) (hb : inV (.int j) (ns.map V.int) = b)
    (q : ∀ H', Same H H' → (if b = true then t1 D σ H' else t2 D σ H')) : tIfS (tTest (tOp (rIn K false) (tVar 0) (tTup tv))) t1 t2 D σ H := by
  refine ⟨_, h0, htv _ _ ⟨?_, fun p hp => ⟨p, ns.map V.int, rfl, .inr (SqT.of upd_same), rfl, ?_, _, rfl, ?_⟩⟩⟩
  · rw [List.length_map]
    exact Nat.le_trans hn (by decide)
  · rw [List.all_map]
    exact List.all_eq_true.mpr fun _ _ => rfl
  · have z := q (upd H p (.tup (ns.map V.int))) fun b o e => by rw [upd_ne (ne_of_none e hp)]; exact e
    rw [← hb] at z
    exact z
theorem val_xp {C dd : Addr} {cls : Value} {f : Str} {fs : List (Str × V)} {v : V} (h1 : σ[1]? = some (some (.ref a))) (ec : cls = .ref C) (T : XfC K C) (n : PySem.W.findIn K (.ref C) f = some none) (ed : d = some dd) (e : H dd = some (.xd fs)) (l : fs.lookup f = some v) :
    Val (tXp K a cls d f (tVar 1)) σ H v := fun Q q => ⟨_, h1, rfl, C, dd, fs, v, ec, T, n, ed, e, l, q⟩
end
def spFields (cA : Nat → Addr) (a : Addr) (cls : Value) (d : Option Addr) : Sp := fun vs H Q _ => ∃ (j : Nat) (v1 v2 v3 : V), j < 11 ∧ vs = [.int j, .ref a] ∧ cls = .ref (cA j) ∧ FdAt H d (fsOf j v1 v2 v3) ∧ ∀ l H', Same H H' → H l = none → H' l = some (.lst (vals j v1 v2 v3)) → Q (.ref l) H'
section
variable {P : Program} {w : World} {K : PySem.W.Frag} {mg : Str → Option Value} {base : Heap} {f fM : Addr} {fd fdM : FuncData} {cA : Nat → Addr} {a : Addr} {oe : Obj} {cls : Value} {d : Option Addr}
theorem ok_fields (F : Fun K "_law_fields" "_law_fields" sFields f fd) (T : KC K mg cA) (hz : Zc cls d oe) (hf : ∃ vs, oe.data = .fields vs) : FnP P w K mg base (a, oe) 1 f fd ["kind", "e"] (spFields cA a cls d) := by
  refine fnP_of F scFields (fun vs H Q E h => ?_) (fun cdv A outer s H vs Q E hr h => ⟨_, pss_cons (ps_if (pt_cmpR op_in_seq (pv 0) (pe_tup (pa_cons pe_int pa_nil)) (by with_unfolding_all rfl)) (pss_one (ps_ret (pe_lst (pa_cons (pe_xp (a := a) (d := d) List.mem_cons_self hz hf (pv 1)) (pa_cons (pe_xp (a := a) (d := d) List.mem_cons_self hz hf (pv 1)) pa_nil))))) pss_nil) (pss_cons (ps_if (pt_cmpR op_in_seq (pv 0) (pe_tup (pa_cons pe_int (pa_cons pe_int (pa_cons pe_int pa_nil)))) (by with_unfolding_all rfl)) (pss_one (ps_ret (pe_lst (pa_cons (pe_xp (a := a) (d := d) List.mem_cons_self hz hf (pv 1)) pa_nil)))) pss_nil) (pss_cons (ps_if (pt_cmpR op_in_seq (pv 0) (pe_tup (pa_cons pe_int pa_nil)) (by with_unfolding_all rfl)) (pss_one (ps_ret (pe_lst (pa_cons (pe_xp (a := a) (d := d) List.mem_cons_self hz hf (pv 1)) (pa_cons (pe_xp (a := a) (d := d) List.mem_cons_self hz hf (pv 1)) pa_nil))))) pss_nil) (pss_cons (ps_if (pt_cmpR op_in_seq (pv 0) (pe_tup (pa_cons pe_int pa_nil)) (by with_unfolding_all rfl)) (pss_one (ps_ret (pe_lst (pa_cons (pe_xp (a := a) (d := d) List.mem_cons_self hz hf (pv 1)) (pa_cons (pe_xp (a := a) (d := d) List.mem_cons_self hz hf (pv 1)) pa_nil))))) pss_nil) (pss_cons (ps_if (pt_cmpR op_in_seq (pv 0) (pe_tup (pa_cons pe_int pa_nil)) (by with_unfolding_all rfl)) (pss_one (ps_ret (pe_lst (pa_cons (pe_xp (a := a) (d := d) List.mem_cons_self hz hf (pv 1)) pa_nil)))) pss_nil) (pss_cons (ps_if (pt_cmpR op_in_seq (pv 0) (pe_tup (pa_cons pe_int pa_nil)) (by with_unfolding_all rfl)) (pss_one (ps_ret (pe_lst (pa_cons (pe_xp (a := a) (d := d) List.mem_cons_self hz hf (pv 1)) (pa_cons (pe_xp (a := a) (d := d) List.mem_cons_self hz hf (pv 1)) (pa_cons (pe_xp (a := a) (d := d) List.mem_cons_self hz hf (pv 1)) pa_nil)))))) pss_nil) (pss_cons (ps_if (pt_cmpR op_in_seq (pv 0) (pe_tup (pa_cons pe_int pa_nil)) (by with_unfolding_all rfl)) (pss_one (ps_ret (pe_lst (pa_cons (pe_xp (a := a) (d := d) List.mem_cons_self hz hf (pv 1)) (pa_cons (pe_xp (a := a) (d := d) List.mem_cons_self hz hf (pv 1)) pa_nil))))) pss_nil) (pss_one (ps_ret (pe_lst pa_nil))))))))), ?_⟩)
  · obtain ⟨j, v1, v2, v3, _, rfl, _⟩ := h
    rfl
  obtain ⟨j, v1, v2, v3, hj, rfl, ec, hx, hQ⟩ := h
  match j, hj with
  | 0, _ =>
    refine st_seq (st_in (j := 0) (ns := [0]) (b := true) rfl (fun _ _ q => q) (by decide) (by decide) fun H0 s0 => ?_)
    have z0 : Same H H0 := (Same.refl H).trans s0
    refine iteT ?_
    obtain ⟨dd, ed, ea⟩ := (hx.same z0).get
    refine st_retL (va_cons (val_xp rfl ec (T.xf 0 (by decide)) T.n0_line ed ea rfl) (va_cons (val_xp rfl ec (T.xf 0 (by decide)) T.n0_word ed ea rfl) va_nil)) (show 2 ≤ sizeLine by decide) fun l hl => ?_
    exact hQ l _ (fun b o e => by have y := z0 _ _ e; rw [upd_ne (ne_of_none y hl)]; exact y) (z0.free hl) upd_same
  | 1, _ =>
    refine st_seq (st_in (j := 1) (ns := [0]) (b := false) rfl (fun _ _ q => q) (by decide) (by decide) fun H0 s0 => ?_)
    have z0 : Same H H0 := (Same.refl H).trans s0
    refine iteF (st_next ?_)
    dsimp only
    refine st_seq (st_in (j := 1) (ns := [1, 4, 5]) (b := true) rfl (fun _ _ q => q) (by decide) (by decide) fun H1 s1 => ?_)
    have z1 : Same H H1 := z0.trans s1
    refine iteT ?_
    obtain ⟨dd, ed, ea⟩ := (hx.same z1).get
    refine st_retL (va_cons (val_xp rfl ec (T.xf 1 (by decide)) T.n1_name ed ea rfl) va_nil) (show 1 ≤ sizeLine by decide) fun l hl => ?_
    exact hQ l _ (fun b o e => by have y := z1 _ _ e; rw [upd_ne (ne_of_none y hl)]; exact y) (z1.free hl) upd_same
  | 2, _ =>
    refine st_seq (st_in (j := 2) (ns := [0]) (b := false) rfl (fun _ _ q => q) (by decide) (by decide) fun H0 s0 => ?_)
    have z0 : Same H H0 := (Same.refl H).trans s0
    refine iteF (st_next ?_)
    dsimp only
    refine st_seq (st_in (j := 2) (ns := [1, 4, 5]) (b := false) rfl (fun _ _ q => q) (by decide) (by decide) fun H1 s1 => ?_)
    have z1 : Same H H1 := z0.trans s1
    refine iteF (st_next ?_)
    dsimp only
    refine st_seq (st_in (j := 2) (ns := [2]) (b := true) rfl (fun _ _ q => q) (by decide) (by decide) fun H2 s2 => ?_)
    have z2 : Same H H2 := z1.trans s2
    refine iteT ?_
    obtain ⟨dd, ed, ea⟩ := (hx.same z2).get
    refine st_retL (va_cons (val_xp rfl ec (T.xf 2 (by decide)) T.n2_what ed ea rfl) (va_cons (val_xp rfl ec (T.xf 2 (by decide)) T.n2_number ed ea rfl) va_nil)) (show 2 ≤ sizeLine by decide) fun l hl => ?_
    exact hQ l _ (fun b o e => by have y := z2 _ _ e; rw [upd_ne (ne_of_none y hl)]; exact y) (z2.free hl) upd_same
  | 3, _ =>
    refine st_seq (st_in (j := 3) (ns := [0]) (b := false) rfl (fun _ _ q => q) (by decide) (by decide) fun H0 s0 => ?_)
    have z0 : Same H H0 := (Same.refl H).trans s0
    refine iteF (st_next ?_)
    dsimp only
    refine st_seq (st_in (j := 3) (ns := [1, 4, 5]) (b := false) rfl (fun _ _ q => q) (by decide) (by decide) fun H1 s1 => ?_)
    have z1 : Same H H1 := z0.trans s1
    refine iteF (st_next ?_)
    dsimp only
    refine st_seq (st_in (j := 3) (ns := [2]) (b := false) rfl (fun _ _ q => q) (by decide) (by decide) fun H2 s2 => ?_)
    have z2 : Same H H2 := z1.trans s2
    refine iteF (st_next ?_)
    dsimp only
    refine st_seq (st_in (j := 3) (ns := [3]) (b := true) rfl (fun _ _ q => q) (by decide) (by decide) fun H3 s3 => ?_)
    have z3 : Same H H3 := z2.trans s3
    refine iteT ?_
    obtain ⟨dd, ed, ea⟩ := (hx.same z3).get
    refine st_retL (va_cons (val_xp rfl ec (T.xf 3 (by decide)) T.n3_what ed ea rfl) (va_cons (val_xp rfl ec (T.xf 3 (by decide)) T.n3_row ed ea rfl) va_nil)) (show 2 ≤ sizeLine by decide) fun l hl => ?_
    exact hQ l _ (fun b o e => by have y := z3 _ _ e; rw [upd_ne (ne_of_none y hl)]; exact y) (z3.free hl) upd_same
  | 4, _ =>
    refine st_seq (st_in (j := 4) (ns := [0]) (b := false) rfl (fun _ _ q => q) (by decide) (by decide) fun H0 s0 => ?_)
    have z0 : Same H H0 := (Same.refl H).trans s0
    refine iteF (st_next ?_)
    dsimp only
    refine st_seq (st_in (j := 4) (ns := [1, 4, 5]) (b := true) rfl (fun _ _ q => q) (by decide) (by decide) fun H1 s1 => ?_)
    have z1 : Same H H1 := z0.trans s1
    refine iteT ?_
    obtain ⟨dd, ed, ea⟩ := (hx.same z1).get
    refine st_retL (va_cons (val_xp rfl ec (T.xf 4 (by decide)) T.n4_name ed ea rfl) va_nil) (show 1 ≤ sizeLine by decide) fun l hl => ?_
    exact hQ l _ (fun b o e => by have y := z1 _ _ e; rw [upd_ne (ne_of_none y hl)]; exact y) (z1.free hl) upd_same
  | 5, _ =>
    refine st_seq (st_in (j := 5) (ns := [0]) (b := false) rfl (fun _ _ q => q) (by decide) (by decide) fun H0 s0 => ?_)
    have z0 : Same H H0 := (Same.refl H).trans s0
    refine iteF (st_next ?_)
    dsimp only
    refine st_seq (st_in (j := 5) (ns := [1, 4, 5]) (b := true) rfl (fun _ _ q => q) (by decide) (by decide) fun H1 s1 => ?_)
    have z1 : Same H H1 := z0.trans s1
    refine iteT ?_
    obtain ⟨dd, ed, ea⟩ := (hx.same z1).get
    refine st_retL (va_cons (val_xp rfl ec (T.xf 5 (by decide)) T.n5_name ed ea rfl) va_nil) (show 1 ≤ sizeLine by decide) fun l hl => ?_
    exact hQ l _ (fun b o e => by have y := z1 _ _ e; rw [upd_ne (ne_of_none y hl)]; exact y) (z1.free hl) upd_same
  | 6, _ =>
    refine st_seq (st_in (j := 6) (ns := [0]) (b := false) rfl (fun _ _ q => q) (by decide) (by decide) fun H0 s0 => ?_)
    have z0 : Same H H0 := (Same.refl H).trans s0
    refine iteF (st_next ?_)
    dsimp only
    refine st_seq (st_in (j := 6) (ns := [1, 4, 5]) (b := false) rfl (fun _ _ q => q) (by decide) (by decide) fun H1 s1 => ?_)
    have z1 : Same H H1 := z0.trans s1
    refine iteF (st_next ?_)
    dsimp only
    refine st_seq (st_in (j := 6) (ns := [2]) (b := false) rfl (fun _ _ q => q) (by decide) (by decide) fun H2 s2 => ?_)
    have z2 : Same H H2 := z1.trans s2
    refine iteF (st_next ?_)
    dsimp only
    refine st_seq (st_in (j := 6) (ns := [3]) (b := false) rfl (fun _ _ q => q) (by decide) (by decide) fun H3 s3 => ?_)
    have z3 : Same H H3 := z2.trans s3
    refine iteF (st_next ?_)
    dsimp only
    refine st_seq (st_in (j := 6) (ns := [6]) (b := true) rfl (fun _ _ q => q) (by decide) (by decide) fun H4 s4 => ?_)
    have z4 : Same H H4 := z3.trans s4
    refine iteT ?_
    obtain ⟨dd, ed, ea⟩ := (hx.same z4).get
    refine st_retL (va_cons (val_xp rfl ec (T.xf 6 (by decide)) T.n6_what ed ea rfl) va_nil) (show 1 ≤ sizeLine by decide) fun l hl => ?_
    exact hQ l _ (fun b o e => by have y := z4 _ _ e; rw [upd_ne (ne_of_none y hl)]; exact y) (z4.free hl) upd_same
  | 7, _ =>
    refine st_seq (st_in (j := 7) (ns := [0]) (b := false) rfl (fun _ _ q => q) (by decide) (by decide) fun H0 s0 => ?_)
    have z0 : Same H H0 := (Same.refl H).trans s0
    refine iteF (st_next ?_)
    dsimp only
    refine st_seq (st_in (j := 7) (ns := [1, 4, 5]) (b := false) rfl (fun _ _ q => q) (by decide) (by decide) fun H1 s1 => ?_)
    have z1 : Same H H1 := z0.trans s1
    refine iteF (st_next ?_)
    dsimp only
    refine st_seq (st_in (j := 7) (ns := [2]) (b := false) rfl (fun _ _ q => q) (by decide) (by decide) fun H2 s2 => ?_)
    have z2 : Same H H2 := z1.trans s2
    refine iteF (st_next ?_)
    dsimp only
    refine st_seq (st_in (j := 7) (ns := [3]) (b := false) rfl (fun _ _ q => q) (by decide) (by decide) fun H3 s3 => ?_)
    have z3 : Same H H3 := z2.trans s3
    refine iteF (st_next ?_)
    dsimp only
    refine st_seq (st_in (j := 7) (ns := [6]) (b := false) rfl (fun _ _ q => q) (by decide) (by decide) fun H4 s4 => ?_)
    have z4 : Same H H4 := z3.trans s4
    refine iteF (st_next ?_)
    dsimp only
    refine st_seq (st_in (j := 7) (ns := [7]) (b := true) rfl (fun _ _ q => q) (by decide) (by decide) fun H5 s5 => ?_)
    have z5 : Same H H5 := z4.trans s5
    refine iteT ?_
    obtain ⟨dd, ed, ea⟩ := (hx.same z5).get
    refine st_retL (va_cons (val_xp rfl ec (T.xf 7 (by decide)) T.n7_what ed ea rfl) (va_cons (val_xp rfl ec (T.xf 7 (by decide)) T.n7_many ed ea rfl) (va_cons (val_xp rfl ec (T.xf 7 (by decide)) T.n7_limit ed ea rfl) va_nil))) (show 3 ≤ sizeLine by decide) fun l hl => ?_
    exact hQ l _ (fun b o e => by have y := z5 _ _ e; rw [upd_ne (ne_of_none y hl)]; exact y) (z5.free hl) upd_same
  | 8, _ =>
    refine st_seq (st_in (j := 8) (ns := [0]) (b := false) rfl (fun _ _ q => q) (by decide) (by decide) fun H0 s0 => ?_)
    have z0 : Same H H0 := (Same.refl H).trans s0
    refine iteF (st_next ?_)
    dsimp only
    refine st_seq (st_in (j := 8) (ns := [1, 4, 5]) (b := false) rfl (fun _ _ q => q) (by decide) (by decide) fun H1 s1 => ?_)
    have z1 : Same H H1 := z0.trans s1
    refine iteF (st_next ?_)
    dsimp only
    refine st_seq (st_in (j := 8) (ns := [2]) (b := false) rfl (fun _ _ q => q) (by decide) (by decide) fun H2 s2 => ?_)
    have z2 : Same H H2 := z1.trans s2
    refine iteF (st_next ?_)
    dsimp only
    refine st_seq (st_in (j := 8) (ns := [3]) (b := false) rfl (fun _ _ q => q) (by decide) (by decide) fun H3 s3 => ?_)
    have z3 : Same H H3 := z2.trans s3
    refine iteF (st_next ?_)
    dsimp only
    refine st_seq (st_in (j := 8) (ns := [6]) (b := false) rfl (fun _ _ q => q) (by decide) (by decide) fun H4 s4 => ?_)
    have z4 : Same H H4 := z3.trans s4
    refine iteF (st_next ?_)
    dsimp only
    refine st_seq (st_in (j := 8) (ns := [7]) (b := false) rfl (fun _ _ q => q) (by decide) (by decide) fun H5 s5 => ?_)
    have z5 : Same H H5 := z4.trans s5
    refine iteF (st_next ?_)
    dsimp only
    refine st_seq (st_in (j := 8) (ns := [8]) (b := true) rfl (fun _ _ q => q) (by decide) (by decide) fun H6 s6 => ?_)
    have z6 : Same H H6 := z5.trans s6
    refine iteT ?_
    obtain ⟨dd, ed, ea⟩ := (hx.same z6).get
    refine st_retL (va_cons (val_xp rfl ec (T.xf 8 (by decide)) T.n8_promise ed ea rfl) (va_cons (val_xp rfl ec (T.xf 8 (by decide)) T.n8_witness ed ea rfl) va_nil)) (show 2 ≤ sizeLine by decide) fun l hl => ?_
    exact hQ l _ (fun b o e => by have y := z6 _ _ e; rw [upd_ne (ne_of_none y hl)]; exact y) (z6.free hl) upd_same
  | 9, _ =>
    refine st_seq (st_in (j := 9) (ns := [0]) (b := false) rfl (fun _ _ q => q) (by decide) (by decide) fun H0 s0 => ?_)
    have z0 : Same H H0 := (Same.refl H).trans s0
    refine iteF (st_next ?_)
    dsimp only
    refine st_seq (st_in (j := 9) (ns := [1, 4, 5]) (b := false) rfl (fun _ _ q => q) (by decide) (by decide) fun H1 s1 => ?_)
    have z1 : Same H H1 := z0.trans s1
    refine iteF (st_next ?_)
    dsimp only
    refine st_seq (st_in (j := 9) (ns := [2]) (b := false) rfl (fun _ _ q => q) (by decide) (by decide) fun H2 s2 => ?_)
    have z2 : Same H H2 := z1.trans s2
    refine iteF (st_next ?_)
    dsimp only
    refine st_seq (st_in (j := 9) (ns := [3]) (b := false) rfl (fun _ _ q => q) (by decide) (by decide) fun H3 s3 => ?_)
    have z3 : Same H H3 := z2.trans s3
    refine iteF (st_next ?_)
    dsimp only
    refine st_seq (st_in (j := 9) (ns := [6]) (b := false) rfl (fun _ _ q => q) (by decide) (by decide) fun H4 s4 => ?_)
    have z4 : Same H H4 := z3.trans s4
    refine iteF (st_next ?_)
    dsimp only
    refine st_seq (st_in (j := 9) (ns := [7]) (b := false) rfl (fun _ _ q => q) (by decide) (by decide) fun H5 s5 => ?_)
    have z5 : Same H H5 := z4.trans s5
    refine iteF (st_next ?_)
    dsimp only
    refine st_seq (st_in (j := 9) (ns := [8]) (b := false) rfl (fun _ _ q => q) (by decide) (by decide) fun H6 s6 => ?_)
    have z6 : Same H H6 := z5.trans s6
    refine iteF (st_next ?_)
    dsimp only
    refine ⟨Nat.zero_le _, fun l hl => ?_⟩
    exact hQ l _ (fun b o e => by have y := z6 _ _ e; rw [upd_ne (ne_of_none y hl)]; exact y) (z6.free hl) upd_same
  | 10, _ =>
    refine st_seq (st_in (j := 10) (ns := [0]) (b := false) rfl (fun _ _ q => q) (by decide) (by decide) fun H0 s0 => ?_)
    have z0 : Same H H0 := (Same.refl H).trans s0
    refine iteF (st_next ?_)
    dsimp only
    refine st_seq (st_in (j := 10) (ns := [1, 4, 5]) (b := false) rfl (fun _ _ q => q) (by decide) (by decide) fun H1 s1 => ?_)
    have z1 : Same H H1 := z0.trans s1
    refine iteF (st_next ?_)
    dsimp only
    refine st_seq (st_in (j := 10) (ns := [2]) (b := false) rfl (fun _ _ q => q) (by decide) (by decide) fun H2 s2 => ?_)
    have z2 : Same H H2 := z1.trans s2
    refine iteF (st_next ?_)
    dsimp only
    refine st_seq (st_in (j := 10) (ns := [3]) (b := false) rfl (fun _ _ q => q) (by decide) (by decide) fun H3 s3 => ?_)
    have z3 : Same H H3 := z2.trans s3
    refine iteF (st_next ?_)
    dsimp only
    refine st_seq (st_in (j := 10) (ns := [6]) (b := false) rfl (fun _ _ q => q) (by decide) (by decide) fun H4 s4 => ?_)
    have z4 : Same H H4 := z3.trans s4
    refine iteF (st_next ?_)
    dsimp only
    refine st_seq (st_in (j := 10) (ns := [7]) (b := false) rfl (fun _ _ q => q) (by decide) (by decide) fun H5 s5 => ?_)
    have z5 : Same H H5 := z4.trans s5
    refine iteF (st_next ?_)
    dsimp only
    refine st_seq (st_in (j := 10) (ns := [8]) (b := false) rfl (fun _ _ q => q) (by decide) (by decide) fun H6 s6 => ?_)
    have z6 : Same H H6 := z5.trans s6
    refine iteF (st_next ?_)
    dsimp only
    refine ⟨Nat.zero_le _, fun l hl => ?_⟩
    exact hQ l _ (fun b o e => by have y := z6 _ _ e; rw [upd_ne (ne_of_none y hl)]; exact y) (z6.free hl) upd_same
end
end K0
set_option Elab.async false
set_option linter.all false
set_option maxRecDepth 100000
set_option maxHeartbeats 4000000
namespace K0
open PySem PySem.Spec PyProof.Rows L2 L2H
abbrev sOne : Stmt := topS 23
theorem scOne : FnScope ["kind", "one", "two", "three", "found", "e"] ["kind", "one", "two", "three"] (defScope sOne) := ⟨rfl, rfl, rfl, by decide +kernel, rfl, by decide +kernel, by decide +kernel⟩
def spOne : Sp := fun vs H Q _ => ∃ (j : Nat) (v1 v2 v3 : V), j < 11 ∧ vs = [.int j, v1, v2, v3] ∧ ∀ t l m H', Same H H' → H m = none → H' t = some (.tup [.ref l, .ref m]) → H' l = some (.lst [.str (nm j)]) → H' m = some (.lst (vals j v1 v2 v3)) → Q (.ref t) H'
section
variable {P : Program} {w : World} {K : PySem.W.Frag} {mg : Str → Option Value} {base : Heap} {f fF fC fM fL HE : Addr} {fd fdF fdC fdM fdL : FuncData} {cA : Nat → Addr}
theorem rz_of {E : XK} {H : Hp} {C : Addr} {fs : List (Str × V)} (h : ∀ d H', Same H H' → FdAt H' d fs → E (.ref C) d H') : Rz E H C fs := by
  cases fs with
  | nil => exact fun H' s => h none H' s (.inl ⟨rfl, rfl⟩)
  | cons q r => exact fun d H' _ s e => h (some d) H' s (.inr ⟨d, rfl, e⟩)
theorem ok_one (F : Fun K "_law_one" "_law_one" sOne f fd) (GF : FnOk P w K mg base (L2.CX P w) 4 fF fdF ["kind", "one", "two", "three"] (spFall cA 0 11)) (bF : L2.Binds K fdF ["kind", "one", "two", "three"] []) (kF : PySem.W.keepIn K (.ref fF) = true) (gF : mg "_law_fall" = some (.ref fF))
    (FC : Fun K "_law_classes" "_law_classes" sClasses fC fdC) (bC : L2.Binds K fdC ["e"] []) (gC : mg "_law_classes" = some (.ref fC)) (FM : Fun K "_law_more_kinds" "_law_more_kinds" sMore fM fdM) (bM : L2.Binds K fdM ["e"] []) (gM : mg "_law_more_kinds" = some (.ref fM))
    (FL : Fun K "_law_fields" "_law_fields" sFields fL fdL) (bL : L2.Binds K fdL ["kind", "e"] []) (gL : mg "_law_fields" = some (.ref fL)) (T : KC K mg cA) (gHE : mg "HeapError" = some (.ref HE)) (te : ∀ j, j < 11 → PySem.W.exmOne K (.ref (cA j)) (.ref HE) = some true) (gVE : mg "ValueError" = none) :
    FnOk P w K mg base CX0 5 f fd ["kind", "one", "two", "three"] spOne := by
  refine F.ok scOne (fun vs H Q E h => ?_) (fun cdv A outer s H vs Q E hr h => ⟨_, pss_cons (ps_set (i := 4) scOne.nd rfl (.inl rfl) pe_non)
    (pss_cons (ps_try_as (i := 5) (c := .ref HE) rfl rfl scOne.nd rfl rfl ⟨rfl, by decide, .inl gHE⟩ takes0
      (fun W pn xe tk _ => pss_one (ps_expr (pe_callS GF hr rfl gF kF bF (fun σ => passAt tk σ) (pa_cons (pv 0) (pa_cons (pv 1) (pa_cons (pv 2) (pa_cons (pv 3) pa_nil)))))))
      (fun a oe cls d pn hz hf => pss_one (ps_if (pt_val (pe_callB (id := "isinstance") (r := rIsP K a cls d) (call_isP (a := a) (oe := oe) (d := d) List.mem_cons_self hz hf) rfl T.isi (by decide +kernel) (pa_cons (pv 5) (pa_cons (pe_bltn (v := .ty "ValueError") rfl gVE Boot.«ValueError» rfl) pa_nil))))
        (pss_one (ps_set (i := 4) scOne.nd rfl (.inl rfl) (pe_tup (pa_cons (pe_callP (ok_classes (a := a) (d := d) FC FM bM gM T hz hf) (k := 2) ⟨(hr.mono (by decide : 2 ≤ 4)).dp, (hr.mono (by decide : 2 ≤ 4)).un⟩ List.mem_cons_self rfl gC FC.kp bC (pa_cons (pv 5) pa_nil))
          (pa_cons (pe_callP (ok_fields (a := a) (d := d) FL T hz hf) (k := 1) ⟨(hr.mono (by decide : 1 ≤ 4)).dp, (hr.mono (by decide : 1 ≤ 4)).un⟩ List.mem_cons_self rfl gL FL.kp bL (pa_cons (pv 0) (pa_cons (pv 5) pa_nil))) pa_nil))))) pss_nil)))
    (pss_one (ps_ret (pv 4)))), ?_⟩)
  · obtain ⟨j, v1, v2, v3, _, rfl, _⟩ := h
    rfl
  obtain ⟨j, v1, v2, v3, hj, rfl, hQ⟩ := h
  refine ⟨_, rfl, _, rfl, _, rfl, _, rfl, j, v1, v2, v3, Nat.zero_le _, hj, rfl, rz_of fun d H1 s1 hfd => ⟨true, te j hj, fun _ a ha => ?_, fun z => nomatch z⟩⟩
  refine st_yes (ans_val (val_isP (val_var rfl) val_c rfl (T.ex j hj) (fun u h => h) (T.ve j hj) hfd.xd)) ?_
  refine ⟨_, rfl, j, hj, rfl, rfl, hfd.xd, fun l H2 s2 hl el => ⟨_, rfl, _, rfl, j, v1, v2, v3, hj, rfl, rfl, hfd.same s2, fun m H3 s3 hm em => ⟨(show 2 ≤ sizeLine by decide), fun t ht => ?_⟩⟩⟩
  have e0 : acc 0 11 j = [.str (nm j)] := if_pos ⟨Nat.zero_le _, hj⟩
  rw [e0] at el
  have s4 : Same H3 (upd H3 t (.tup [.ref l, .ref m])) := fun b o e => by rw [upd_ne (ne_of_none e ht)]; exact e
  exact ⟨_, rfl, hQ t l m _ (((s1.trans s2).trans s3).trans s4) ((s1.trans s2).free hm) upd_same (s4 _ _ (s3 _ _ el)) (s4 _ _ em)⟩
end
end K0
set_option Elab.async false
set_option linter.all false
set_option maxRecDepth 100000
set_option maxHeartbeats 4000000
namespace K0
open PySem PySem.Spec PyProof.Rows L2
/-! ### repr -/
def dictD : PyData := .dict [(.str "k", .int 1)]
def dictO : HO := .dK [(.inr "k", .int 1)]
/-- v stands for d: data of any depth without a dict, or the dict {'k': 1} -/
def Rp (K : PySem.W.Frag) (H : Hp) (v : V) (d : PyData) : Prop := (Dp K H v d ∧ d.hasDict = false) ∨ ∃ a, v = .ref a ∧ H a = some dictO ∧ d = dictD
structure Sh (d : PyData) : Prop where
  s : d.showable = true
  l : d.shown.length ≤ sizeLine
  d : d.depth ≤ 5
def rRepr (K : PySem.W.Frag) : List V → Hp → VK → Prop := fun xs H Q => ∃ v d, xs = [v] ∧ Rp K H v d ∧ Sh d ∧ Q (.str d.shown) H
section
variable {X : Cx} {pins : List (Addr × Obj)} {σ : L2.St} {H : Hp} {s : Shared} {a : Addr}
theorem dict_reads (I : Inv X pins σ H s) (h : H a = some dictO) : Reads s.heap (.ref a) dictD [a] ∧ a ≠ sysModules := by
  have z : ObjOk X.prog X.w H s.heap a (.dK [(.inr "k", .int 1)]) := I.hok a _ h
  obtain ⟨_, hs, vs, kv, o, es, ep, e1, ⟨e2, _, _⟩, e3, _, pr, _⟩ := z
  refine ⟨?_, beq_eq_false_iff_ne.mp hs⟩
  cases kv with
  | @cons _ q _ r h1 h2 =>
    cases h2
    obtain ⟨k, u⟩ := q
    obtain ⟨hk, t, hu⟩ := h1
    dsimp only at hk hu
    subst hk hu
    generalize hes : es.toList = l at pr
    cases pr with
    | @cons e _ es2 _ h3 h4 h5 =>
      cases h5
      have hkey : ∃ t', e.key = Value.str "k" t' := by
        rcases keyIs_shape (k := (.inr "k" : Key)) (v := e.key) h3 with ⟨i, t', hi, _⟩ | ⟨x, t', hx, hv⟩
        · cases hi
        · cases hx
          exact ⟨t', hv⟩
      obtain ⟨t', hkey⟩ := hkey
      have r1 : ReadsAll s.heap (es.toList.map (·.key)) [PyData.str "k"] ([] ++ []) := by
        rw [hes]
        show ReadsAll s.heap [e.key] _ _
        rw [hkey]
        exact .cons (.str _ _) .nil
      have r2 : ReadsAll s.heap (es.toList.map (·.val)) [PyData.int 1] ([] ++ []) := by
        rw [hes]
        show ReadsAll s.heap [e.val] _ _
        rw [h4]
        exact .cons (.int _ _) .nil
      exact Reads.dict (kvs := [(PyData.str "k", PyData.int 1)]) e1 e2 e3 r1 r2
theorem call_repr (hg : X.A.guards = some []) (hu : X.A.units + 16 < cLine) : CallR X (.builtin "repr") (rRepr X.K) := by
  intro pins s σ H xs us Q I r h
  obtain ⟨v, d, rfl, hv, hs, q⟩ := h
  cases r with
  | @cons _ u _ us' rv rr =>
    cases rr
    have hd : X.A.units + (d.depth + 1) < cLine := by have := hs.d; omega
    rcases hv with ⟨hv, hn⟩ | ⟨a, rfl, ha, rfl⟩
    · cases hv with
      | non =>
        obtain rfl : u = Value.none := rv
        exact call_repr_gives (typeIs_none s) F.slot_NoneType_repr F.entry_NoneType_repr (F.args_NoneType_repr_1 _) gives_none_repr ⟨.str _, H, I.tok _, ⟨_, rfl⟩, q⟩ (hx := by decide)
      | bl b =>
        obtain rfl : u = Value.bool b := rv
        refine PySem.P.repr_of_bool ⟨.str _, H, I.tok _, ⟨_, rfl⟩, ?_⟩
        have e : PyData.shown (.bool b) = (if b then Str.ofString "True" else Str.ofString "False") := by simp only [PyData.shown]
        rw [e] at q
        cases b <;> exact q
      | int i =>
        obtain ⟨t, rfl⟩ := rv
        refine PySem.P.repr_of_int (by have z := hs.s; simpa only [PyData.showable, decide_eq_true_eq] using z) ⟨.str _, H, I.tok _, ⟨_, rfl⟩, ?_⟩
        have e : PyData.shown (.int i) = (toString i : String) := by simp only [PyData.shown]
        rw [e] at q
        exact q
      | str x =>
        obtain ⟨t, rfl⟩ := rv
        have e : PyData.shown (.str x) = reprText x := by simp only [PyData.shown]
        refine PySem.P.repr_of_str ⟨.str _, H, I.tok _, ⟨_, rfl⟩, ?_⟩ (by have z := hs.l; rw [e] at z; exact z)
        rw [e] at q
        exact q
      | @lst a ys ds h1 h2 =>
        obtain rfl : u = Value.ref a := rv
        obtain ⟨as, rd⟩ := Dp.reads I _ _ _ (.lst h1 h2) (show RelV (.ref a) (.ref a) from rfl)
        exact repr_of_reads' rd hs.s (PyData.noDict_hsm hn) hg hd (fun _ _ e => e) (fun h' u tk hk => ⟨.str _, H, I.kept (t' := tk) hk, ⟨u, rfl⟩, q⟩) hs.l
      | @tup a ys ds h1 h2 =>
        obtain rfl : u = Value.ref a := rv
        obtain ⟨as, rd⟩ := Dp.reads I _ _ _ (.tup h1 h2) (show RelV (.ref a) (.ref a) from rfl)
        exact repr_of_reads' rd hs.s (PyData.noDict_hsm hn) hg hd (fun _ _ e => e) (fun h' u tk hk => ⟨.str _, H, I.kept (t' := tk) hk, ⟨u, rfl⟩, q⟩) hs.l
    · obtain rfl : u = Value.ref a := rv
      obtain ⟨rd, hne⟩ := dict_reads I ha
      exact repr_of_reads' rd hs.s (fun _ hm => hne (List.mem_singleton.mp hm).symm) hg hd (fun _ _ e => e) (fun h' u tk hk => ⟨.str _, H, I.kept (t' := tk) hk, ⟨u, rfl⟩, q⟩) hs.l
end
/-! ### the shapes are shown -/
theorem weight_int {n : Int} (h0 : 0 ≤ n) (h1 : n < 1000000) : PyData.weight (.int n) ≤ 20 := by
  simp only [PyData.weight]
  split
  · omega
  · rename_i hz
    have hne : n.natAbs ≠ 0 := fun z => hz (by have : n = 0 := by omega
                                               rw [this]; rfl)
    have : n.natAbs.log2 < 20 := (Nat.log2_lt hne).mpr (by omega)
    omega
theorem sh_int {n : Int} (h0 : 0 ≤ n) (h1 : n < 1000000) : PyData.showable (.int n) = true := by
  simp only [PyData.showable, decide_eq_true_eq]
  by_cases hz : n.natAbs = 0
  · rw [hz]
    decide
  · have : n.natAbs.log2 < 20 := (Nat.log2_lt hz).mpr (by omega)
    omega
theorem sh_of {d : PyData} (h1 : d.showable = true) (h2 : PyData.canLay0 d = true) (h3 : d.depth ≤ 5) (h4 : d.weight ≤ 1000) (h5 : d.intsShort 13 = true) : Sh d := by
  refine ⟨h1, ?_, h3⟩
  have hl : PyData.layable0 d = true := by
    unfold PyData.layable0
    rw [h2, decide_eq_true (show d.depth ≤ 64 by omega), decide_eq_true (show d.weight ≤ 2 ^ 20 by omega)]
    rfl
  exact Nat.le_trans (PyProof.Rows.shown_le13 hl h5) (by decide)
theorem sh_list {n : Int} (h0 : 0 ≤ n) (h1 : n < 100) : Sh (.list [.int n, .list [], .str "later"]) := by
  have w := weight_int h0 (by omega)
  refine sh_of ?_ (by simp only [PyData.canLay0, PyData.canLayAll0]; decide +kernel) (by simp only [PyData.depth, PyData.depthAll]; decide) ?_ ?_
  · simp only [PyData.showable, PyData.showableAll, Bool.and_true]
    exact sh_int h0 (by omega)
  · have e : PyData.weight (.list [.int n, .list [], .str "later"]) = PyData.weight (.int n) + 1 + (0 + 1 + (5 + 1 + 0)) := rfl
    rw [e]
    omega
  · have e : PyData.intsShort 13 (.list [.int n, .list [], .str "later"]) = (decide ((PyData.shown (.int n)).length ≤ 13) && true) := rfl
    rw [e, decide_eq_true (PyData.shown_int_le2 (by omega) (by omega))]
    rfl
theorem sh_tup {n : Int} (h0 : 0 ≤ n) (h1 : n < 1000000) : Sh (.tuple [.str "a", .tuple [.int n]]) := by
  have w := weight_int h0 (by omega)
  refine sh_of ?_ (by simp only [PyData.canLay0, PyData.canLayAll0]; decide +kernel) (by simp only [PyData.depth, PyData.depthAll]; decide) ?_ ?_
  · simp only [PyData.showable, PyData.showableAll, Bool.and_true, Bool.true_and]
    exact sh_int h0 (by omega)
  · have e : PyData.weight (.tuple [.str "a", .tuple [.int n]]) = 1 + 1 + ((PyData.weight (.int n) + 1 + 0) + 1 + 0) := rfl
    rw [e]
    omega
  · have e : PyData.intsShort 13 (.tuple [.str "a", .tuple [.int n]]) = (true && ((decide ((PyData.shown (.int n)).length ≤ 13) && true) && true)) := rfl
    rw [e, decide_eq_true (PyData.shown_int_le2 (by omega) (by omega))]
    rfl
theorem sh_dict : Sh dictD := ⟨by decide +kernel, by decide +kernel, by decide +kernel⟩
/-- a scalar's datum -/
def scD : V → PyData
  | .bl b => .bool b
  | .int i => .int i
  | .str x => .str x
  | _ => .none
theorem sh_sc {v : V} (h : v ∈ [V.non, .bl true, .bl false, .int 0, .int (-1), .str "x", .str "", .int (10 ^ 40)]) : Sh (scD v) := by
  simp only [List.mem_cons, List.not_mem_nil, or_false] at h
  rcases h with rfl | rfl | rfl | rfl | rfl | rfl | rfl | rfl <;> exact ⟨by decide +kernel, by decide +kernel, by decide +kernel⟩
end K0
set_option Elab.async false
set_option linter.all false
set_option maxRecDepth 100000
set_option maxHeartbeats 4000000
namespace K0
open PySem PySem.Spec PyProof.Rows L2
abbrev sLaw : Stmt := topS 24
theorem scLaw : FnScope ["script", "pen", "names", "sizes", "kind", "one", "two", "three", "told", "due", "field", "value"] ["script"] (defScope sLaw) := ⟨rfl, rfl, rfl, by decide +kernel, rfl, by decide +kernel, by decide +kernel⟩
/-! ### drawn values, as they stand -/
inductive Good (H : Hp) : V → Prop where
  | lst {a b : Addr} {n : Int} (e : H a = some (.lst [.int n, .ref b])) (e2 : H b = some (.lst [])) (h0 : 0 ≤ n) (h1 : n < 100) : Good H (.ref a)
  | tup {t u : Addr} {n : Int} (e : H t = some (.tup [.str "a", .ref u])) (e2 : H u = some (.tup [.int n])) (h0 : 0 ≤ n) (h1 : n < 1000000) : Good H (.ref t)
  | sc {v : V} (h : v ∈ [V.non, .bl true, .bl false, .int 0, .int (-1), .str "x", .str "", .int (10 ^ 40)]) : Good H v
  | dic {d : Addr} (e : H d = some dictO) : Good H (.ref d)
theorem Shape.good {H H' : Hp} {v : V} (h : Shape H H' v) : Good H' v := by
  cases h with
  | lst _ _ _ e e2 h0 h1 => exact .lst e e2 h0 h1
  | tup e e2 h0 h1 => exact .tup e e2 h0 h1
  | sc h => exact .sc h
  | dic e => exact .dic e
theorem Good.keep {H H' : Hp} {v : V} (h : Good H v) (k : ∀ b o, H b = some o → (∃ xs, o = .lst xs) ∨ (∃ xs, o = .tup xs) ∨ o = dictO → H' b = some o) : Good H' v := by
  cases h with
  | lst e e2 h0 h1 => exact .lst (k _ _ e (.inl ⟨_, rfl⟩)) (k _ _ e2 (.inl ⟨_, rfl⟩)) h0 h1
  | tup e e2 h0 h1 => exact .tup (k _ _ e (.inr (.inl ⟨_, rfl⟩))) (k _ _ e2 (.inr (.inl ⟨_, rfl⟩))) h0 h1
  | sc h => exact .sc h
  | dic e => exact .dic (k _ _ e (.inr (.inr rfl)))
theorem Good.same {H H' : Hp} {v : V} (h : Good H v) (s : Same H H') : Good H' v := h.keep fun b o e _ => s b o e
theorem Good.but {H H' : Hp} {v : V} {p : Addr} (h : Good H v) (hp : Pen H p) (s : SameBut p H H') : Good H' v := h.keep fun b o e k => s b o (by
  obtain ⟨c, cs, a, d, n, f, hp⟩ := hp
  rcases k with ⟨xs, rfl⟩ | ⟨xs, rfl⟩ | rfl
  · exact ne_of e hp.at_ (fun z => nomatch z)
  · exact ne_of e hp.at_ (fun z => nomatch z)
  · exact ne_of e hp.at_ (fun z => by
      unfold dictO penK at z
      injection z with z
      injection z with _ z
      cases z)) e
/-- a drawn list of an elder heap is not a later value -/
theorem Shape.ne {H H' : Hp} {v : V} {a : Addr} {xs : List V} (h : Shape H H' v) (e : H a = some (.lst xs)) (e' : H' a = some (.lst xs)) : v ≠ .ref a := by
  intro z
  cases h with
  | lst ha _ _ _ _ _ _ => cases z; rw [e] at ha; cases ha
  | tup e2 _ _ _ => cases z; rw [e'] at e2; cases e2
  | sc h => subst z; simp at h
  | dic e2 => cases z; rw [e'] at e2; cases e2
inductive Goods (H : Hp) : List V → Prop where
  | nil : Goods H []
  | cons {w : V} {ws : List V} (g : Good H w) (d : ∀ a xs, w = .ref a → H a = some (.lst xs) → ∀ u ∈ ws, u ≠ .ref a) (r : Goods H ws) : Goods H (w :: ws)
theorem Goods.same {H H' : Hp} : ∀ {ws : List V}, Goods H ws → Same H H' → Goods H' ws
  | [], _, _ => .nil
  | w :: ws, .cons g d r, s => .cons (g.same s) (fun a xs ew e u hu => by
      subst ew
      cases g with
      | lst e1 _ _ _ => exact d a _ rfl e1 u hu
      | tup e1 _ _ _ => have z := s _ _ e1; rw [e] at z; cases z
      | sc h => simp at h
      | dic e1 => have z := s _ _ e1; rw [e] at z; cases z) (r.same s)
theorem Goods.take {H : Hp} : ∀ {ws : List V} (n : Nat), Goods H ws → Goods H (ws.take n)
  | _, 0, _ => .nil
  | [], _ + 1, _ => .nil
  | w :: ws, n + 1, .cons g d r => .cons g (fun a xs e h u hu => d a xs e h u (List.mem_of_mem_take hu)) (r.take n)
theorem Goods.good {H : Hp} : ∀ {ws : List V} {w : V}, Goods H ws → w ∈ ws → Good H w
  | w :: ws, u, .cons g d r, h => by
    rcases List.mem_cons.mp h with h | h
    · rw [h]; exact g
    · exact r.good h
/-- behind an append to the drawn list at a -/
theorem Goods.write {H : Hp} {a b : Addr} {n : Int} {o : HO} (e : H a = some (.lst [.int n, .ref b])) : ∀ {ws : List V}, Goods H ws → (∀ u ∈ ws, u ≠ .ref a) → Goods (upd H a o) ws
  | [], _, _ => .nil
  | w :: ws, .cons g d r, h => by
    have hw := h w (List.mem_cons_self ..)
    have keepT : ∀ {c : Addr} {xs : List V}, H c = some (.tup xs) → upd H a o c = some (.tup xs) := fun {c xs} q => by rw [upd_ne (ne_of q e (fun z => nomatch z))]; exact q
    have g' : Good (upd H a o) w := by
      cases g with
      | lst e1 e2 h0 h1 => exact .lst (by rw [upd_ne (fun z => hw (by rw [z]))]; exact e1) (by rw [upd_ne (ne_of e2 e (fun z => by injection z with z; cases z))]; exact e2) h0 h1
      | tup e1 e2 h0 h1 => exact .tup (keepT e1) (keepT e2) h0 h1
      | sc h => exact .sc h
      | dic e1 => exact .dic (by rw [upd_ne (ne_of e1 e (fun z => nomatch z))]; exact e1)
    refine .cons g' (fun c xs ew ec u hu => ?_) (Goods.write e r fun u hu => h u (List.mem_cons_of_mem _ hu))
    have hc : c ≠ a := fun z => hw (by rw [ew, z])
    rw [upd_ne hc] at ec
    exact d c xs ew ec u hu
theorem Pen.write {H : Hp} {p a b : Addr} {n : Int} {o : HO} (h : Pen H p) (e : H a = some (.lst [.int n, .ref b])) : Pen (upd H a o) p := by
  obtain ⟨c, cs, x, d, m, f, h⟩ := h
  refine ⟨c, cs, x, d, m, f, by rw [upd_ne (ne_of h.at_ e (fun z => nomatch z))]; exact h.at_, ?_, h.len, h.a0, h.d0, h.n0, h.f0⟩
  rw [upd_ne (ne_of h.cells e fun z => ?_)]
  · exact h.cells
  · injection z with z
    match cs, z with
    | [], z => cases z
    | [_], z => injection z with _ z; cases z
    | _ :: _ :: _, z => injection z with _ z; injection z with z; cases z
/-! ### what repr sees -/
theorem Good.shown {K : PySem.W.Frag} {H : Hp} {v : V} (h : Good H v) (hn : ∀ a n b, v = .ref a → H a ≠ some (.lst [.int n, .ref b])) : ∃ d, Rp K H v d ∧ Sh d := by
  cases h with
  | lst e _ _ _ => exact (hn _ _ _ rfl e).elim
  | @tup t u n e e2 h0 h1 => exact ⟨.tuple [.str "a", .tuple [.int n]], .inl ⟨.tup (SqT.of e) (.cons (.str _) (.cons (.tup (SqT.of e2) (.cons (.int _) .nil)) .nil)), rfl⟩, sh_tup h0 h1⟩
  | sc h =>
    refine ⟨scD v, .inl ?_, sh_sc h⟩
    simp only [List.mem_cons, List.not_mem_nil, or_false] at h
    rcases h with rfl | rfl | rfl | rfl | rfl | rfl | rfl | rfl
    · exact ⟨.non, rfl⟩
    · exact ⟨.bl _, rfl⟩
    · exact ⟨.bl _, rfl⟩
    · exact ⟨.int _, rfl⟩
    · exact ⟨.int _, rfl⟩
    · exact ⟨.str _, rfl⟩
    · exact ⟨.str _, rfl⟩
    · exact ⟨.int _, rfl⟩
  | dic e => exact ⟨dictD, .inr ⟨_, rfl, e, rfl⟩, sh_dict⟩
theorem later_shown {K : PySem.W.Frag} {H : Hp} {a b : Addr} {n : Int} (e : H a = some (.lst [.int n, .ref b, .str "later"])) (e2 : H b = some (.lst [])) (h0 : 0 ≤ n) (h1 : n < 100) : ∃ d, Rp K H (.ref a) d ∧ Sh d :=
  ⟨.list [.int n, .list [], .str "later"], .inl ⟨.lst (SqL.of e) (.cons (.int _) (.cons (.lst (SqL.of e2) .nil) (.cons (.str _) .nil))), rfl⟩, sh_list h0 h1⟩
end K0
set_option Elab.async false
set_option linter.all false
set_option maxRecDepth 100000
set_option maxHeartbeats 4000000
namespace K0
open PySem PySem.Spec PyProof.Rows L2
/-! ### a def that is run where no repr is under way -/
structure FnU (P : Program) (w : World) (K : PySem.W.Frag) (mg : Str → Option Value) (base : Heap) (k : Nat) (f : Addr) (fd : FuncData) (ps : List Str) (sp : Sp) : Prop where
  len : ∀ vs H Q E, sp vs H Q E → vs.length = ps.length
  run : ∀ (A : Around) (outer : List Env) (s : Shared) (H : Hp) (args : Args) (us : List Value) (vs : List V) (Q : VK) (E : XK), Room k A → A.guards = some [] →
    Env0 P w K mg base A outer s H → BindsTo s fd args (ps.zip us) → Vals vs us → sp vs H Q E → codeAny (model P w) A (.call (.ref f) args) (CR CX0 outer P w H s Q E) s
section
variable {P : Program} {w : World} {K : PySem.W.Frag} {mg : Str → Option Value} {base : Heap}
theorem fnU_of {k : Nat} {f : Addr} {x qual : Str} {st : Stmt} {fd : FuncData} {N ps : List Str} {sp : Sp} (F : Fun K x qual st f fd) (S : FnScope N ps (defScope st)) (len : ∀ vs H Q E, sp vs H Q E → vs.length = ps.length)
    (hbody : ∀ (cdv : Value) (A : Around) (outer : List Env) (s : Shared) (H : Hp) (vs : List V) (Q : VK) (E : XK), Room k (A.deeper (envOfC qual (defScope st) s.heap.objs.size f cdv)) → A.guards = some [] → sp vs H Q E →
      ∃ t, PSs (cxOf CX0 P w K mg base N qual (defScope st) f cdv A outer s H E).nox (defBody st) t ∧ t { nx := fun _ H' => Q .non H', rt := Q } (L2.start N vs) H) : FnU P w K mg base (k + 1) f fd ps sp := by
  obtain ⟨oc, od, kV, doc, pm, an, cdv, ct, osl, rfl, lk, hcd⟩ := F.ex
  refine ⟨len, fun A outer s H args us vs Q E hr hgd e0 hb r hsp => ?_⟩
  have hlen := len _ _ _ _ hsp
  have inK : K.In s.heap := e0.mod.kin.keeps fun b o e => (e0.bs b o e).1
  have hnl : s.heap.NoLimit := e0.mod.nolimit.keeps fun b o e => (e0.bs b o e).1
  have pars : ∀ y ∈ ps.zip us, (defScope st).names.lookup y.1 = some .local ∨ ((defScope st).names.lookup y.1 = some .cell ∧ ((cellsFrom (s.heap.objs.size + 1) (defScope st).names []).lookup y.1).isSome = true) := by
    rintro ⟨n, v⟩ hy
    exact (S.par n (List.of_mem_zip hy).1).imp id fun q => ⟨q, PySem.W.cellsFrom_some _ _ _ (.inl q)⟩
  refine codeAny_call_function hr.depth (inK _ _ lk) rfl S.co S.gen rfl (PySem.W.codeRec_of inK hcd) (hb _ _ _ _ ?_)
  refine wpAny_newFunctionEnv_cells S.kind pars fun env he s1 x => ?_
  subst he
  refine ⟨hnl.keeps x.toInCall.keep, codeAny_func ?_⟩
  obtain ⟨t, ht, hq⟩ := hbody cdv A outer s H vs Q E (hr.deeper _) hgd hsp
  have I := inv_start (CX := CX0) (E := E) S hr.hd e0 hlen r x
  refine wpAny_mono (ht.nox.run [] s1 (L2.start N vs) H _ I hq) (fun fl s' hs => ?_) fun e s' hs => hs
  cases fl with
  | ret u => obtain ⟨v, σ', H', J, rv, q⟩ := hs; exact ⟨v, H', J.os, J.bare, J.base, J.hok, rv, q⟩
  | next => obtain ⟨σ', H', J, q⟩ := hs; exact ⟨V.non, H', J.os, J.bare, J.base, J.hok, (show RelV V.non Value.none from rfl), q⟩
  | brk => obtain ⟨_, _, _, q⟩ := hs; exact False.elim q
  | cont => obtain ⟨_, _, _, q⟩ := hs; exact False.elim q
end
/-! ### the law -/
def namesV : List V := [.str "BadText", .str "BadName", .str "BadNumber", .str "BadRow", .str "NoName", .str "TakenName", .str "Unlike", .str "TooMany", .str "NotKept", .str "NothingToUndo", .str "NothingToRedo"]
def sizesV : List V := [.int 2, .int 1, .int 2, .int 2, .int 1, .int 1, .int 1, .int 3, .int 2, .int 0, .int 0]
def sz (j : Nat) : Int := match j with
  | 0 => 2 | 1 => 1 | 2 => 2 | 3 => 2 | 4 => 1 | 5 => 1 | 6 => 1 | 7 => 3 | 8 => 2 | _ => 0
theorem names_at {j : Nat} (h : j < 11) : atI namesV (j : Int) = some (.str (nm j)) := match j, h with
  | 0, _ => rfl | 1, _ => rfl | 2, _ => rfl | 3, _ => rfl | 4, _ => rfl | 5, _ => rfl | 6, _ => rfl | 7, _ => rfl | 8, _ => rfl | 9, _ => rfl | 10, _ => rfl
theorem sizes_at {j : Nat} (h : j < 11) : atI sizesV (j : Int) = some (.int (sz j)) := match j, h with
  | 0, _ => rfl | 1, _ => rfl | 2, _ => rfl | 3, _ => rfl | 4, _ => rfl | 5, _ => rfl | 6, _ => rfl | 7, _ => rfl | 8, _ => rfl | 9, _ => rfl | 10, _ => rfl
theorem cut_vals {j : Nat} {v1 v2 v3 : V} (h : j < 11) : cutV [v1, v2, v3] none (some (sz j)) = vals j v1 v2 v3 := match j, h with
  | 0, _ => rfl | 1, _ => rfl | 2, _ => rfl | 3, _ => rfl | 4, _ => rfl | 5, _ => rfl | 6, _ => rfl | 7, _ => rfl | 8, _ => rfl | 9, _ => rfl | 10, _ => rfl
theorem vals_take {j : Nat} {v1 v2 v3 : V} (h : j < 11) : vals j v1 v2 v3 = [v1, v2, v3].take (sz j).toNat := match j, h with
  | 0, _ => rfl | 1, _ => rfl | 2, _ => rfl | 3, _ => rfl | 4, _ => rfl | 5, _ => rfl | 6, _ => rfl | 7, _ => rfl | 8, _ => rfl | 9, _ => rfl | 10, _ => rfl
def spLaw (K : PySem.W.Frag) : Sp := fun vs H Q _ => ∃ (a : Addr) (ns : List Int), vs = [.ref a] ∧ SqL K H a (ns.map V.int) ∧ ns.length ≤ 63 ∧ ∀ H', Q (.bl true) H'
theorem eqv_one (x : Str) : PyData.eqv (.list [.str x]) (.list [.str x]) = true := by simp [PyData.eqv, PyData.eqvAll]
theorem shp_nm {j : Nat} (h : j < 11) : SeqAt.shaped (.list [.str (nm j)]) = true := match j, h with
  | 0, _ => by decide +kernel
  | 1, _ => by decide +kernel
  | 2, _ => by decide +kernel
  | 3, _ => by decide +kernel
  | 4, _ => by decide +kernel
  | 5, _ => by decide +kernel
  | 6, _ => by decide +kernel
  | 7, _ => by decide +kernel
  | 8, _ => by decide +kernel
  | 9, _ => by decide +kernel
  | 10, _ => by decide +kernel
/-- a list among what stands is a drawn list -/
theorem Good.lst_of {H H' : Hp} {v : V} {a : Addr} {xs : List V} (h : Good H v) (ev : v = .ref a) (k : Good H v → Good H' v) (kT : ∀ b o, H b = some o → (∃ xs, o = .lst xs) ∨ (∃ xs, o = .tup xs) ∨ o = dictO → H' b = some o) (e : H' a = some (.lst xs)) : ∃ n b, H a = some (.lst [.int n, .ref b]) := by
  subst ev
  cases h with
  | lst e1 _ _ _ => exact ⟨_, _, e1⟩
  | tup e1 _ _ _ => have z := kT _ _ e1 (.inr (.inl ⟨_, rfl⟩)); rw [e] at z; cases z
  | sc h => simp at h
  | dic e1 => have z := kT _ _ e1 (.inr (.inr rfl)); rw [e] at z; cases z
theorem Good.ref_some {H : Hp} {a : Addr} (h : Good H (.ref a)) : H a ≠ none := by
  intro z
  cases h with
  | lst e _ _ _ => rw [z] at e; cases e
  | tup e _ _ _ => rw [z] at e; cases e
  | sc h => simp at h
  | dic e => rw [z] at e; cases e
theorem but_k {H H' : Hp} {p : Addr} (hp : Pen H p) (s : SameBut p H H') : ∀ b o, H b = some o → (∃ xs, o = HO.lst xs) ∨ (∃ xs, o = .tup xs) ∨ o = dictO → H' b = some o := fun b o e k => s b o (by
  obtain ⟨c, cs, a, d, n, f, hp⟩ := hp
  rcases k with ⟨xs, rfl⟩ | ⟨xs, rfl⟩ | rfl
  · exact ne_of e hp.at_ (fun z => nomatch z)
  · exact ne_of e hp.at_ (fun z => nomatch z)
  · exact ne_of e hp.at_ (fun z => by
      unfold dictO penK at z
      injection z with z
      injection z with _ z
      cases z)) e
/-- three values, drawn one behind the other -/
theorem goods3 {H Ha Hb Hc : Hp} {p : Addr} {v1 v2 v3 : V} (pa : Pen Ha p) (pb : Pen Hb p) (sb : SameBut p Ha Hb) (sc : SameBut p Hb Hc) (h1 : Shape H Ha v1) (h2 : Shape Ha Hb v2) (h3 : Shape Hb Hc v3) : Goods Hc [v1, v2, v3] := by
  have kab := but_k pa sb
  have kbc := but_k pb sc
  have kac : ∀ b o, Ha b = some o → (∃ xs, o = HO.lst xs) ∨ (∃ xs, o = .tup xs) ∨ o = dictO → Hc b = some o := fun b o e k => kbc b o (kab b o e k) k
  refine .cons (h1.good.keep kac) (fun a xs ev e u hu => ?_) (.cons (h2.good.keep kbc) (fun a xs ev e u hu => ?_) (.cons h3.good (fun _ _ _ _ _ hu => nomatch hu) .nil))
  · obtain ⟨n, b, e1⟩ := h1.good.lst_of ev (fun g => g.keep kac) kac e
    have e2 := kab _ _ e1 (.inl ⟨_, rfl⟩)
    have e3 := kbc _ _ e2 (.inl ⟨_, rfl⟩)
    simp only [List.mem_cons, List.not_mem_nil, or_false] at hu
    rcases hu with rfl | rfl
    · exact h2.ne e1 e2
    · exact h3.ne e2 e3
  · obtain ⟨n, b, e1⟩ := h2.good.lst_of ev (fun g => g.keep kbc) kbc e
    have e2 := kbc _ _ e1 (.inl ⟨_, rfl⟩)
    simp only [List.mem_cons, List.not_mem_nil, or_false] at hu
    subst hu
    exact h3.ne e1 e2
section
variable {σ : L2.St} {H : Hp} {K : PySem.W.Frag} {ta tb : TE} {v : V} {i : Int} {p : Addr}
theorem val_ixT {xs : List V} (ha : Val ta σ H (.ref p)) (hb : Val tb σ H (.int i)) (h : SqT K H p xs) (e : atI xs i = some v) : Val (tOp (rIxT K) ta tb) σ H v := val_op ha hb fun _ q => ⟨p, xs, i, v, rfl, rfl, h, e, q⟩
theorem val_repr {d : PyData} (ha : Val ta σ H v) (h : Rp K H v d) (s : Sh d) : Val (tCB (rRepr K) (tCons ta tNil)) σ H (.str d.shown) := fun Q q => ha _ ⟨v, d, rfl, h, s, q⟩
theorem val_isi {t : Value} {b : Bool} (ha : Val ta σ H v) (ty : TyX K H v t) (e : PySem.W.kitOne K t (.type "list") = some b) : Val (tCB (rIsi K) (tCons ta (tCons (tC (.ty "list")) tNil))) σ H (.bl b) := fun Q q => ha _ ⟨v, .ty "list", t, .type "list", b, rfl, .ty _, ty, e, q⟩
/-- what is no list -/
theorem Good.noList (h : Good H v) (hn : ∀ a n b, v = .ref a → H a ≠ some (.lst [.int n, .ref b])) : ∃ t, TyX K H v t ∧ PySem.W.kitOne K t (.type "list") = some false := by
  cases h with
  | lst e _ _ _ => exact (hn _ _ _ rfl e).elim
  | tup e _ _ _ => exact ⟨_, .base (.tup e), kit_ty (by decide +kernel)⟩
  | sc h =>
    simp only [List.mem_cons, List.not_mem_nil, or_false] at h
    rcases h with rfl | rfl | rfl | rfl | rfl | rfl | rfl | rfl
    · exact ⟨_, .base .non, kit_ty (by decide +kernel)⟩
    · exact ⟨_, .base (.bl _), kit_ty (by decide +kernel)⟩
    · exact ⟨_, .base (.bl _), kit_ty (by decide +kernel)⟩
    · exact ⟨_, .base (.int _), kit_ty (by decide +kernel)⟩
    · exact ⟨_, .base (.int _), kit_ty (by decide +kernel)⟩
    · exact ⟨_, .base (.str _), kit_ty (by decide +kernel)⟩
    · exact ⟨_, .base (.str _), kit_ty (by decide +kernel)⟩
    · exact ⟨_, .base (.int _), kit_ty (by decide +kernel)⟩
  | dic e => exact ⟨_, .base (.dK e), kit_ty (by decide +kernel)⟩
end
section
variable {P : Program} {w : World} {K : PySem.W.Frag} {mg : Str → Option Value} {base : Heap} {f fP fV fO : Addr} {fd fdP fdV fdO : FuncData}
theorem ok_law (F : Fun K "law" "law" sLaw f fd)
    (GP : FnOk P w K mg base CX0 1 fP fdP ["script"] (spPen K)) (bP : L2.Binds K fdP ["script"] []) (kP : PySem.W.keepIn K (.ref fP) = true) (gP : mg "_law_pen" = some (.ref fP))
    (GV : FnOk P w K mg base CX0 3 fV fdV ["pen"] spValue) (bV : L2.Binds K fdV ["pen"] []) (kV : PySem.W.keepIn K (.ref fV) = true) (gV : mg "_law_value" = some (.ref fV))
    (GO : FnOk P w K mg base CX0 5 fO fdO ["kind", "one", "two", "three"] spOne) (bO : L2.Binds K fdO ["kind", "one", "two", "three"] []) (kO : PySem.W.keepIn K (.ref fO) = true) (gO : mg "_law_one" = some (.ref fO))
    (gR : mg "range" = none) (gLen : mg "len" = none) (gZ : mg "zip" = none) (gI : mg "isinstance" = none) (gLi : mg "list" = none) (gRe : mg "repr" = none) :
    FnU P w K mg base 6 f fd ["script"] (spLaw K) := by
  refine fnU_of F scLaw (fun vs H Q E h => ?_) (fun cdv A outer s H vs Q E hr hgd h => ?_)
  · obtain ⟨a, ns, rfl, _⟩ := h
    rfl
  have hu64 : (A.deeper (envOfC "law" (defScope sLaw) s.heap.objs.size f cdv)).units + 64 < cLine := hr.units
  have hu16 : (A.deeper (envOfC "law" (defScope sLaw) s.heap.objs.size f cdv)).units + 16 < cLine := Nat.lt_of_le_of_lt (Nat.add_le_add_left (by decide : 16 ≤ 64) _) hu64
  refine ⟨_, pss_cons (ps_set (i := 1) scLaw.nd rfl (.inl rfl) (pe_call GP (hr.mono (by decide)) rfl gP kP bP .nil pass0 (pa_cons (pv 0) pa_nil)))
    (pss_cons (ps_set (i := 2) scLaw.nd rfl (.inl rfl) (pe_lst (pa_cons pe_str (pa_cons pe_str (pa_cons pe_str (pa_cons pe_str (pa_cons pe_str (pa_cons pe_str pa_nil))))))))
    (pss_cons (ps_set (i := 2) scLaw.nd rfl (.inl rfl) (pe_op op_cat (pv 2) (pe_lst (pa_cons pe_str (pa_cons pe_str (pa_cons pe_str (pa_cons pe_str (pa_cons pe_str pa_nil))))))))
    (pss_cons (ps_set (i := 3) scLaw.nd rfl (.inl rfl) (pe_lst (pa_cons pe_int (pa_cons pe_int (pa_cons pe_int (pa_cons pe_int (pa_cons pe_int (pa_cons pe_int (pa_cons pe_int (pa_cons pe_int (pa_cons pe_int (pa_cons pe_int (pa_cons pe_int pa_nil)))))))))))))
    (pss_cons (ps_for PassesOwn.never rfl (pi_range1 rfl gR (pa_cons pe_int pa_nil)) (pg_name (i := 4) scLaw.nd rfl (.inl rfl))
      (pss_cons (ps_par3 (i := 5) (j := 6) (l := 7) rfl scLaw.nd rfl rfl rfl (by decide) (by decide) (by decide) rfl rfl rfl
          (pa_cons (pe_call GV (hr.mono (by decide)) rfl gV kV bV .nil pass0 (pa_cons (pv 1) pa_nil)) (pa_cons (pe_call GV (hr.mono (by decide)) rfl gV kV bV .nil pass0 (pa_cons (pv 1) pa_nil)) (pa_cons (pe_call GV (hr.mono (by decide)) rfl gV kV bV .nil pass0 (pa_cons (pv 1) pa_nil)) pa_nil))) (by rfl))
      (pss_cons (ps_set (i := 8) scLaw.nd rfl (.inl rfl) (pe_call GO hr rfl gO kO bO .nil pass0 (pa_cons (pv 4) (pa_cons (pv 5) (pa_cons (pv 6) (pa_cons (pv 7) pa_nil))))))
      (pss_cons (ps_if (PW.pt (pw_or (pt_cmpR op_isN1 (pv 8) pe_non (nomark _)) (pw_or1 (pt_cmpR (op_neD hu64) (pe_ix ix_tup (pv 8) pe_int (fun _ _ => rfl)) (pe_lst (pa_cons (pe_ix ix_list (pv 2) (pv 4) (fun _ _ => rfl)) pa_nil)) (nomark _))))) (pss_one (ps_ret pe_bl)) pss_nil)
      (pss_cons (ps_set (i := 9) scLaw.nd rfl (.inl rfl) (pe_slice sl_list (pe_lst (pa_cons (pv 5) (pa_cons (pv 6) (pa_cons (pv 7) pa_nil)))) po_none (po_some (pe_ix ix_list (pv 3) (pv 4) (fun _ _ => rfl)))))
      (pss_cons (ps_if (pt_cmpR op_ne (pe_callB call_lenS rfl gLen boot_len (pa_cons (pe_ix ix_tup (pv 8) pe_int (fun _ _ => rfl)) pa_nil)) (pe_callB call_lenS rfl gLen boot_len (pa_cons (pv 9) pa_nil)) (nomark _)) (pss_one (ps_ret pe_bl)) pss_nil)
      (pss_one (ps_for PassesOwn.never rfl (pi_zip rfl gZ (pa_cons (pe_ix ix_tup (pv 8) pe_int (fun _ _ => rfl)) (pa_cons (pv 9) pa_nil)))
          (pg_tup rfl (pgs_cons (pg_name (i := 10) scLaw.nd rfl (.inl rfl)) (pgs_cons (pg_name (i := 11) scLaw.nd rfl (.inl rfl)) pgs_nil)))
        (pss_cons (ps_if (pt_val (pe_callB (id := "isinstance") (r := rIsi K) call_isi rfl gI (by decide +kernel) (pa_cons (pv 11) (pa_cons (pe_bltn (v := .ty "list") rfl gLi (by decide +kernel) rfl) pa_nil)))) (pss_one (ps_expr (pe_bm PySem.F.plainAttrs_list PySem.F.slot_list_append PySem.F.type_list_append mt_append (pv 11) (pa_cons pe_str pa_nil)))) pss_nil)
        (pss_one (ps_if (pt_cmpR op_ne (pe_callB (call_repr hgd hu16) rfl gRe (by decide +kernel) (pa_cons (pv 10) pa_nil)) (pe_callB (call_repr hgd hu16) rfl gRe (by decide +kernel) (pa_cons (pv 11) pa_nil)) (nomark _)) (pss_one (ps_ret pe_bl)) pss_nil)))))))))))
    (pss_one (ps_ret pe_bl)))))), ?_⟩
  obtain ⟨a, ns, rfl, hS, hl, hQ⟩ := h
  refine ⟨_, rfl, a, ns, rfl, hS, hl, fun p H1 hp s1 pen1 => ?_⟩
  refine ⟨(show 6 ≤ sizeLine by decide), fun l1 hl1 => ?_⟩
  refine ⟨_, rfl, (show 5 ≤ sizeLine by decide), fun l2 hl2 => ⟨l1, l2, [V.str "BadText", .str "BadName", .str "BadNumber", .str "BadRow", .str "NoName", .str "TakenName"], [V.str "Unlike", .str "TooMany", .str "NotKept", .str "NothingToUndo", .str "NothingToRedo"], rfl, rfl, by rw [upd_ne (Ne.symm (upd_none hl2).1)]; exact upd_same, upd_same, (show 11 ≤ sizeLine by decide), fun l3 hl3 => ?_⟩⟩
  refine ⟨(show 11 ≤ sizeLine by decide), fun lz hlz => ?_⟩
  have zl : l3 ≠ lz := Ne.symm (upd_none hlz).1
  have pen5 := (((pen1.new (o := .lst _) hl1).new (o := .lst _) hl2).new (o := .lst _) hl3).new (o := .lst sizesV) hlz
  refine ⟨11, rfl, by decide, by decide, for_range (n := 11) (fun _ σ' H' => Pen H' p ∧ H' l3 = some (.lst namesV) ∧ H' lz = some (.lst sizesV) ∧ ∃ o0 o4 o5 o6 o7 o8 o9 o10 o11, σ' = [o0, some (.ref p), some (.ref l3), some (.ref lz), o4, o5, o6, o7, o8, o9, o10, o11])
    ⟨pen5, by rw [upd_ne zl]; exact upd_same, upd_same, _, _, _, _, _, _, _, _, _, rfl⟩ (fun i σ' H' hi hp' => ?_) (fun σ' H' _ => hQ H')⟩
  obtain ⟨pen, hn, hz, o0, o4, o5, o6, o7, o8, o9, o10, o11, rfl⟩ := hp'
  rw [Int.zero_add]
  refine ⟨_, rfl, p, rfl, pen, fun v1 Ha sa pa sh1 => ⟨_, rfl, p, rfl, pa, fun v2 Hb sb pb sh2 => ⟨_, rfl, p, rfl, pb, fun v3 Hc sc pc sh3 => ⟨v1, v2, v3, rfl, ?_⟩⟩⟩⟩
  have G3 := goods3 pa pb sb sc sh1 sh2 sh3
  have toC : ∀ b xs, H' b = some (.lst xs) → Hc b = some (.lst xs) := fun b xs e => but_k pb sc _ _ (but_k pa sb _ _ (but_k pen sa _ _ e (.inl ⟨_, rfl⟩)) (.inl ⟨_, rfl⟩)) (.inl ⟨_, rfl⟩)
  have hnC := toC _ _ hn
  have hzC := toC _ _ hz
  refine ⟨_, rfl, _, rfl, _, rfl, _, rfl, i, v1, v2, v3, hi, rfl, fun t l m Hd sd hm et el em => ?_⟩
  -- told is None or told[0] != [names[kind]]
  refine (ans_isN (x := .ref t) (val_var rfl) rfl) _ (iteF ?_)
  refine (val_ixT (val_var rfl) val_c (SqT.of et) rfl) _ ?_
  refine (va_cons (val_ixL (val_var rfl) (val_var rfl) (SqL.of (sd _ _ hnC)) (names_at hi)) va_nil) _ ⟨(show 1 ≤ sizeLine by decide), fun q hq => ?_⟩
  have sq : Same Hd (upd Hd q (.lst [.str (nm i)])) := fun b o e => by rw [upd_ne (ne_of_none e hq)]; exact e
  refine ⟨.list [.str (nm i)], .list [.str (nm i)], .lst (SqL.of (sq _ _ el)) (.cons (.str _) .nil), .lst (SqL.of upd_same) (.cons (.str _) .nil), shp_nm hi, shp_nm hi, _, rfl, ?_⟩
  rw [eqv_one]
  refine iteF (st_next ?_)
  -- due = [one, two, three][:sizes[kind]]
  have sDq : Same Hc (upd Hd q (.lst [.str (nm i)])) := sd.trans sq
  generalize upd Hd q (.lst [.str (nm i)]) = Hq at sq sDq
  refine ⟨_, rfl, _, rfl, _, rfl, (show 3 ≤ sizeLine by decide), fun l4 hl4 => ?_⟩
  have s4 : Same Hq (upd Hq l4 (.lst [v1, v2, v3])) := fun b o e => by rw [upd_ne (ne_of_none e hl4)]; exact e
  have e4 : upd Hq l4 (.lst [v1, v2, v3]) l4 = some (.lst [v1, v2, v3]) := upd_same
  generalize upd Hq l4 (.lst [v1, v2, v3]) = H4 at s4 e4
  refine (val_ixL (val_var rfl) (val_var rfl) (SqL.of (s4 _ _ (sDq _ _ hzC))) (sizes_at hi)) _ ⟨_, rfl, l4, [v1, v2, v3], rfl, SqL.of e4, fun du hdu => ?_⟩
  rw [cut_vals hi]
  have s5 : Same H4 (upd H4 du (.lst (vals i v1 v2 v3))) := fun b o e => by rw [upd_ne (ne_of_none e hdu)]; exact e
  have e5 : upd H4 du (.lst (vals i v1 v2 v3)) du = some (.lst (vals i v1 v2 v3)) := upd_same
  generalize upd H4 du (.lst (vals i v1 v2 v3)) = H5 at s5 e5
  have sC5 : Same Hc H5 := (sDq.trans s4).trans s5
  have sd5 : Same Hd H5 := (sq.trans s4).trans s5
  have hduC : Hc du = none := (sDq.trans s4).free hdu
  have hmC : Hc m = none := hm
  have Gv : Goods H5 (vals i v1 v2 v3) := by rw [vals_take hi]; exact (G3.same sC5).take _
  have hne : ∀ u ∈ vals i v1 v2 v3, u ≠ .ref m ∧ u ≠ .ref du := fun u hu => by
    have hu3 : u ∈ [v1, v2, v3] := by rw [vals_take hi] at hu; exact List.mem_of_mem_take hu
    have gu := G3.good hu3
    exact ⟨fun z => (by rw [z] at gu; exact gu.ref_some hmC), fun z => (by rw [z] at gu; exact gu.ref_some hduC)⟩
  generalize hvs : vals i v1 v2 v3 = vs at Gv hne e5 em
  -- len(told[1]) != len(due)
  dsimp only
  refine st_seq (st_no (ans_ne (x := .int vs.length) (y := .int vs.length) (val_len (val_ixT (val_var rfl) val_c (SqT.of (sd5 _ _ et)) rfl) (SqL.of (sd5 _ _ em))) (val_len (val_var rfl) (SqL.of e5)) rfl (by simp)) (st_next ?_))
  dsimp only
  have penC : Pen Hc p := pc
  unfold tFor iZip
  refine (va_cons (val_ixT (val_var rfl) val_c (SqT.of (sd5 _ _ et)) rfl) (va_cons (val_var rfl) va_nil)) _ ⟨m, du, vs, vs, rfl, SqL.of (sd5 _ _ em), SqL.of e5, ?_⟩
  refine for_it (walk_zip (n := vs.length) (by rw [Nat.min_self])) (fun k σ' H' => (Pen H' p ∧ H' l3 = some (.lst namesV) ∧ H' lz = some (.lst sizesV)) ∧ (H' m = some (.lst vs) ∧ H' du = some (.lst vs)) ∧ Goods H' (vs.drop k) ∧ ∃ o0 o4 o5 o6 o7 o8 o9 o10 o11, σ' = [o0, some (.ref p), some (.ref l3), some (.ref lz), o4, o5, o6, o7, o8, o9, o10, o11])
    ⟨⟨penC.same sC5, sC5 _ _ hnC, sC5 _ _ hzC⟩, ⟨sd5 _ _ em, e5⟩, Gv, _, _, _, _, _, _, _, _, _, rfl⟩ (fun k σ' H' _ h => ⟨SqL.of h.2.1.1, SqL.of h.2.1.2⟩) (fun k x σ' H' H'' hk h y => ?_) (fun σ' H' h => ?_)
  · obtain ⟨⟨penK, hnK, hzK⟩, ⟨hmK, hdK⟩, GK, o0, o4, o5, o6, o7, o8, o9, o10, o11, rfl⟩ := h
    obtain ⟨T, x1, y1, rfl, hT, rfl, hx1, hy1⟩ := y
    obtain rfl : x1 = y1 := Option.some.inj (hx1.symm.trans hy1)
    have hmem : x1 ∈ vs := List.mem_of_getElem? hx1
    have hdrop : vs.drop k = x1 :: vs.drop (k + 1) := by
      obtain ⟨hlt, e⟩ := List.getElem?_eq_some_iff.mp hx1
      rw [← e]
      exact List.drop_eq_getElem_cons hlt
    rw [hdrop] at GK
    have sT : Same H' (upd H' T (.tup [x1, x1])) := fun b o e => by rw [upd_ne (ne_of_none e hT)]; exact e
    have eT : upd H' T (.tup [x1, x1]) T = some (.tup [x1, x1]) := upd_same
    generalize upd H' T (.tup [x1, x1]) = HT at sT eT
    have GT := GK.same sT
    have penT := penK.same sT
    refine ⟨T, [x1, x1], rfl, SqT.of eT, rfl, x1, [x1], rfl, x1, [], rfl, rfl, ?_⟩
    show tSeq _ _ _ [o0, some (V.ref p), some (V.ref l3), some (V.ref lz), o4, o5, o6, o7, o8, o9, some x1, some x1] HT
    cases GT with
    | cons g dist r =>
      by_cases hL : ∃ a n b, x1 = .ref a ∧ HT a = some (.lst [.int n, .ref b])
      · obtain ⟨a1, n1, b1, rfl, ea⟩ := hL
        obtain ⟨n', b', ea', eb', hn0, hn1⟩ : ∃ n b, HT a1 = some (.lst [.int n, .ref b]) ∧ HT b = some (.lst []) ∧ 0 ≤ n ∧ n < 100 := by
          cases g with
          | lst e1 e2 h0 h1 => exact ⟨_, _, e1, e2, h0, h1⟩
          | tup e1 _ _ _ => rw [ea] at e1; cases e1
          | sc h => simp at h
          | dic e1 => rw [ea] at e1; cases e1
        have hne1 := hne _ hmem
        have am : m ≠ a1 := fun z => hne1.1 (by rw [z])
        have ad : du ≠ a1 := fun z => hne1.2 (by rw [z])
        have an : l3 ≠ a1 := ne_of (sT _ _ hnK) ea' (fun z => by injection z with z; cases z)
        have az : lz ≠ a1 := ne_of (sT _ _ hzK) ea' (fun z => by injection z with z; injection z with _ z; injection z with z; cases z)
        have ab : b' ≠ a1 := ne_of eb' ea' (fun z => by injection z with z; cases z)
        refine st_seq (st_yes (ans_val (val_isi (val_var rfl) (.base (.lst ea')) (kit_ty (by decide +kernel)))) ?_)
        refine ⟨_, rfl, .inl ⟨rfl, _, SqL.of ea'⟩, a1, _, _, rfl, rfl, ea', (show 2 < sizeLine by decide), ?_⟩
        obtain ⟨dd, hR, hSh⟩ := later_shown (K := K) (H := upd HT a1 (.lst ([V.int n', .ref b'] ++ [.str "later"]))) (a := a1) (b := b') (n := n') upd_same (by rw [upd_ne ab]; exact eb') hn0 hn1
        refine st_no (ans_ne (x := .str dd.shown) (y := .str dd.shown) (val_repr (val_var rfl) hR hSh) (val_repr (val_var rfl) hR hSh) rfl (by simp)) (st_next ?_)
        refine ⟨⟨penT.write ea', by rw [upd_ne an]; exact sT _ _ hnK, by rw [upd_ne az]; exact sT _ _ hzK⟩, ⟨by rw [upd_ne am]; exact sT _ _ hmK, by rw [upd_ne ad]; exact sT _ _ hdK⟩, r.write ea' (dist a1 _ rfl ea'), _, _, _, _, _, _, _, _, _, rfl⟩
      · have hN : ∀ a n b, x1 = .ref a → HT a ≠ some (.lst [.int n, .ref b]) := fun a n b e1 e2 => hL ⟨a, n, b, e1, e2⟩
        obtain ⟨ty, hty, hk1⟩ := g.noList (K := K) hN
        refine st_seq (st_no (ans_val (val_isi (val_var rfl) hty hk1)) (st_next ?_))
        obtain ⟨dd, hR, hSh⟩ := g.shown (K := K) hN
        refine st_no (ans_ne (x := .str dd.shown) (y := .str dd.shown) (val_repr (val_var rfl) hR hSh) (val_repr (val_var rfl) hR hSh) rfl (by simp)) (st_next ?_)
        exact ⟨⟨penT, sT _ _ hnK, sT _ _ hzK⟩, ⟨sT _ _ hmK, sT _ _ hdK⟩, r, _, _, _, _, _, _, _, _, _, rfl⟩
  · obtain ⟨⟨penK, hnK, hzK⟩, _, _, hσ⟩ := h
    exact ⟨penK, hnK, hzK, hσ⟩
end
end K0
set_option Elab.async false
set_option linter.all false
set_option maxRecDepth 100000
set_option maxHeartbeats 0
namespace K0
open PySem PySem.Spec PyProof.Rows L2
/-! ### what is read of the heap behind the top -/
def oexB (K : PySem.W.Frag) (C : Addr) : Bool := match K.lookup C with
  | some ⟨.type "type", _, .cls cd, sl⟩ => (match cd.mro, sl.toList with
    | .ref C' :: bm, [_, _, _, _, some (.builtin n), _] => (C' == C && n == "ValueError.__new__") && ((!cd.hasDel && cd.hasDict) && HandSPX.refsVE bm)
    | _, _ => false)
  | _ => false
theorem oexB_ok {K : PySem.W.Frag} {C : Addr} (q : oexB K C = true) : ∃ nm q N bs bm sn sub ab col dd k0 k1 k2 k3 k5, K.lookup C = some (excClassObj nm q C N bs bm true sn sub ab col dd k0 k1 k2 k3 k5 "ValueError.__new__") ∧ HandSPX.refsVE bm = true := by
  unfold oexB at q
  split at q
  · rename_i dd cd sl ho
    split at q
    · rename_i C' bm k0 k1 k2 k3 n k5 hm hs
      simp only [Bool.and_eq_true, beq_iff_eq, Bool.not_eq_true'] at q
      obtain ⟨⟨rfl, rfl⟩, ⟨hdel, hdct⟩, ht⟩ := q
      obtain ⟨nm, bs, mro, ns, qn, hd, sn, sub, ab, col, del⟩ := cd
      dsimp only at hm hdel hdct
      subst hm hdel hdct
      have hsl : sl = #[k0, k1, k2, k3, some (.builtin "ValueError.__new__"), k5] := by
        obtain ⟨l⟩ := sl
        dsimp only at hs
        rw [hs]
      subst hsl
      exact ⟨nm, qn, ns, bs, bm, sn, sub, ab, col, dd, k0, k1, k2, k3, k5, ho, ht⟩
    · cases q
  · cases q
def fldsOf (j : Nat) : List Str := match j with
  | 0 => ["line", "word"]
  | 1 => ["name"]
  | 2 => ["what", "number"]
  | 3 => ["what", "row"]
  | 4 => ["name"]
  | 5 => ["name"]
  | 6 => ["what"]
  | 7 => ["what", "many", "limit"]
  | 8 => ["promise", "witness"]
  | 9 => []
  | _ => []
abbrev cAt (K : PySem.W.Frag) (j : Nat) : Addr := He.ga K (nm j)
abbrev iAt (K : PySem.W.Frag) (j : Nat) : Addr := He.ma K (cAt K j) "__init__"
def bit (b : Bool) (r : Bool) : Bool := match b with
  | true => r
  | false => false
theorem bit_ok {b r : Bool} (h : bit b r = true) : b = true ∧ r = true := by
  cases b with
  | true => exact ⟨rfl, h⟩
  | false => cases h
/-- a class of the errors -/
def clB (K : PySem.W.Frag) (C I : Addr) (j : Nat) : Bool :=
  bit (oexB K C) (bit (decide (PySem.W.findIn K (.ref C) "__setattr__" = some (some (.builtin "object.__setattr__")))) (bit (decide (PySem.W.subIn K (.ref C) (.type "BaseException") = some true)) (bit (decide (PySem.W.typeIn K (.ref C) = some (.type "type"))) (bit (PySem.W.keepIn K (.ref C))
  (bit (decide (PySem.W.findIn K (.ref C) "__init__" = some (some (.ref I)))) (bit (decide (PySem.W.typeIn K (.ref I) = some (.type "function"))) (bit (PySem.W.keepIn K (.ref I))
  (bit (decide (PySem.W.findIn K (.ref C) "__getattribute__" = some (some (.builtin "BaseException.__getattribute__")))) (bit (decide (PySem.W.findIn K (.ref C) "__getattr__" = some none)) (bit (PySem.W.hasDictIn K C) (bit (decide (PySem.W.findIn K (.ref C) "__class__" = some (some (.builtin "object.__class__"))))
  (bit (decide (PySem.W.mroIn K C (.type "object") = some true)) (bit ((fldsOf j).all fun f => decide (PySem.W.findIn K (.ref C) f = some none))
  (bit ((List.range 11).all fun i => decide (PySem.W.kitOne K (.ref C) (.ref (cAt K i)) = some (decide (j = i)))) (bit (decide (PySem.W.kitOne K (.ref C) (.type "ValueError") = some true)) (decide (PySem.W.exmOne K (.ref C) (.ref (He.ga K "HeapError")) = some true)))))))))))))))))
def heB (K : PySem.W.Frag) : Bool :=
  bit (decide (PySem.W.specialIn K (.ref (He.ga K "HeapError")) "__getattribute__" = some (some (.builtin "type.__getattribute__")))) (bit (PySem.W.readsIn K (He.ga K "HeapError") (.type "type"))
  (bit (match PySem.W.findCls K (.ref (He.ga K "HeapError")) (.type "type") "__init__" with
    | some (.val (.builtin n)) => n == "ValueError.__init__"
    | _ => false)
  (bit (decide (PySem.W.specialIn K (.builtin "object.__class__") "__get__" = some (some (.builtin "getset_descriptor.__get__")))) (decide (PySem.W.takesIn K (.builtin "object.__class__") = some true)))))
def exB (K : PySem.W.Frag) : Bool := bit (heB K) ((List.range 11).all fun j => clB K (cAt K j) (iAt K j) j)
structure ClF (K : PySem.W.Frag) (C I : Addr) (j : Nat) : Prop where
  T : OexC K C
  iC : PySem.W.findIn K (.ref C) "__init__" = some (some (.ref I))
  tI : PySem.W.typeIn K (.ref I) = some (.type "function")
  kI : PySem.W.keepIn K (.ref I) = true
  ga : PySem.W.findIn K (.ref C) "__getattribute__" = some (some (.builtin "BaseException.__getattribute__"))
  gt : PySem.W.findIn K (.ref C) "__getattr__" = some none
  hd : PySem.W.hasDictIn K C = true
  hc : PySem.W.findIn K (.ref C) "__class__" = some (some (.builtin "object.__class__"))
  hm : PySem.W.mroIn K C (.type "object") = some true
  no : ∀ f ∈ fldsOf j, PySem.W.findIn K (.ref C) f = some none
  iso : ∀ i, i < 11 → PySem.W.kitOne K (.ref C) (.ref (cAt K i)) = some (decide (j = i))
  ve : PySem.W.kitOne K (.ref C) (.type "ValueError") = some true
  te : PySem.W.exmOne K (.ref C) (.ref (He.ga K "HeapError")) = some true
theorem clB_ok {K : PySem.W.Frag} {C I : Addr} {j : Nat} (h : clB K C I j = true) : ClF K C I j := by
  unfold clB at h
  obtain ⟨a1, h⟩ := bit_ok h
  obtain ⟨a2, h⟩ := bit_ok h
  obtain ⟨a3, h⟩ := bit_ok h
  obtain ⟨a4, h⟩ := bit_ok h
  obtain ⟨a5, h⟩ := bit_ok h
  obtain ⟨a6, h⟩ := bit_ok h
  obtain ⟨a7, h⟩ := bit_ok h
  obtain ⟨a8, h⟩ := bit_ok h
  obtain ⟨a9, h⟩ := bit_ok h
  obtain ⟨a10, h⟩ := bit_ok h
  obtain ⟨a11, h⟩ := bit_ok h
  obtain ⟨a12, h⟩ := bit_ok h
  obtain ⟨a13, h⟩ := bit_ok h
  obtain ⟨a14, h⟩ := bit_ok h
  obtain ⟨a15, h⟩ := bit_ok h
  obtain ⟨a16, a17⟩ := bit_ok h
  exact ⟨⟨oexB_ok a1, of_decide_eq_true a2, of_decide_eq_true a3, of_decide_eq_true a4, a5⟩, of_decide_eq_true a6, of_decide_eq_true a7, a8, of_decide_eq_true a9, of_decide_eq_true a10, a11, of_decide_eq_true a12, of_decide_eq_true a13,
    fun f hf => of_decide_eq_true (List.all_eq_true.mp a14 f hf), fun i hi => of_decide_eq_true (List.all_eq_true.mp a15 i (List.mem_range.mpr hi)), of_decide_eq_true a16, of_decide_eq_true a17⟩
/-! ### the Hook -/
def tab : List He.FnD := [⟨("_law_pen", none), "_law_pen", "_law_pen", defArgs (topS 14), defBody (topS 14), defScope (topS 14)⟩, ⟨("_law_draw", none), "_law_draw", "_law_draw", defArgs (topS 15), defBody (topS 15), defScope (topS 15)⟩, ⟨("_law_pick", none), "_law_pick", "_law_pick", defArgs (topS 16), defBody (topS 16), defScope (topS 16)⟩, ⟨("_law_value", none), "_law_value", "_law_value", defArgs (topS 17), defBody (topS 17), defScope (topS 17)⟩, ⟨("_law_classes", none), "_law_classes", "_law_classes", defArgs (topS 18), defBody (topS 18), defScope (topS 18)⟩, ⟨("_law_more_kinds", none), "_law_more_kinds", "_law_more_kinds", defArgs (topS 19), defBody (topS 19), defScope (topS 19)⟩, ⟨("_law_fall", none), "_law_fall", "_law_fall", defArgs (topS 20), defBody (topS 20), defScope (topS 20)⟩, ⟨("_law_other_fall", none), "_law_other_fall", "_law_other_fall", defArgs (topS 21), defBody (topS 21), defScope (topS 21)⟩, ⟨("_law_fields", none), "_law_fields", "_law_fields", defArgs (topS 22), defBody (topS 22), defScope (topS 22)⟩, ⟨("_law_one", none), "_law_one", "_law_one", defArgs (topS 23), defBody (topS 23), defScope (topS 23)⟩, ⟨("law", none), "law", "law", defArgs (topS 24), defBody (topS 24), defScope (topS 24)⟩]
def tab2 : List He.FnD := [⟨("BadText", some "__init__"), "__init__", "BadText.__init__", defArgs (inClass (topS 2) 0), defBody (inClass (topS 2) 0), defScope (inClass (topS 2) 0)⟩, ⟨("BadName", some "__init__"), "__init__", "BadName.__init__", defArgs (inClass (topS 3) 0), defBody (inClass (topS 3) 0), defScope (inClass (topS 3) 0)⟩, ⟨("BadNumber", some "__init__"), "__init__", "BadNumber.__init__", defArgs (inClass (topS 4) 0), defBody (inClass (topS 4) 0), defScope (inClass (topS 4) 0)⟩, ⟨("BadRow", some "__init__"), "__init__", "BadRow.__init__", defArgs (inClass (topS 5) 0), defBody (inClass (topS 5) 0), defScope (inClass (topS 5) 0)⟩, ⟨("NoName", some "__init__"), "__init__", "NoName.__init__", defArgs (inClass (topS 6) 0), defBody (inClass (topS 6) 0), defScope (inClass (topS 6) 0)⟩, ⟨("TakenName", some "__init__"), "__init__", "TakenName.__init__", defArgs (inClass (topS 7) 0), defBody (inClass (topS 7) 0), defScope (inClass (topS 7) 0)⟩, ⟨("Unlike", some "__init__"), "__init__", "Unlike.__init__", defArgs (inClass (topS 8) 0), defBody (inClass (topS 8) 0), defScope (inClass (topS 8) 0)⟩, ⟨("TooMany", some "__init__"), "__init__", "TooMany.__init__", defArgs (inClass (topS 9) 0), defBody (inClass (topS 9) 0), defScope (inClass (topS 9) 0)⟩, ⟨("NotKept", some "__init__"), "__init__", "NotKept.__init__", defArgs (inClass (topS 10) 0), defBody (inClass (topS 10) 0), defScope (inClass (topS 10) 0)⟩, ⟨("NothingToUndo", some "__init__"), "__init__", "NothingToUndo.__init__", defArgs (inClass (topS 11) 0), defBody (inClass (topS 11) 0), defScope (inClass (topS 11) 0)⟩, ⟨("NothingToRedo", some "__init__"), "__init__", "NothingToRedo.__init__", defArgs (inClass (topS 12) 0), defBody (inClass (topS 12) 0), defScope (inClass (topS 12) 0)⟩]
def gls : List He.Fa := [.glo "_law_pen", .glo "_law_draw", .glo "_law_pick", .glo "_law_value", .glo "_law_classes", .glo "_law_more_kinds", .glo "_law_fall", .glo "_law_other_fall", .glo "_law_fields", .glo "_law_one", .glo "law", .glo "BadText", .glo "BadName", .glo "BadNumber", .glo "BadRow", .glo "NoName", .glo "TakenName", .glo "Unlike", .glo "TooMany", .glo "NotKept", .glo "NothingToUndo", .glo "NothingToRedo", .glo "HeapError", .free "int", .free "len", .free "list", .free "isinstance", .free "range", .free "zip", .free "repr", .free "ValueError"]
def kps : List He.Fa := [.keep "_law_pen", .keep "_law_draw", .keep "_law_pick", .keep "_law_value", .keep "_law_classes", .keep "_law_more_kinds", .keep "_law_fall", .keep "_law_other_fall", .keep "_law_fields", .keep "_law_one", .keep "law"]
abbrev ObsT : Type := Bool × List He.FnV
def asK (g : Addr → Option Obj) : List Addr := PySem.cStatics :: He.asD g 4
def obsK (K : PySem.W.Frag) : ObsT := (bit (gls.all fun f => f.ok K) (bit (kps.all fun f => f.ok K) (bit ((tab ++ tab2).all fun d => (He.Fa.code d.at_ d.qual).ok K) (exB K))), (tab ++ tab2).map fun d => He.fnObs K d.at_)
def valK : ObsT := (true, (tab ++ tab2).map He.FnD.val)
def obsG (g : Addr → Option Obj) : ObsT := obsK (He.frG g (asK g))
def hookK : PySem.W.Hook where
  α := ObsT
  obs := fun s => obsG s.heap.get?
  val := fun _ => valK
  says := fun _ h => ∃ K : PySem.W.Frag, K.In h ∧ obsK K = valK
  of := fun _ _ e => ⟨_, He.frG_in, e⟩
  keeps := fun _ _ _ ⟨K, hK, c⟩ k => ⟨K, PySem.W.Frag.In.keeps hK k, c⟩
abbrev R : PySem.W.OpenRow := PySem.W.OpenLaw.row PySem.Challenge.rw_heapshown_k00_errors_as_told
def ob (s : PySem.W.SharedT) : ObsT := obsG (HandSHeadRun.getT s)
theorem ob_eq (s : PySem.W.SharedT) : ob s = hookK.obs s.abs := by
  have e : HandSHeadRun.getT s = s.abs.heap.get? := funext fun a => HandSHeadRun.getT_eq s a
  show obsG (HandSHeadRun.getT s) = obsG s.abs.heap.get?
  rw [e]
def loose : List PySem.Str := ["_law_pen", "_law_draw", "_law_pick", "_law_value", "_law_classes", "_law_more_kinds", "_law_fall", "_law_other_fall", "_law_fields", "_law_one", "BadText", "BadName", "BadNumber", "BadRow", "NoName", "TakenName", "Unlike", "TooMany", "NotKept", "NothingToUndo", "NothingToRedo", "HeapError"]
theorem run (w : World) : HandSHeadRun.RunEq R (PySem.W.view R.prog [24]) hookK ob 4000 loose w := by
  intro os
  kernel_rfl
end K0
set_option Elab.async false
set_option linter.all false
set_option maxRecDepth 100000
set_option maxHeartbeats 4000000
namespace K0
open PySem PySem.Spec PyProof.Rows L2
/-! ### the facts, by names -/
section
variable {K : PySem.W.Frag} {h : Heap} {mg : Str → Option Value}
theorem obs_parts (c : obsK K = valK) : (∀ f ∈ gls, f.ok K = true) ∧ (∀ f ∈ kps, f.ok K = true) ∧ (∀ d ∈ tab ++ tab2, (He.Fa.code d.at_ d.qual).ok K = true) ∧ heB K = true ∧ (∀ j, j < 11 → ClF K (cAt K j) (iAt K j) j) ∧ ∀ (i : Nat) (d : He.FnD), (tab ++ tab2)[i]? = some d → He.fnObs K d.at_ = d.val := by
  have c1 : bit (gls.all fun f => f.ok K) (bit (kps.all fun f => f.ok K) (bit ((tab ++ tab2).all fun d => (He.Fa.code d.at_ d.qual).ok K) (exB K))) = true := congrArg (fun z : ObsT => z.1) c
  have c2 : (tab ++ tab2).map (fun d => He.fnObs K d.at_) = (tab ++ tab2).map He.FnD.val := congrArg (fun z : ObsT => z.2) c
  obtain ⟨h1, c1⟩ := bit_ok c1
  obtain ⟨h2, c1⟩ := bit_ok c1
  obtain ⟨h3, c1⟩ := bit_ok c1
  obtain ⟨h4, h5⟩ := bit_ok c1
  refine ⟨fun f hf => List.all_eq_true.mp h1 f hf, fun f hf => List.all_eq_true.mp h2 f hf, fun d hd => List.all_eq_true.mp h3 d hd, h4, fun j hj => clB_ok (List.all_eq_true.mp h5 j (List.mem_range.mpr hj)), fun i d hi => ?_⟩
  have e2 : ((tab ++ tab2).map fun d => He.fnObs K d.at_)[i]? = ((tab ++ tab2).map He.FnD.val)[i]? := by rw [c2]
  rw [List.getElem?_map, List.getElem?_map, hi] at e2
  exact Option.some.inj e2
theorem glo_of (X : K.In h) (G : h.Ns mainGlobals mg) (c : obsK K = valK) {x : Str} (i : Nat) (e : gls[i]? = some (.glo x)) : mg x = some (.ref (He.ga K x)) := He.glo_ok X G ((obs_parts c).1 _ (List.mem_of_getElem? e))
theorem free_of (X : K.In h) (G : h.Ns mainGlobals mg) (c : obsK K = valK) {x : Str} (i : Nat) (e : gls[i]? = some (.free x)) : mg x = none := He.free_ok X G ((obs_parts c).1 _ (List.mem_of_getElem? e))
theorem keep_of (c : obsK K = valK) {x : Str} (i : Nat) (e : kps[i]? = some (.keep x)) : PySem.W.keepIn K (.ref (He.ga K x)) = true := (obs_parts c).2.1 _ (List.mem_of_getElem? e)
theorem fun_of (c : obsK K = valK) {p : Str × Option Str} {x q : Str} {st : Stmt} (i : Nat) (e : (tab ++ tab2)[i]? = some ⟨p, x, q, defArgs st, defBody st, defScope st⟩) (k : PySem.W.keepIn K (.ref (He.fAd K p)) = true) : ∃ fd, Fun K x q st (He.fAd K p) fd := by
  obtain ⟨oc, od, osl, kV, doc, pm, an, cdv, ct, l, cd⟩ := He.fn_ok ((obs_parts c).2.2.2.2.2 i _ e) ((obs_parts c).2.2.1 _ (List.mem_of_getElem? e))
  exact ⟨_, fun_mk l cd k⟩
theorem he_of (X : K.In h) (G : h.Ns mainGlobals mg) (c : obsK K = valK) : HeC K mg (He.ga K "HeapError") ∧ PySem.W.specialIn K (.builtin "object.__class__") "__get__" = some (some (.builtin "getset_descriptor.__get__")) ∧ PySem.W.takesIn K (.builtin "object.__class__") = some true := by
  have hb := (obs_parts c).2.2.2.1
  unfold heB at hb
  obtain ⟨a1, hb⟩ := bit_ok hb
  obtain ⟨a2, hb⟩ := bit_ok hb
  obtain ⟨a3, hb⟩ := bit_ok hb
  obtain ⟨a4, a5⟩ := bit_ok hb
  refine ⟨⟨glo_of X G c 22 rfl, of_decide_eq_true a1, a2, ?_⟩, of_decide_eq_true a4, of_decide_eq_true a5⟩
  split at a3
  · rename_i n hn
    rw [hn, beq_iff_eq.mp a3]
  · cases a3
theorem kc_of (X : K.In h) (G : h.Ns mainGlobals mg) (c : obsK K = valK) : KC K mg (cAt K) := by
  have C := (obs_parts c).2.2.2.2.1
  obtain ⟨_, hn, ht⟩ := he_of X G c
  exact {
    iso := fun j i hj hi => (C j hj).iso i hi
    ex := fun j hj => ⟨(C j hj).ga, (C j hj).gt, (C j hj).T.exC, (C j hj).hd, (C j hj).hc, hn, ht, (C j hj).hm⟩
    xf := fun j hj => ⟨(C j hj).ga, (C j hj).gt, (C j hj).T.exC, (C j hj).hd⟩
    ve := fun j hj => (C j hj).ve
    isi := free_of X G c 26 rfl
    g0 := glo_of X G c 11 rfl
    g1 := glo_of X G c 12 rfl
    g2 := glo_of X G c 13 rfl
    g3 := glo_of X G c 14 rfl
    g4 := glo_of X G c 15 rfl
    g5 := glo_of X G c 16 rfl
    g6 := glo_of X G c 17 rfl
    g7 := glo_of X G c 18 rfl
    g8 := glo_of X G c 19 rfl
    g9 := glo_of X G c 20 rfl
    g10 := glo_of X G c 21 rfl
    n0_line := (C 0 (by decide)).no "line" (by decide)
    n0_word := (C 0 (by decide)).no "word" (by decide)
    n1_name := (C 1 (by decide)).no "name" (by decide)
    n2_what := (C 2 (by decide)).no "what" (by decide)
    n2_number := (C 2 (by decide)).no "number" (by decide)
    n3_what := (C 3 (by decide)).no "what" (by decide)
    n3_row := (C 3 (by decide)).no "row" (by decide)
    n4_name := (C 4 (by decide)).no "name" (by decide)
    n5_name := (C 5 (by decide)).no "name" (by decide)
    n6_what := (C 6 (by decide)).no "what" (by decide)
    n7_what := (C 7 (by decide)).no "what" (by decide)
    n7_many := (C 7 (by decide)).no "many" (by decide)
    n7_limit := (C 7 (by decide)).no "limit" (by decide)
    n8_promise := (C 8 (by decide)).no "promise" (by decide)
    n8_witness := (C 8 (by decide)).no "witness" (by decide)
  }
end
section
variable {P : Program} {w : World} {K : PySem.W.Frag} {h base : Heap} {mg : Str → Option Value}
theorem xc0 (X : K.In h) (G : h.Ns mainGlobals mg) (c : obsK K = valK) : XC P w K mg base "BadText" (cAt K 0) ["self", "line", "word"] (spI2 (cAt K 0) "line" "word") := by
  have C := (obs_parts c).2.2.2.2.1 0 (by decide)
  obtain ⟨fd, F⟩ := fun_of (x := "__init__") (q := "BadText.__init__") (st := sBadText) (p := ("BadText", some "__init__")) c 11 rfl C.kI
  exact ⟨C.T, glo_of X G c 11 rfl, iAt K 0, fd, C.iC, C.tI, ok_BadText F (he_of X G c).1 C.T ((C).no "line" (by decide)) ((C).no "word" (by decide)), F.binds fun _ _ _ _ _ _ us hl => match us, hl with | [_, _, _], _ => rfl⟩
theorem xc1 (X : K.In h) (G : h.Ns mainGlobals mg) (c : obsK K = valK) : XC P w K mg base "BadName" (cAt K 1) ["self", "name"] (spI1 (cAt K 1) "name") := by
  have C := (obs_parts c).2.2.2.2.1 1 (by decide)
  obtain ⟨fd, F⟩ := fun_of (x := "__init__") (q := "BadName.__init__") (st := sBadName) (p := ("BadName", some "__init__")) c 12 rfl C.kI
  exact ⟨C.T, glo_of X G c 12 rfl, iAt K 1, fd, C.iC, C.tI, ok_BadName F (he_of X G c).1 C.T ((C).no "name" (by decide)), F.binds fun _ _ _ _ _ _ us hl => match us, hl with | [_, _], _ => rfl⟩
theorem xc2 (X : K.In h) (G : h.Ns mainGlobals mg) (c : obsK K = valK) : XC P w K mg base "BadNumber" (cAt K 2) ["self", "what", "number"] (spI2 (cAt K 2) "what" "number") := by
  have C := (obs_parts c).2.2.2.2.1 2 (by decide)
  obtain ⟨fd, F⟩ := fun_of (x := "__init__") (q := "BadNumber.__init__") (st := sBadNumber) (p := ("BadNumber", some "__init__")) c 13 rfl C.kI
  exact ⟨C.T, glo_of X G c 13 rfl, iAt K 2, fd, C.iC, C.tI, ok_BadNumber F (he_of X G c).1 C.T ((C).no "what" (by decide)) ((C).no "number" (by decide)), F.binds fun _ _ _ _ _ _ us hl => match us, hl with | [_, _, _], _ => rfl⟩
theorem xc3 (X : K.In h) (G : h.Ns mainGlobals mg) (c : obsK K = valK) : XC P w K mg base "BadRow" (cAt K 3) ["self", "what", "row"] (spI2 (cAt K 3) "what" "row") := by
  have C := (obs_parts c).2.2.2.2.1 3 (by decide)
  obtain ⟨fd, F⟩ := fun_of (x := "__init__") (q := "BadRow.__init__") (st := sBadRow) (p := ("BadRow", some "__init__")) c 14 rfl C.kI
  exact ⟨C.T, glo_of X G c 14 rfl, iAt K 3, fd, C.iC, C.tI, ok_BadRow F (he_of X G c).1 C.T ((C).no "what" (by decide)) ((C).no "row" (by decide)), F.binds fun _ _ _ _ _ _ us hl => match us, hl with | [_, _, _], _ => rfl⟩
theorem xc4 (X : K.In h) (G : h.Ns mainGlobals mg) (c : obsK K = valK) : XC P w K mg base "NoName" (cAt K 4) ["self", "name"] (spI1 (cAt K 4) "name") := by
  have C := (obs_parts c).2.2.2.2.1 4 (by decide)
  obtain ⟨fd, F⟩ := fun_of (x := "__init__") (q := "NoName.__init__") (st := sNoName) (p := ("NoName", some "__init__")) c 15 rfl C.kI
  exact ⟨C.T, glo_of X G c 15 rfl, iAt K 4, fd, C.iC, C.tI, ok_NoName F (he_of X G c).1 C.T ((C).no "name" (by decide)), F.binds fun _ _ _ _ _ _ us hl => match us, hl with | [_, _], _ => rfl⟩
theorem xc5 (X : K.In h) (G : h.Ns mainGlobals mg) (c : obsK K = valK) : XC P w K mg base "TakenName" (cAt K 5) ["self", "name"] (spI1 (cAt K 5) "name") := by
  have C := (obs_parts c).2.2.2.2.1 5 (by decide)
  obtain ⟨fd, F⟩ := fun_of (x := "__init__") (q := "TakenName.__init__") (st := sTakenName) (p := ("TakenName", some "__init__")) c 16 rfl C.kI
  exact ⟨C.T, glo_of X G c 16 rfl, iAt K 5, fd, C.iC, C.tI, ok_TakenName F (he_of X G c).1 C.T ((C).no "name" (by decide)), F.binds fun _ _ _ _ _ _ us hl => match us, hl with | [_, _], _ => rfl⟩
theorem xc6 (X : K.In h) (G : h.Ns mainGlobals mg) (c : obsK K = valK) : XC P w K mg base "Unlike" (cAt K 6) ["self", "what"] (spI1 (cAt K 6) "what") := by
  have C := (obs_parts c).2.2.2.2.1 6 (by decide)
  obtain ⟨fd, F⟩ := fun_of (x := "__init__") (q := "Unlike.__init__") (st := sUnlike) (p := ("Unlike", some "__init__")) c 17 rfl C.kI
  exact ⟨C.T, glo_of X G c 17 rfl, iAt K 6, fd, C.iC, C.tI, ok_Unlike F (he_of X G c).1 C.T ((C).no "what" (by decide)), F.binds fun _ _ _ _ _ _ us hl => match us, hl with | [_, _], _ => rfl⟩
theorem xc7 (X : K.In h) (G : h.Ns mainGlobals mg) (c : obsK K = valK) : XC P w K mg base "TooMany" (cAt K 7) ["self", "what", "many", "limit"] (spI3 (cAt K 7) "what" "many" "limit") := by
  have C := (obs_parts c).2.2.2.2.1 7 (by decide)
  obtain ⟨fd, F⟩ := fun_of (x := "__init__") (q := "TooMany.__init__") (st := sTooMany) (p := ("TooMany", some "__init__")) c 18 rfl C.kI
  exact ⟨C.T, glo_of X G c 18 rfl, iAt K 7, fd, C.iC, C.tI, ok_TooMany F (he_of X G c).1 C.T ((C).no "what" (by decide)) ((C).no "many" (by decide)) ((C).no "limit" (by decide)), F.binds fun _ _ _ _ _ _ us hl => match us, hl with | [_, _, _, _], _ => rfl⟩
theorem xc8 (X : K.In h) (G : h.Ns mainGlobals mg) (c : obsK K = valK) : XC P w K mg base "NotKept" (cAt K 8) ["self", "promise", "witness"] (spI2 (cAt K 8) "promise" "witness") := by
  have C := (obs_parts c).2.2.2.2.1 8 (by decide)
  obtain ⟨fd, F⟩ := fun_of (x := "__init__") (q := "NotKept.__init__") (st := sNotKept) (p := ("NotKept", some "__init__")) c 19 rfl C.kI
  exact ⟨C.T, glo_of X G c 19 rfl, iAt K 8, fd, C.iC, C.tI, ok_NotKept F (he_of X G c).1 C.T ((C).no "promise" (by decide)) ((C).no "witness" (by decide)), F.binds fun _ _ _ _ _ _ us hl => match us, hl with | [_, _, _], _ => rfl⟩
theorem xc9 (X : K.In h) (G : h.Ns mainGlobals mg) (c : obsK K = valK) : XC P w K mg base "NothingToUndo" (cAt K 9) ["self"] (spI0 (cAt K 9)) := by
  have C := (obs_parts c).2.2.2.2.1 9 (by decide)
  obtain ⟨fd, F⟩ := fun_of (x := "__init__") (q := "NothingToUndo.__init__") (st := sNothingToUndo) (p := ("NothingToUndo", some "__init__")) c 20 rfl C.kI
  exact ⟨C.T, glo_of X G c 20 rfl, iAt K 9, fd, C.iC, C.tI, ok_NothingToUndo F (he_of X G c).1 C.T, F.binds fun _ _ _ _ _ _ us hl => match us, hl with | [_], _ => rfl⟩
theorem xc10 (X : K.In h) (G : h.Ns mainGlobals mg) (c : obsK K = valK) : XC P w K mg base "NothingToRedo" (cAt K 10) ["self"] (spI0 (cAt K 10)) := by
  have C := (obs_parts c).2.2.2.2.1 10 (by decide)
  obtain ⟨fd, F⟩ := fun_of (x := "__init__") (q := "NothingToRedo.__init__") (st := sNothingToRedo) (p := ("NothingToRedo", some "__init__")) c 21 rfl C.kI
  exact ⟨C.T, glo_of X G c 21 rfl, iAt K 10, fd, C.iC, C.tI, ok_NothingToRedo F (he_of X G c).1 C.T, F.binds fun _ _ _ _ _ _ us hl => match us, hl with | [_], _ => rfl⟩
/-- the law keeps its promise, over every base -/
theorem law_ok (X : K.In h) (G : h.Ns mainGlobals mg) (c : obsK K = valK) : ∃ fd : FuncData, (∀ (s : Shared) (u : Value), BindsTo s fd ⟨[u], []⟩ [("script", u)]) ∧ ∀ base : Heap, K.In base → base.Ns mainGlobals mg → FnU P w K mg base 6 (He.ga K "law") fd ["script"] (spLaw K) := by
  obtain ⟨fd0, F0⟩ := fun_of (x := "_law_pen") (q := "_law_pen") (st := topS 14) (p := ("_law_pen", none)) c 0 rfl (keep_of c 0 rfl)
  have b0 : L2.Binds K fd0 ["script"] [] := F0.binds fun _ _ _ _ _ _ us hl => match us, hl with | [_], _ => rfl
  have g0 := glo_of X G c (x := "_law_pen") 0 rfl
  obtain ⟨fd1, F1⟩ := fun_of (x := "_law_draw") (q := "_law_draw") (st := topS 15) (p := ("_law_draw", none)) c 1 rfl (keep_of c 1 rfl)
  have b1 : L2.Binds K fd1 ["pen", "many"] [] := F1.binds fun _ _ _ _ _ _ us hl => match us, hl with | [_, _], _ => rfl
  have g1 := glo_of X G c (x := "_law_draw") 1 rfl
  obtain ⟨fd2, F2⟩ := fun_of (x := "_law_pick") (q := "_law_pick") (st := topS 16) (p := ("_law_pick", none)) c 2 rfl (keep_of c 2 rfl)
  have b2 : L2.Binds K fd2 ["pen", "some"] [] := F2.binds fun _ _ _ _ _ _ us hl => match us, hl with | [_, _], _ => rfl
  have g2 := glo_of X G c (x := "_law_pick") 2 rfl
  obtain ⟨fd3, F3⟩ := fun_of (x := "_law_value") (q := "_law_value") (st := topS 17) (p := ("_law_value", none)) c 3 rfl (keep_of c 3 rfl)
  have b3 : L2.Binds K fd3 ["pen"] [] := F3.binds fun _ _ _ _ _ _ us hl => match us, hl with | [_], _ => rfl
  have g3 := glo_of X G c (x := "_law_value") 3 rfl
  obtain ⟨fd4, F4⟩ := fun_of (x := "_law_classes") (q := "_law_classes") (st := topS 18) (p := ("_law_classes", none)) c 4 rfl (keep_of c 4 rfl)
  have b4 : L2.Binds K fd4 ["e"] [] := F4.binds fun _ _ _ _ _ _ us hl => match us, hl with | [_], _ => rfl
  have g4 := glo_of X G c (x := "_law_classes") 4 rfl
  obtain ⟨fd5, F5⟩ := fun_of (x := "_law_more_kinds") (q := "_law_more_kinds") (st := topS 19) (p := ("_law_more_kinds", none)) c 5 rfl (keep_of c 5 rfl)
  have b5 : L2.Binds K fd5 ["e"] [] := F5.binds fun _ _ _ _ _ _ us hl => match us, hl with | [_], _ => rfl
  have g5 := glo_of X G c (x := "_law_more_kinds") 5 rfl
  obtain ⟨fd6, F6⟩ := fun_of (x := "_law_fall") (q := "_law_fall") (st := topS 20) (p := ("_law_fall", none)) c 6 rfl (keep_of c 6 rfl)
  have b6 : L2.Binds K fd6 ["kind", "one", "two", "three"] [] := F6.binds fun _ _ _ _ _ _ us hl => match us, hl with | [_, _, _, _], _ => rfl
  have g6 := glo_of X G c (x := "_law_fall") 6 rfl
  obtain ⟨fd7, F7⟩ := fun_of (x := "_law_other_fall") (q := "_law_other_fall") (st := topS 21) (p := ("_law_other_fall", none)) c 7 rfl (keep_of c 7 rfl)
  have b7 : L2.Binds K fd7 ["kind", "one", "two", "three"] [] := F7.binds fun _ _ _ _ _ _ us hl => match us, hl with | [_, _, _, _], _ => rfl
  have g7 := glo_of X G c (x := "_law_other_fall") 7 rfl
  obtain ⟨fd8, F8⟩ := fun_of (x := "_law_fields") (q := "_law_fields") (st := topS 22) (p := ("_law_fields", none)) c 8 rfl (keep_of c 8 rfl)
  have b8 : L2.Binds K fd8 ["kind", "e"] [] := F8.binds fun _ _ _ _ _ _ us hl => match us, hl with | [_, _], _ => rfl
  have g8 := glo_of X G c (x := "_law_fields") 8 rfl
  obtain ⟨fd9, F9⟩ := fun_of (x := "_law_one") (q := "_law_one") (st := topS 23) (p := ("_law_one", none)) c 9 rfl (keep_of c 9 rfl)
  have b9 : L2.Binds K fd9 ["kind", "one", "two", "three"] [] := F9.binds fun _ _ _ _ _ _ us hl => match us, hl with | [_, _, _, _], _ => rfl
  have g9 := glo_of X G c (x := "_law_one") 9 rfl
  obtain ⟨fd10, F10⟩ := fun_of (x := "law") (q := "law") (st := topS 24) (p := ("law", none)) c 10 rfl (keep_of c 10 rfl)
  have b10 : L2.Binds K fd10 ["script"] [] := F10.binds fun _ _ _ _ _ _ us hl => match us, hl with | [_], _ => rfl
  have g10 := glo_of X G c (x := "law") 10 rfl
  have T := kc_of X G c
  refine ⟨fd10, fun s u => ?_, fun base _ _ => ?_⟩
  · obtain ⟨oc, od, kV, doc, pm, an, cdv, ct, osl, rfl, _, _⟩ := F10.ex
    exact BindsTo.of_eq rfl
  have G0 : FnOk P w K mg base CX0 1 _ fd0 ["script"] (spPen K) := ok_pen F0 (free_of X G c 23 rfl) (free_of X G c 25 rfl)
  have G1 : FnOk P w K mg base CX0 1 _ fd1 ["pen", "many"] spDraw := ok_draw F1 (free_of X G c 23 rfl) (free_of X G c 24 rfl)
  have G2 : FnOk P w K mg base CX0 2 _ fd2 ["pen", "some"] (spPick K) := ok_pick F2 G1 b1 F1.kp g1 (free_of X G c 24 rfl)
  have G3 : FnOk P w K mg base CX0 3 _ fd3 ["pen"] spValue := ok_value F3 G1 b1 F1.kp g1 G2 b2 F2.kp g2
  have G7 : FnOk P w K mg base (L2.CX P w) 3 _ fd7 ["kind", "one", "two", "three"] (spFall (cAt K) 6 11) := ok_other F7 (xc6 X G c) (xc7 X G c) (xc8 X G c) (xc9 X G c) (xc10 X G c)
  have G6 : FnOk P w K mg base (L2.CX P w) 4 _ fd6 ["kind", "one", "two", "three"] (spFall (cAt K) 0 11) := ok_fall F6 G7 b7 F7.kp g7 (xc0 X G c) (xc1 X G c) (xc2 X G c) (xc3 X G c) (xc4 X G c) (xc5 X G c)
  have G9 : FnOk P w K mg base CX0 5 _ fd9 ["kind", "one", "two", "three"] spOne := ok_one F9 G6 b6 F6.kp g6 F4 b4 g4 F5 b5 g5 F8 b8 g8 T (he_of X G c).1.g (fun j hj => ((obs_parts c).2.2.2.2.1 j hj).te) (free_of X G c 30 rfl)
  exact ok_law F10 G0 b0 F0.kp g0 G3 b3 F3.kp g3 G9 b9 F9.kp g9 (free_of X G c 27 rfl) (free_of X G c 24 rfl) (free_of X G c 28 rfl) (free_of X G c 26 rfl) (free_of X G c 25 rfl) (free_of X G c 29 rfl)
end
/-! ### the law's call -/
section
variable {P : Program} {w : World} {K : PySem.W.Frag} {mg mb : Str → Option Value} {k : Nat} {fa a : Addr} {fd : FuncData} {x : Str} {sp : Sp} {s₁ : Shared} {vs : List Value} {ns : List Int}
/-- from an abstract heap that tracks nothing but, perhaps, the script -/
theorem call_from (KX : K.In s₁.heap) (hns : s₁.heap.Ns mainGlobals mg) (hb : s₁.heap.Ns builtinsNs mb) (hbb : ∀ x : Str, x ≠ "__name__" → mb x = bootBuiltins x) (hlim : s₁.heap.NoLimit) (hg : s₁.gens = #[])
    (ha : s₁.heap.get? a = some { cls := .type "list", data := .seq vs.toArray }) (hr : Room k callerA)
    (F : ∀ base : Heap, K.In base → base.Ns mainGlobals mg → FnU P w K mg base k fa fd [x] sp) (hbind : ∀ (s : Shared) (u : Value), BindsTo s fd ⟨[u], []⟩ [(x, u)])
    {H : Hp} (hsp : sp [.ref a] H (fun v _ => v = .bl true) E0) (hok : HOk P w H s₁.heap) (hA : ∀ b u, H b = some u → b = a ∧ K.lookup a = none ∧ ∃ o y, u = .frz o y) :
    codeAny (model P w) callerA (.call (.ref fa) ⟨[.ref a], []⟩) (fun r s' => r = .ok (.ret (.bool true)) ∧ OldK s₁.heap s'.heap ∧ s'.os = s₁.os ∧ AllBare s'.gens) s₁ := by
  have off : ∀ {b : Addr} {o : Obj}, s₁.heap.get? b = some o → H b = none → (hidT s₁.heap H).get? b = some o := fun e n => hidT_get e n
  have noD : ∀ {b : Addr} {o : Obj} {es : Array DictEntry} {ep : Nat}, s₁.heap.get? b = some o → o.data = .dict es ep → H b = none := fun {b o es ep} e d => by
    cases q : H b with
    | none => rfl
    | some u =>
      obtain ⟨rfl, _⟩ := hA b u q
      rw [ha] at e
      cases e
      exact nomatch d
  have ns2 : ∀ {b : Addr} {m : Str → Option Value}, s₁.heap.Ns b m → (hidT s₁.heap H).Ns b m := fun {b m} ⟨o, es, ep, e, d, r⟩ => ⟨o, es, ep, off e (noD e d), d, r⟩
  have inB : K.In (hidT s₁.heap H) := fun b o e => off (KX b o e) (by
    cases q : H b with
    | none => rfl
    | some u =>
      obtain ⟨rfl, hk, _⟩ := hA b u q
      rw [hk] at e
      cases e)
  have hM : Mod K mg (hidT s₁.heap H) := ⟨inB, ns2 hns, ⟨mb, ns2 hb, hbb⟩, let ⟨mc, h1, h2⟩ := hlim; ⟨mc, ns2 h1, h2⟩⟩
  have e0 : Env0 P w K mg (hidT s₁.heap H) callerA [] s₁ H := ⟨rfl, hM, fun b o e => of_hidT e, Nat.le_of_eq (hidT_size _ _), trivial, (fun b hb => absurd (show b ∈ ([] : List Addr) from hb) List.not_mem_nil), hok, .of_eq hg⟩
  refine codeAny_mono ((F _ inB (ns2 hns)).run callerA [] s₁ H ⟨[.ref a], []⟩ [.ref a] [.ref a] _ _ hr rfl e0 (hbind s₁ (.ref a)) (.cons rfl .nil) hsp) fun r s' h => ?_
  cases r with
  | error e => exact False.elim h
  | ok fl =>
    cases fl with
    | next => exact False.elim h
    | brk => exact False.elim h
    | cont => exact False.elim h
    | ret u =>
      obtain ⟨v, H', os, bare, un, hok', rv, q⟩ := h
      obtain rfl : v = .bl true := q
      obtain rfl : u = Value.bool true := rv
      refine ⟨rfl, OldK.of_keep fun b o e => ?_, os, bare⟩
      cases q : H b with
      | none => exact un.keep b o e q (fun z => nomatch (show b ∈ ([] : List Addr) from z)) (fun z => nomatch z)
      | some y =>
        obtain ⟨_, _, o1, y1, rfl⟩ := hA b y q
        obtain ⟨e1, _⟩ := hok b _ q
        obtain ⟨e2, _⟩ := hok' b _ (un.frzs b o1 _ q)
        rw [e] at e1
        cases e1
        exact e2
theorem law_callU (KX : K.In s₁.heap) (hns : s₁.heap.Ns mainGlobals mg) (hb : s₁.heap.Ns builtinsNs mb) (hbb : ∀ x : Str, x ≠ "__name__" → mb x = bootBuiltins x) (hlim : s₁.heap.NoLimit) (hg : s₁.gens = #[])
    (ha : s₁.heap.get? a = some { cls := .type "list", data := .seq vs.toArray }) (hi : IntsAre vs ns) (hl : ns.length ≤ sizeLine) (hr : Room k callerA)
    (F : ∀ base : Heap, K.In base → base.Ns mainGlobals mg → FnU P w K mg base k fa fd [x] sp) (hbind : ∀ (s : Shared) (u : Value), BindsTo s fd ⟨[u], []⟩ [(x, u)])
    (hsp : ∀ H : Hp, SqL K H a (ns.map V.int) → sp [.ref a] H (fun v _ => v = .bl true) E0) :
    codeAny (model P w) callerA (.call (.ref fa) ⟨[.ref a], []⟩) (fun r s' => r = .ok (.ret (.bool true)) ∧ OldK s₁.heap s'.heap ∧ s'.os = s₁.os ∧ AllBare s'.gens) s₁ := by
  have rv := vals_of_ints hi
  cases hk : K.lookup a with
  | some o =>
    have e := KX a o hk
    rw [ha] at e
    cases e
    exact call_from KX hns hb hbb hlim hg ha hr F hbind (H := fun _ => none) (hsp _ (.inr ⟨_, vs.toArray, _, hk, rfl, rfl, rfl, by rw [List.size_toArray, hi.length]; exact hl, by simpa using rv⟩)) (fun b u z => nomatch (show (none : Option HO) = some u from z)) (fun b u z => nomatch (show (none : Option HO) = some u from z))
  | none =>
    refine call_from KX hns hb hbb hlim hg ha hr F hbind (H := upd (fun _ => none) a (.frz { cls := .type "list", data := .seq vs.toArray } (.lst (ns.map V.int)))) (hsp _ (.inl (.inr ⟨_, upd_same⟩))) (fun b u z => ?_) (fun b u z => ?_)
    · by_cases hba : b = a
      · subst hba
        rw [upd_same] at z
        cases z
        exact ⟨ha, by rw [List.length_map]; exact hl, vs, _, rv, ha⟩
      · rw [upd_ne hba] at z
        cases z
    · by_cases hba : b = a
      · subst hba
        rw [upd_same] at z
        cases z
        exact ⟨rfl, hk, _, _, rfl⟩
      · rw [upd_ne hba] at z
        cases z
end
end K0
open PySem PySem.W PySem.Calls PyProof.Rows
theorem PySem.Challenge.cw_heapshown_k00_errors_as_told_holds : PySem.Challenge.rw_heapshown_k00_errors_as_told.Holds := by
  w_on; o_law
  refine HandSHeadRun.head_any (r := OpenLaw.row PySem.Challenge.rw_heapshown_k00_errors_as_told) (q := view (OpenLaw.row PySem.Challenge.rw_heapshown_k00_errors_as_told).prog [24]) (H := K0.hookK) (ob := K0.ob) (M := 4000) (loose := K0.loose) (d := HandSHeadRun.topDef (OpenLaw.row PySem.Challenge.rw_heapshown_k00_errors_as_told).prog 24) (kwd := []) K0.ob_eq
    (by kernel_rfl) (fun s => by kernel_rfl) K0.run (by kernel_rfl) (by kernel_rfl) (by kernel_rfl) (by rfl) (by first | assumption | decide +kernel) (by decide +kernel) ⟨rfl, rfl, rfl, rfl, rfl, by decide +kernel⟩ ?hw ?hc
  case hw => w_witness2
  case hc =>
    refine Att.attach_call (n := 63) rfl (by kernel_rfl) fun w s₀ s₁ mg mb fa o pm cd doc a vs ns G Y ho hd hcd hmg0 hobj hints hlen hg => ?_
    obtain ⟨K, KX, c⟩ := Y
    have hmg : mg ("law" : PySem.Str) = some (.ref fa) := by
      have e : (HandSHeadRun.topDef (OpenLaw.row PySem.Challenge.rw_heapshown_k00_errors_as_told).prog 24).name = ("law" : PySem.Str) := by kernel_rfl
      rw [← e]
      exact hmg0
    have hfa : fa = He.ga K "law" := by
      have z := K0.glo_of KX G.T.g c (x := "law") 10 rfl
      rw [hmg] at z
      cases z
      rfl
    subst hfa
    obtain ⟨fd, hb, hF⟩ := K0.law_ok (P := (PySem.Challenge.rw_heapshown_k00_errors_as_told).prog) (w := w) KX G.T.g c
    exact K0.law_callU KX G.T.g G.T.b G.T.builtins G.T.nolimit hg hobj hints (Nat.le_trans hlen (by decide)) ⟨rfl, by decide, by decide⟩ hF hb fun H hS => ⟨a, ns, rfl, hS, hlen, fun _ => rfl⟩
