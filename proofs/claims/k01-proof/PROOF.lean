import PyProof.Rows.All
import Wide.All
import OpenK.AllK
import Wide.FinOn
import KE.LcSums
import HandS.ForMost
import HandS.ForExc
import HandS.Evl
import HandS.Steps
import HandS.Codes
import HandS.IsInst
import HandS.Words
import HandS.WordsExc
import HandS.StrMore
import HandS.Text
import HandS.Dict
import HandS.Comp
import HandS.Iter
import HandS.TupAny
import HandS.WordsDict
import HandS.More
import HandS.Head0
import HandS.Head1
import HandS.Head2
import HandS.HeadEnd
import HandS.HeadHook1
import HandS.HeadHook2
import HandS.Walk
import HandS.DictTup
import KE.KDictPairs
import HandS.ExcInit
import HandS.ExcIs
import HandS.ExcField
import HandS.HotCalls
import HandS.SlotsOwn
import HandS.DictComp
import HandS.SortRule
import HandS.SortInts
import HandS.RaiseMore
import HandS.Zip
import HandS.Style
import PyProof.ListStr
import HandS.Lambda
import HandS.ExcOwn
import HandS.Nested
import KE.DataCmp
import KE.KNestM
import HandS.HeadHook3
import HandS.HeadHook4
import HandS.NestedK
import PySem.Challenge.RW_heapshown_k01_terms_and_states
set_option Elab.async false
set_option linter.all false
set_option maxRecDepth 100000
set_option maxHeartbeats 4000000
namespace Kb
open PySem PySem.Spec PyProof.Rows L2
/-! ### all, any of a list of truths -/
theorem boolsAre_of : ∀ {bs : List Bool} {us : List Value}, Vals (bs.map V.bl) us → LSm.BoolsAre us bs
  | [], _, .nil => .nil
  | b :: bs, _, .cons r rr => by
    cases r
    exact .cons b (boolsAre_of rr)
def rAllB (K : PySem.W.Frag) : List V → Hp → VK → Prop := fun xs H Q => ∃ (p : Addr) (bs : List Bool), xs = [.ref p] ∧ SqL K H p (bs.map V.bl) ∧ Q (.bl (bs.all id)) H
theorem call_all {X : Cx} (hc : X.calm = true) : CallR X (.builtin "all") (rAllB X.K) := by
  intro pins s σ H xs us Q I r h
  obtain ⟨p, bs, rfl, hq, q⟩ := h
  obtain ⟨u, rfl, rx⟩ := vals1 r
  cases rx
  obtain ⟨its, r', pl, hz⟩ := I.list hq
  have hb := boolsAre_of r'
  have hl := pl.isList
  have hh := I.ok.hd hc
  have hlt : p < s.heap.objs.size := by obtain ⟨_, e, _⟩ := hl; exact Heap.lt_size e
  refine call_all_walk (wpAny_pyIter_list hl ?_)
  refine ⟨s.heap.objs.size, [s.heap.objs.size, p], [s.heap.objs.size], its.toArray.size, _, _, fun i => (bs[i]?).getD true, rfl, Walks.list (A := X.A.in1) hh _ p (Nat.ne_of_lt hlt) its.toArray,
    ⟨⟨_, Heap.get?_push_size _ rfl, rfl, rfl⟩, hl.push _⟩, fun i v s' Q' E' hP hQ => ?_, fun h' tk hk => ?_⟩
  · obtain ⟨b, e, rfl⟩ := hb.get i v (by simpa using hP)
    simp only [e, Option.getD_some] at hQ
    exact wpAny_truthy_bool hQ
  · have e : ((List.range its.toArray.size).all fun i => (bs[i]?).getD true) = bs.all id := by
      rw [List.size_toArray, hb.length]; exact LSm.range_all bs
    rw [e]
    exact ⟨.bl _, H, I.kept (LSm.kept_iter hk), rfl, q⟩
/-! ### the world of a law: builtins, defs, what defs promise -/
structure Bi (mg : Str → Option Value) : Prop where
  int : mg "int" = none
  range : mg "range" = none
  list : mg "list" = none
  isi : mg "isinstance" = none
  len : mg "len" = none
  all : mg "all" = none
  bool : mg "bool" = none
  str : mg "str" = none
  sorted : mg "sorted" = none
  tuple : mg "tuple" = none
  enumerate : mg "enumerate" = none
  zip : mg "zip" = none
  dict : mg "dict" = none
  any : mg "any" = none
  repr : mg "repr" = none
  max : mg "max" = none
  min : mg "min" = none
  sum : mg "sum" = none
  ve : mg "ValueError" = none
structure Df (K : PySem.W.Frag) (mg : Str → Option Value) (x : Str) (st : Stmt) (ps : List Str) : Prop where
  ex : ∃ (f : Addr) (fd : FuncData), Fun K x x st f fd ∧ L2.Binds K fd ps [] ∧ PySem.W.keepIn K (.ref f) = true ∧ mg x = some (.ref f)
structure Gv (P : Program) (w : World) (K : PySem.W.Frag) (mg : Str → Option Value) (base : Heap) (CX : CXT) (k : Nat) (x : Str) (ps : List Str) (sp : Sp) : Prop where
  ex : ∃ (f : Addr) (fd : FuncData), FnOk P w K mg base CX k f fd ps sp ∧ L2.Binds K fd ps [] ∧ PySem.W.keepIn K (.ref f) = true ∧ mg x = some (.ref f)
section
variable {P : Program} {w : World} {K : PySem.W.Frag} {mg : Str → Option Value} {base : Heap}
theorem Gv.mono {CX : CXT} {j k : Nat} {x : Str} {ps : List Str} {sp : Sp} (G : Gv P w K mg base CX j x ps sp) (h : j ≤ k) : Gv P w K mg base CX k x ps sp := by
  obtain ⟨f, fd, F, r⟩ := G.ex
  exact ⟨f, fd, F.mono h, r⟩
theorem Gv.imp {CX : CXT} {k : Nat} {x : Str} {ps : List Str} {sp sp' : Sp} (G : Gv P w K mg base CX k x ps sp) (h : ∀ vs H Q E, sp' vs H Q E → sp vs H Q E) : Gv P w K mg base CX k x ps sp' := by
  obtain ⟨f, fd, F, r⟩ := G.ex
  exact ⟨f, fd, F.imp h, r⟩
/-- a def that raises nothing -/
theorem Df.gv {x : Str} {st : Stmt} {N ps : List Str} {k : Nat} {sp : Sp} (D : Df K mg x st ps) (S : FnScope N ps (defScope st)) (len : ∀ vs H Q E, sp vs H Q E → vs.length = ps.length)
    (hbody : ∀ (f : Addr) (cdv : Value) (A : Around) (outer : List Env) (s : Shared) (H : Hp) (vs : List V) (Q : VK) (E : XK), Room k (A.deeper (envOfC x (defScope st) s.heap.objs.size f cdv)) → sp vs H Q E →
      ∃ t, PSs (cxOf CX0 P w K mg base N x (defScope st) f cdv A outer s H E).nox (defBody st) t ∧ t { nx := fun _ H' => Q .non H', rt := Q } (L2.start N vs) H) : Gv P w K mg base CX0 (k + 1) x ps sp := by
  obtain ⟨f, fd, F, b, kp, g⟩ := D.ex
  exact ⟨f, fd, F.ok S len (fun cdv A outer s H vs Q E hr h => hbody f cdv A outer s H vs Q E hr h), b, kp, g⟩
/-- a def that may raise -/
theorem Df.gvX {x : Str} {st : Stmt} {N ps : List Str} {k : Nat} {sp : Sp} (D : Df K mg x st ps) (S : FnScope N ps (defScope st)) (len : ∀ vs H Q E, sp vs H Q E → vs.length = ps.length)
    (hbody : ∀ (f : Addr) (cdv : Value) (A : Around) (outer : List Env) (s : Shared) (H : Hp) (vs : List V) (Q : VK) (E : XK), Room k (A.deeper (envOfC x (defScope st) s.heap.objs.size f cdv)) → sp vs H Q E →
      ∃ t, PSs (cxOf (L2.CX P w) P w K mg base N x (defScope st) f cdv A outer s H E) (defBody st) t ∧ t { nx := fun _ H' => Q .non H', rt := Q } (L2.start N vs) H) : Gv P w K mg base (L2.CX P w) (k + 1) x ps sp := by
  obtain ⟨f, fd, F, b, kp, g⟩ := D.ex
  exact ⟨f, fd, F.okX S len (fun cdv A outer s H vs Q E hr h => hbody f cdv A outer s H vs Q E hr h), b, kp, g⟩
end
section
variable {X : Cx} {CX : CXT} {j k : Nat} {ps : List Str} {sp : Sp} {E : XK} {x : Str} {p pos : Pos} {e : Expr} {es : List Expr} {t : TA}
/-- f(..), the def with its promise -/
theorem pe_cg (G : Gv X.prog X.w X.K X.mg X.base CX j x ps sp) (hr : Room k X.A) (hg : Gl X x) (hx : Passes CX X E) (ha : PA X (e :: es) t) (hj : j ≤ k := by first | decide | omega)
    (hdb : (x == ("__debug__" : Str)) = false := by decide) (he : starEach (e :: es) X.env = (false, eval e X.env) :: starEach es X.env := by rfl) (hpl : (backTo pos (starEach es X.env)).any (·.1) = false := by rfl) :
    PE X (.Call (.Name x p) (e :: es) [] pos) (tCall sp [] E t) := by
  obtain ⟨f, fd, F, b, kp, g⟩ := G.ex
  exact pe_call F (hr.mono hj) hg g kp b .nil hx ha hdb he hpl
end
end Kb
set_option Elab.async false
set_option linter.all false
set_option maxRecDepth 100000
set_option maxHeartbeats 4000000
namespace Kb
open PySem PySem.Spec PyProof.Rows L2
/-! ### data and their types -/
def tyOf : PyData → String
  | .none => "NoneType"
  | .bool _ => "bool"
  | .int _ => "int"
  | .str _ => "str"
  | .list _ => "list"
  | .tuple _ => "tuple"
  | .dict _ => "dict"
section
variable {K : PySem.W.Frag} {H H' : Hp} {v : V} {d : PyData}
theorem dp_ty (h : Dp K H v d) : TyX K H v (.type (tyOf d)) := by
  cases h with
  | non => exact .base .non
  | bl b => exact .base (.bl b)
  | int i => exact .base (.int i)
  | str x => exact .base (.str x)
  | lst h _ =>
    rcases h with (h | ⟨o, h⟩) | ⟨o, its, n, e, c, _⟩
    · exact .base (.lst h)
    · exact .base (.frz h)
    · exact .kList e c
  | tup h _ =>
    rcases h with (h | ⟨o, h⟩) | ⟨o, its, n, e, c, _⟩
    · exact .base (.tup h)
    · exact .fTuple h
    · exact .kTuple e c
/-- isinstance of a datum and a built-in class -/
def isB (T : String) (d : PyData) : Bool := (kitB (tyOf d) T).getD false
theorem val_isiD {σ : L2.St} {te : TE} {T : String} (hv : Val te σ H v) (h : Dp K H v d) (e : (kitB (tyOf d) T).isSome = true) : Val (tCB (rIsi K) (tCons te (tCons (tC (.ty T)) tNil))) σ H (.bl (isB T d)) := fun Q q => hv _ ⟨v, .ty T, .type (tyOf d), .type T, isB T d, rfl, .ty _, dp_ty h, by
  obtain ⟨b, hb⟩ := Option.isSome_iff_exists.mp e
  unfold isB
  rw [hb]
  exact kit_ty hb, q⟩
mutual
theorem Dp.ext (e : Evl.Ex H H') : ∀ {v : V} {d : PyData}, Dp K H v d → Dp K H' v d
  | _, _, .non => .non
  | _, _, .bl b => .bl b
  | _, _, .int i => .int i
  | _, _, .str x => .str x
  | _, _, .lst h a => .lst (Evl.ex_l e h) (DpAll.ext e a)
  | _, _, .tup h a => .tup (Evl.ex_t e h) (DpAll.ext e a)
theorem DpAll.ext (e : Evl.Ex H H') : ∀ {vs : List V} {ds : List PyData}, DpAll K H vs ds → DpAll K H' vs ds
  | _, _, .nil => .nil
  | _, _, .cons a b => .cons (Dp.ext e a) (DpAll.ext e b)
end
end
theorem kit_int (d : PyData) : (kitB (tyOf d) "int").isSome = true := by cases d <;> (dsimp only [tyOf]; decide +kernel)
theorem kit_bool (d : PyData) : (kitB (tyOf d) "bool").isSome = true := by cases d <;> (dsimp only [tyOf]; decide +kernel)
theorem kit_str (d : PyData) : (kitB (tyOf d) "str").isSome = true := by cases d <;> (dsimp only [tyOf]; decide +kernel)
theorem kit_tuple (d : PyData) : (kitB (tyOf d) "tuple").isSome = true := by cases d <;> (dsimp only [tyOf]; decide +kernel)
theorem kit_list (d : PyData) : (kitB (tyOf d) "list").isSome = true := by cases d <;> (dsimp only [tyOf]; decide +kernel)
def wholeD : PyData → Bool
  | .int _ => true
  | _ => false
theorem isB_whole (d : PyData) : (isB "int" d && !isB "bool" d) = wholeD d := by cases d <;> (dsimp only [isB, tyOf, wholeD]; decide +kernel)
def strD : PyData → Option Str
  | .str x => some x
  | _ => none
theorem isB_str (d : PyData) : isB "str" d = (strD d).isSome := by cases d <;> (dsimp only [isB, tyOf, strD, Option.isSome]; decide +kernel)
/-! ### readings that leave the heap as it is -/
section
variable {σ : L2.St} {H : Hp} {ta tb : TE} {a b : Bool}
theorem val_andV (h1 : Val ta σ H (.bl a)) (h2 : a = true → Val tb σ H (.bl b)) (h0 : a = false → b = false) : Val (tAndV ta tb) σ H (.bl b) := fun Q q => h1 _ ⟨a, rfl, by
  cases a with
  | true => exact h2 rfl _ q
  | false => rw [h0 rfl] at q; exact q⟩
theorem val_orV (h1 : Val ta σ H (.bl a)) (h2 : a = false → Val tb σ H (.bl b)) (h0 : a = true → b = true) : Val (tOrV ta tb) σ H (.bl b) := fun Q q => h1 _ ⟨a, rfl, by
  cases a with
  | false => exact h2 rfl _ q
  | true => rw [h0 rfl] at q; exact q⟩
theorem val_notV (h1 : Val ta σ H (.bl a)) : Val (tNotV ta) σ H (.bl (!a)) := fun Q q => h1 _ ⟨a, rfl, q⟩
end
/-- a test of a datum: the heap may grow -/
def spD (K : PySem.W.Frag) (m : PyData → Bool) : Sp := fun vs H Q _ => ∃ (v : V) (d : PyData), vs = [v] ∧ Dp K H v d ∧ ∀ H', Evl.Ex H H' → Q (.bl (m d)) H'
end Kb
set_option Elab.async false
set_option linter.all false
set_option maxRecDepth 100000
set_option maxHeartbeats 4000000
namespace Kb
open PySem PySem.Spec PyProof.Rows L2
/-! ### the overloads, joined: a term follows from the text alone -/
section
variable {X : Cx}
theorem or2 {f : Value → Value → Sem Value} {r r' : R2} (h : OpR X f r) (h' : OpR X f r') : OpR X f (fun x y H Q => r x y H Q ∨ r' x y H Q) := by
  intro pins s σ H x y v u Q I rx ry q
  rcases q with q | q
  · exact h pins s σ H x y v u Q I rx ry q
  · exact h' pins s σ H x y v u Q I rx ry q
theorem orI {tg it : Expr} {w w' : TI} (h : PI X tg it w) (h' : PI X tg it w') : PI X tg it (fun σ H R => w σ H R ∨ w' σ H R) := by
  refine ⟨fun pins s σ H R I q => ?_⟩
  rcases q with q | q
  · exact h.run pins s σ H R I q
  · exact h'.run pins s σ H R I q
def rAddS : R2 := fun x y H Q => ∃ i j, x = .str i ∧ y = .str j ∧ i.length + j.length ≤ sizeLine ∧ Q (.str (i ++ j)) H
def rAdd (K : PySem.W.Frag) : R2 := fun x y H Q => rI0 (fun i j => .int (i + j)) x y H Q ∨ (rAddS x y H Q ∨ (rCat x y H Q ∨ rCatA K x y H Q))
theorem opA_add : OpR X (binaryOp .Add) (rAdd X.K) := or2 op_add (or2 op_add_str (or2 op_cat op_catA))
def rMulS : R2 := fun x y H Q => ∃ w n, x = .str w ∧ y = .int n ∧ 2 ≤ n ∧ n ≤ 1000 ∧ 1 ≤ w.length ∧ w.length ≤ 1000 ∧ (⟨(List.replicate n.toNat w.cps).foldl (· ++ ·) #[]⟩ : Str).length ≤ sizeLine ∧ Q (.str ⟨(List.replicate n.toNat w.cps).foldl (· ++ ·) #[]⟩) H
theorem op_mulS : OpR X (binaryOp .Mult) rMulS := by
  intro pins s σ H x y v u Q I rx ry h
  obtain ⟨w, n, rfl, rfl, h1, h2, h3, h4, h5, q⟩ := h
  obtain ⟨t, rfl⟩ := rx
  obtain ⟨t', rfl⟩ := ry
  have e1 : (n == 1 || w.length == 0) = false := by
    rw [beq_eq_false_iff_ne.mpr (by omega), beq_eq_false_iff_ne.mpr (by omega)]
    rfl
  refine PySem.P.mul_str ?_ (fun _ _ => ?_) (fun _ _ => ?_) ?_
  · rw [decide_eq_false (by omega), decide_eq_false (by omega)]
    rfl
  · have : (w.length : Int) ≤ (2 ^ 63 - 1) / n := by
      refine Int.le_ediv_of_mul_le (by omega) ?_
      have : (w.length : Int) * n ≤ 1000 * 1000 := Int.mul_le_mul (by omega) h2 (by omega) (by omega)
      omega
    omega
  · have : w.length * n.toNat ≤ 1000 * 1000 := Nat.mul_le_mul h4 (by omega)
    have hs : (1000 * 1000 : Nat) ≤ sizeLine := by decide
    exact decide_eq_false (by omega)
  · rw [if_neg (by omega), e1, if_neg (by decide)]
    exact ⟨h5, .str _, H, I.tok _, ⟨_, rfl⟩, q⟩
def rMul : R2 := fun x y H Q => rI CMul (fun i j => .int (i * j)) x y H Q ∨ (rRep x y H Q ∨ rMulS x y H Q)
theorem opA_mul : OpR X (binaryOp .Mult) rMul := or2 op_mul (or2 op_rep op_mulS)
def rLtS : R2 := fun x y H Q => ∃ i j, x = .str i ∧ y = .str j ∧ Q (.bl (decide (i.cps.toList < j.cps.toList))) H
def rLt : R2 := fun x y H Q => rI0 (fun i j => .bl (decide (i < j))) x y H Q ∨ rLtS x y H Q
theorem opA_lt : OpR X (compareOp .Lt) rLt := or2 op_lt op_lt_str
def rEqA (K : PySem.W.Frag) : R2 := fun x y H Q => rEq x y H Q ∨ rEqD K x y H Q
def rNeA (K : PySem.W.Frag) : R2 := fun x y H Q => rNe x y H Q ∨ rNeD K x y H Q
theorem opA_eq (hu : X.A.units + 64 < cLine) : OpR X (compareOp .Eq) (rEqA X.K) := or2 op_eq (op_eqD hu)
theorem opA_ne (hu : X.A.units + 64 < cLine) : OpR X (compareOp .NotEq) (rNeA X.K) := or2 op_ne (op_neD hu)
def rInDk : R2 := fun x y H Q => ∃ a o, y = .ref a ∧ DGet H a x o ∧ Q (.bl o.isSome) H
def rNotInDk : R2 := fun x y H Q => ∃ a o, y = .ref a ∧ DGet H a x o ∧ Q (.bl (!o.isSome)) H
theorem op_inDk (hu : X.A.units + 1 < cLine) : OpR X (compareOp .In) rInDk := by
  intro pins s σ H x y v u Q I rx ry h
  obtain ⟨a, o, rfl, g, q⟩ := h
  obtain rfl : u = Value.ref a := ry
  exact d_in hu I g rx fun s3 I3 => ⟨.bl o.isSome, H, I3, rfl, q⟩
theorem op_notInDk (hu : X.A.units + 1 < cLine) : OpR X (compareOp .NotIn) rNotInDk := by
  intro pins s σ H x y v u Q I rx ry h
  obtain ⟨a, o, rfl, g, q⟩ := h
  obtain rfl : u = Value.ref a := ry
  exact d_notIn hu I g rx fun s3 I3 => ⟨.bl (!o.isSome), H, I3, rfl, q⟩
def rInA (K : PySem.W.Frag) : R2 := fun x y H Q => rIn K false x y H Q ∨ (rInS x y H Q ∨ rInDk x y H Q)
def rNotInA (K : PySem.W.Frag) : R2 := fun x y H Q => rIn K true x y H Q ∨ (rNotInS x y H Q ∨ rNotInDk x y H Q)
theorem opA_in (hu : X.A.units + 64 < cLine) : OpR X (compareOp .In) (rInA X.K) := or2 op_in_seq (or2 op_inS (op_inDk (by omega)))
theorem opA_notIn (hu : X.A.units + 64 < cLine) : OpR X (compareOp .NotIn) (rNotInA X.K) := or2 op_notIn_seq (or2 op_notInS (op_notInDk (by omega)))
def rSl (K : PySem.W.Frag) : V → Option Int → Option Int → Hp → VK → Prop := fun x lo hi H Q => rSlL K x lo hi H Q ∨ (rSlA K x lo hi H Q ∨ rSlS x lo hi H Q)
theorem slA : SlR X (rSl X.K) := sl_list.or (sl_tupA.or sl_str)
def rLenT : List V → Hp → VK → Prop := fun xs H Q => ∃ z : Str, xs = [.str z] ∧ z.length ≤ sizeLine ∧ Q (.int z.length) H
def rLenK : List V → Hp → VK → Prop := fun xs H Q => ∃ a kvs, xs = [V.ref a] ∧ H a = some (.dK kvs) ∧ Q (.int kvs.length) H
def rLenQ (K : PySem.W.Frag) : List V → Hp → VK → Prop := fun xs H Q => ∃ p ys, xs = [.ref p] ∧ (SqL K H p ys ∨ SqT K H p ys) ∧ Q (.int ys.length) H
def rLen (K : PySem.W.Frag) : List V → Hp → VK → Prop := fun xs H Q => rLenQ K xs H Q ∨ (rLenT xs H Q ∨ rLenK xs H Q)
theorem callA_len : CallR X (.builtin "len") (rLen X.K) := CallR.or call_len_seq (CallR.or call_len_str call_lenD)
def iSeq (K : PySem.W.Frag) (te : TE) : TI := fun σ H R => iList K te σ H R ∨ (iTup K te σ H R ∨ iStr te σ H R)
theorem piA_seq {tg e : Expr} {te : TE} (h : PE X e te) : PI X tg e (iSeq X.K te) := orI (pi_list h) (orI (pi_tup h) (pi_str h))
end
end Kb
namespace Kb
open PySem PySem.Spec PyProof.Rows L2
/-! ### constants of the top -/
structure Gc (mg : Str → Option Value) (x : Str) (v : V) : Prop where
  ex : ∃ u, mg x = some u ∧ RelV v u
theorem pe_gc {X : Cx} {x : Str} {v : V} {pos : Pos} (h : Gc X.mg x v) (hg : Gl X x) (hd : (x == ("__debug__" : Str)) = false := by decide) : PE X (.Name x pos) (tC v) := by
  obtain ⟨u, e, r⟩ := h.ex
  exact pe_glob hg e r hd
theorem blk_ok {N : List Str} {sc scope : Scope} {own : List (Str × Nat)} (h : blkC N sc scope own = true) : BlkOk N sc scope own := blkOk_by h
end Kb
set_option Elab.async false
set_option linter.all false
set_option maxRecDepth 100000
set_option maxHeartbeats 4000000
namespace Kb
open PySem PySem.Spec PyProof.Rows L2 Evl
/-! ### readings of the joined rules where the heap but grows -/
section
variable {K : PySem.W.Frag} {σ : L2.St} {H : Hp} {ta tb tc te : TE} {t u : TT} {x y z v : V} {r r' : R2}
theorem ev_lenT {w : Str} (ha : Ev ta σ H (.str w)) (h : w.length ≤ 100000) : Ev (tCB (rLen K) (tCons ta tNil)) σ H (.int w.length) := fun H1 e Q q =>
  ha H1 e _ fun H2 e2 => .inr (.inl ⟨w, rfl, sz_of h, q H2 e2⟩)
theorem ev_lenL {p : Addr} {xs : List V} (ha : Ev ta σ H (.ref p)) (h : SqL K H p xs) : Ev (tCB (rLen K) (tCons ta tNil)) σ H (.int xs.length) := fun H1 e Q q =>
  ha H1 e _ fun H2 e2 => .inl ⟨p, xs, rfl, .inl (ex_l (e.trans e2) h), q H2 e2⟩
theorem ev_lenU {p : Addr} {xs : List V} (ha : Ev ta σ H (.ref p)) (h : SqT K H p xs) : Ev (tCB (rLen K) (tCons ta tNil)) σ H (.int xs.length) := fun H1 e Q q =>
  ha H1 e _ fun H2 e2 => .inl ⟨p, xs, rfl, .inr (ex_t (e.trans e2) h), q H2 e2⟩
theorem ev_chain {a b : Bool} (ha : Ev ta σ H x) (hb : Ev tb σ H y) (hc : Ev tc σ H z) (h1 : RV r x y H (.bl a)) (h2 : a = true → RV r' y z H (.bl b)) : Ev (tChain r r' ta tb tc) σ H (.bl (a && b)) := fun H1 e Q q =>
  ha H1 e _ fun H2 e2 => hb H2 (e.trans e2) _ fun H3 e3 => h1 H3 ((e.trans e2).trans e3) _ fun H4 e4 => ⟨a, rfl, by
    cases a with
    | true => exact hc H4 (((e.trans e2).trans e3).trans e4) _ fun H5 e5 => h2 rfl H5 ((((e.trans e2).trans e3).trans e4).trans e5) Q fun H6 e6 => q H6 ((((e2.trans e3).trans e4).trans e5).trans e6)
    | false => exact q H4 ((e2.trans e3).trans e4)⟩
theorem rv_l {z : V} (h : RV r x y H z) : RV (fun x y H Q => r x y H Q ∨ r' x y H Q) x y H z := fun H1 e Q q => .inl (h H1 e Q q)
theorem rv_r {z : V} (h : RV r' x y H z) : RV (fun x y H Q => r x y H Q ∨ r' x y H Q) x y H z := fun H1 e Q q => .inr (h H1 e Q q)
theorem rv_add {i j : Int} : RV (rAdd K) (.int i) (.int j) H (.int (i + j)) := rv_l rv_I0
theorem rv_addS {i j : Str} (h : i.length + j.length ≤ 100000) : RV (rAdd K) (.str i) (.str j) H (.str (i ++ j)) := fun H1 e Q q => .inr (.inl ⟨i, j, rfl, rfl, sz_of h, q H1 (Ex.refl H1)⟩)
theorem rv_lt {i j : Int} : RV rLt (.int i) (.int j) H (.bl (decide (i < j))) := rv_l rv_I0
theorem rv_ltS {i j : Str} : RV rLt (.str i) (.str j) H (.bl (decide (i.cps.toList < j.cps.toList))) := fun H1 e Q q => .inr ⟨i, j, rfl, rfl, q H1 (Ex.refl H1)⟩
theorem rv_eqs (h : scal x y = true) : RV (rEqA K) x y H (.bl (decide (x = y))) := rv_l (rv_eq h)
theorem rv_nes (h : scal x y = true) : RV (rNeA K) x y H (.bl (!decide (x = y))) := rv_l (rv_ne h)
theorem rv_inA {p : Addr} {xs : List V} (h : SqT K H p xs) (hx : flatV x = true) (ha : xs.all flatV = true) : RV (rInA K) x (.ref p) H (.bl (inV x xs)) := rv_l (rv_isT h hx ha)
theorem rv_inc {c : Nat} {w : Str} : RV (rInA K) (.str ⟨#[c]⟩) (.str w) H (.bl (decide (c ∈ w.cps.toList))) := fun H1 e Q q => .inr (.inl ⟨c, w, rfl, rfl, q H1 (Ex.refl H1)⟩)
theorem rv_niA {p : Addr} {xs : List V} (h : SqT K H p xs) (hx : flatV x = true) (ha : xs.all flatV = true) : RV (rNotInA K) x (.ref p) H (.bl (!inV x xs)) := rv_l (rv_niT h hx ha)
theorem rv_nic {c : Nat} {w : Str} : RV (rNotInA K) (.str ⟨#[c]⟩) (.str w) H (.bl (!decide (c ∈ w.cps.toList))) := fun H1 e Q q => .inr (.inl ⟨c, w, rfl, rfl, q H1 (Ex.refl H1)⟩)
theorem rv_inDk {a : Addr} {k : Key} {kvs : List (Key × V)} (h : H a = some (.dK kvs)) : RV (rInA K) (kV k) (.ref a) H (.bl (valV kvs k).isSome) := fun H1 e Q q => .inr (.inr ⟨a, _, rfl, .inl ⟨kvs, k, .inl (e _ _ h), rfl, rfl⟩, q H1 (Ex.refl H1)⟩)
theorem rv_niDk {a : Addr} {k : Key} {kvs : List (Key × V)} (h : H a = some (.dK kvs)) : RV (rNotInA K) (kV k) (.ref a) H (.bl (!(valV kvs k).isSome)) := fun H1 e Q q => .inr (.inr ⟨a, _, rfl, .inl ⟨kvs, k, .inl (e _ _ h), rfl, rfl⟩, q H1 (Ex.refl H1)⟩)
theorem rv_iL {p : Addr} {xs : List V} {i : Int} (h : SqL K H p xs) (ha : atI xs i = some v) : RV (rIx K) (.ref p) (.int i) H v := rv_l (rv_ixL h ha)
theorem rv_iT {p : Addr} {xs : List V} {i : Int} (h : SqT K H p xs) (ha : atI xs i = some v) : RV (rIx K) (.ref p) (.int i) H v := rv_r (rv_l (rv_ixT h ha))
theorem rv_iS {w : Str} {i : Int} {c : Nat} (h : w.length ≤ 100000) (ha : atI w.cps.toList i = some c) : RV (rIx K) (.str w) (.int i) H (.str ⟨#[c]⟩) := rv_r (rv_r (rv_ixS h ha))
theorem ev_slS {w : Str} {tl th : TO} {lo hi : Option Int} (ha : Ev ta σ H (.str w)) (hl : EvO tl σ H lo) (hh : EvO th σ H hi) (h : w.length ≤ 100000) : Ev (tSl (rSl K) ta tl th) σ H (.str (cutS w lo hi)) := fun H1 e Q q =>
  ha H1 e _ fun H2 e2 => hl H2 (e.trans e2) _ fun H3 e3 => hh H3 ((e.trans e2).trans e3) _ fun H4 e4 => .inr (.inr ⟨w, rfl, sz_of h, q H4 ((e2.trans e3).trans e4)⟩)
end
end Kb
set_option Elab.async false
set_option linter.all false
set_option maxRecDepth 100000
set_option maxHeartbeats 4000000
namespace Kb
open PySem PySem.Spec PyProof.Rows L2 Evl
section
variable {K : PySem.W.Frag} {σ : L2.St} {H : Hp} {tl te : TE} {t : TT} {g : TG} {vs : List Nat}
/-- a comprehension over a text -/
theorem el_lcS {w : Str} {j : Nat} (f : Nat → Bool) (v : Nat → V) (h : Ev tl σ H (.str w)) (hz : w.cps.size ≤ 40000) (hw : ∀ x, wipe ((wipe σ vs).set j (some x)) vs = wipe σ vs)
    (ht : ∀ (i c : Nat) H1, Ex H H1 → w.cps[i]? = some c → EvT t ((wipe σ vs).set j (some (.str ⟨#[c]⟩))) H1 (f i)) (he : ∀ (i c : Nat) H1, Ex H H1 → w.cps[i]? = some c → f i = true → Ev te ((wipe σ vs).set j (some (.str ⟨#[c]⟩))) H1 (v i)) :
    EvL (tLc (iSeq K tl) (gName j) t te vs) σ H (given w.cps.size f v) := fun H0 e Q q => .inr (.inr (h H0 e _ fun H1 e1 => ⟨w, rfl, fun Dl hD =>
  lc_it walk_str (Cw H1 f v Dl) ⟨hD, Ex.new hD, upd_same⟩ (fun _ _ _ _ => trivial) (fun i x H' H'' hi p y => by
    obtain ⟨rfl, c, hc, rfl⟩ := y
    exact ⟨hw _, cw_turn p (by omega) (ht i c H1 (e.trans e1) hc) (fun hf => he i c H1 (e.trans e1) hc hf)⟩)
    (fun H' p => q Dl H' (fresh_back e1 p.1) (e1.trans p.2.1) p.2.2)⟩))
/-- over a tuple, whatever the target: σt the slots of a turn -/
theorem el_lcT {a : Addr} {xs : List V} (σt : Nat → L2.St) (f : Nat → Bool) (v : Nat → V) (h : Ev tl σ H (.ref a)) (hx : SqT K H a xs) (hz : xs.length ≤ 40000) (hw : ∀ i, i < xs.length → wipe (σt i) vs = wipe σ vs)
    (hg : ∀ (i : Nat) (x : V) H1, Ex H H1 → xs[i]? = some x → ∀ k : L2.St → Hp → Prop, k (σt i) H1 → g x (wipe σ vs) H1 k)
    (ht : ∀ (i : Nat) (x : V) H1, Ex H H1 → xs[i]? = some x → EvT t (σt i) H1 (f i)) (he : ∀ (i : Nat) (x : V) H1, Ex H H1 → xs[i]? = some x → f i = true → Ev te (σt i) H1 (v i)) :
    EvL (tLc (iSeq K tl) g t te vs) σ H (given xs.length f v) := fun H0 e Q q => .inr (.inl (h H0 e _ fun H1 e1 => ⟨a, rfl, ⟨xs, ex_t (e.trans e1) hx⟩, fun Dl hD =>
  lc_it (walk_tup (xs := xs)) (Cw H1 f v Dl) ⟨hD, Ex.new hD, upd_same⟩ (fun i H' _ p => ex_t ((e.trans e1).trans p.2.1) hx) (fun i x H' H'' hi p y => by
    obtain ⟨rfl, hc⟩ := y
    exact hg i x _ ((e.trans e1).trans p.2.1) hc _ ⟨hw i hi, cw_turn p (by omega) (ht i x H1 (e.trans e1) hc) (fun hf => he i x H1 (e.trans e1) hc hf)⟩)
    (fun H' p => q Dl H' (fresh_back e1 p.1) (e1.trans p.2.1) p.2.2)⟩))
theorem el_lcQ {a : Addr} {xs : List V} (σt : Nat → L2.St) (f : Nat → Bool) (v : Nat → V) (h : Ev tl σ H (.ref a)) (hx : SqL K H a xs) (hz : xs.length ≤ 40000) (hw : ∀ i, i < xs.length → wipe (σt i) vs = wipe σ vs)
    (hg : ∀ (i : Nat) (x : V) H1, Ex H H1 → xs[i]? = some x → ∀ k : L2.St → Hp → Prop, k (σt i) H1 → g x (wipe σ vs) H1 k)
    (ht : ∀ (i : Nat) (x : V) H1, Ex H H1 → xs[i]? = some x → EvT t (σt i) H1 (f i)) (he : ∀ (i : Nat) (x : V) H1, Ex H H1 → xs[i]? = some x → f i = true → Ev te (σt i) H1 (v i)) :
    EvL (tLc (iSeq K tl) g t te vs) σ H (given xs.length f v) := fun H0 e Q q => .inl (h H0 e _ fun H1 e1 => ⟨a, rfl, ⟨xs, ex_l (e.trans e1) hx⟩, fun Dl hD =>
  lc_it (walk_list (xs := xs)) (Cw H1 f v Dl) ⟨hD, Ex.new hD, upd_same⟩ (fun i H' _ p => ex_l ((e.trans e1).trans p.2.1) hx) (fun i x H' H'' hi p y => by
    obtain ⟨rfl, hc⟩ := y
    exact hg i x _ ((e.trans e1).trans p.2.1) hc _ ⟨hw i hi, cw_turn p (by omega) (ht i x H1 (e.trans e1) hc) (fun hf => he i x H1 (e.trans e1) hc hf)⟩)
    (fun H' p => q Dl H' (fresh_back e1 p.1) (e1.trans p.2.1) p.2.2)⟩)
/-- all of a new list of truths -/
theorem ev_allN {bs : List Bool} {ta : TE} (ha : EvL ta σ H (bs.map V.bl)) : Ev (tCB (rAll K) (tCons ta tNil)) σ H (.bl (bs.all id)) := fun H1 e Q q =>
  ha H1 e _ fun p H2 _ e2 h2 => ⟨p, bs, rfl, sq_of h2, q H2 e2⟩
theorem ev_anyN {bs : List Bool} {ta : TE} (ha : EvL ta σ H (bs.map V.bl)) : Ev (tCB (rAny K) (tCons ta tNil)) σ H (.bl (bs.any id)) := fun H1 e Q q =>
  ha H1 e _ fun p H2 _ e2 h2 => ⟨p, bs, rfl, sq_of h2, q H2 e2⟩
theorem el_is {xs ys : List V} (h : EvL te σ H xs) (e : xs = ys) : EvL te σ H ys := by
  rw [← e]
  exact h
end
end Kb
set_option Elab.async false
set_option linter.all false
set_option maxRecDepth 100000
set_option maxHeartbeats 4000000
namespace Kb
open PySem PySem.Spec PyProof.Rows L2 Evl
section
variable {K : PySem.W.Frag} {σ : L2.St} {H : Hp} {te ta tb : TE} {v : V} {d : PyData}
theorem ev_isiD {T : String} (hv : Ev te σ H v) (h : Dp K H v d) (e : (kitB (tyOf d) T).isSome = true) : Ev (tCB (rIsi K) (tCons te (tCons (tC (.ty T)) tNil))) σ H (.bl (isB T d)) := fun H1 e1 Q q =>
  hv H1 e1 _ fun H2 e2 => ⟨v, .ty T, .type (tyOf d), .type T, isB T d, rfl, .ty _, dp_ty (Dp.ext (e1.trans e2) h), by
    obtain ⟨b, hb⟩ := Option.isSome_iff_exists.mp e
    unfold isB
    rw [hb]
    exact kit_ty hb, q H2 e2⟩
theorem hu64_of {k : Nat} {A : Around} (hr : Room k A) : A.units + 64 < cLine := Nat.lt_of_le_of_lt (by omega) hr.un
/-- a test of one datum -/
def spB (K : PySem.W.Frag) (C : PyData → Prop) (m : PyData → Bool) : Sp := fun vs H Q _ => ∃ (v : V) (d : PyData), vs = [v] ∧ Dp K H v d ∧ C d ∧ ∀ H', Ex H H' → Q (.bl (m d)) H'
theorem spB_v {C : PyData → Prop} {m : PyData → Bool} (h : Dp K H v d) (c : C d) : SpV (spB K C m) [v] H (.bl (m d)) := fun H1 e Q q E => ⟨v, d, rfl, Dp.ext e h, c, fun H2 e2 => q H2 e2⟩
/-- texts within measure -/
def TxtOk : PyData → Prop
  | .str z => z.length ≤ 40000
  | _ => True
theorem ev_bm1 {T : String} {r : V → List V → Hp → VK → Prop} {x y z : V} (ha : Ev ta σ H x) (hb : Ev tb σ H y) (ty : ∀ H1, tyV K T x H1) (hr : ∀ H1 (Q : VK), Q z H1 → r x [y] H1 Q) : Ev (tBM K T r ta (tCons tb tNil)) σ H z := fun H1 e Q q =>
  ha H1 e _ fun H2 e2 => ⟨ty H2, hb H2 (e.trans e2) _ fun H3 e3 => hr H3 Q (q H3 (e2.trans e3))⟩
theorem getD_of {xs : Array Nat} {i c : Nat} (h : xs[i]? = some c) : xs.getD i 0 = c := by
  rw [Array.getD_eq_getD_getElem?, h]
  rfl
theorem given_all {n : Nat} (v : Nat → V) : given n (fun _ => true) v = (List.range n).map v := by
  unfold given
  rw [List.filter_eq_self.mpr (fun _ _ => rfl)]
theorem given_txt {w : Str} {m : Nat → Bool} : given w.cps.size (fun _ => true) (fun i => .bl (m (w.cps.getD i 0))) = (w.cps.toList.map m).map V.bl := by
  rw [given_all]
  apply List.ext_getElem?
  intro i
  simp only [List.getElem?_map]
  by_cases h : i < w.cps.size
  · rw [List.getElem?_range h]
    simp [Array.getD, h]
  · have h1 : (List.range w.cps.size)[i]? = none := by simp; omega
    have h2 : w.cps.toList[i]? = none := by simp; omega
    rw [h1, h2]
    rfl
/-- a comprehension over range(n) -/
theorem el_lcR {tt : TT} {vs : List Nat} {j : Nat} {n : Int} {tr : TA} (f : Nat → Bool) (g : Nat → V) (h : EvA tr σ H [.int n]) (hn : n ≤ 40000) (hw : ∀ x, wipe ((wipe σ vs).set j (some x)) vs = wipe σ vs)
    (ht : ∀ (i : Nat) H1, Ex H H1 → (i : Int) < n → EvT tt ((wipe σ vs).set j (some (.int (i : Int)))) H1 (f i)) (he : ∀ (i : Nat) H1, Ex H H1 → (i : Int) < n → f i = true → Ev te ((wipe σ vs).set j (some (.int (i : Int)))) H1 (g i)) (hl : -40000 ≤ n) :
    EvL (tLc (iRng1 tr) (gName j) tt te vs) σ H (given n.toNat f g) := fun H0 e Q q => h H0 e _ fun H1 e1 => ⟨n, rfl, by omega, by omega, fun Dl hD =>
  lc_range (lo := 0) (n := n.toNat) (Cw H1 f g Dl) ⟨hD, Ex.new hD, upd_same⟩ (fun i H' hi p => by
    have e0 : (0 : Int) + (i : Int) = (i : Int) := Int.zero_add _
    show wipe ((wipe σ vs).set j (some (.int ((0 : Int) + (i : Int))))) vs = wipe σ vs ∧ tt ((wipe σ vs).set j (some (.int ((0 : Int) + (i : Int))))) H' fun b H3 => if b = true then te ((wipe σ vs).set j (some (.int ((0 : Int) + (i : Int))))) H3 fun y H4 => ∃ acc, H4 Dl = some (.lst acc) ∧ acc.length < sizeLine ∧ Cw H1 f g Dl (i + 1) (upd H4 Dl (.lst (acc ++ [y]))) else Cw H1 f g Dl (i + 1) H3
    rw [e0]
    exact ⟨hw _, cw_turn p (by omega) (ht i H1 (e.trans e1) (by omega)) (fun hf => he i H1 (e.trans e1) (by omega) hf)⟩) (fun H' p => q Dl H' (fresh_back e1 p.1) (e1.trans p.2.1) p.2.2)⟩
theorem given_bl {n : Nat} (m : Nat → Bool) : given n (fun _ => true) (fun i => .bl (m i)) = ((List.range n).map m).map V.bl := by
  rw [given_all, List.map_map]
  rfl
end
end Kb
set_option Elab.async false
set_option linter.all false
set_option maxRecDepth 100000
set_option maxHeartbeats 4000000
namespace Kb
open PySem PySem.Spec PyProof.Rows L2 Evl
section
variable {K : PySem.W.Frag} {σ : L2.St} {H H' : Hp} {te ta tb tl : TE} {v : V} {d : PyData} {vs : List V} {ds : List PyData}
theorem dpAll_len : ∀ {vs : List V} {ds : List PyData}, DpAll K H vs ds → vs.length = ds.length
  | _, _, .nil => rfl
  | _, _, .cons _ b => congrArg (· + 1) (dpAll_len b)
theorem dpAll_get : ∀ {vs : List V} {ds : List PyData}, DpAll K H vs ds → ∀ {i : Nat} {v : V}, vs[i]? = some v → ∃ d, ds[i]? = some d ∧ Dp K H v d
  | _, _, .nil, i, v, h => by simp at h
  | _, _, .cons (d := d) a b, i, v, h => by
    cases i with
    | zero =>
      simp at h
      subst h
      exact ⟨d, rfl, a⟩
    | succ i =>
      simp at h
      obtain ⟨d', h1, h2⟩ := dpAll_get b h
      exact ⟨d', by simpa using h1, h2⟩
theorem dpAll_ints : ∀ {ns : List Int}, DpAll K H (ns.map V.int) (ns.map PyData.int)
  | [] => .nil
  | n :: ns => .cons (.int n) dpAll_ints
theorem dpAll_app : ∀ {vs ws : List V} {ds es : List PyData}, DpAll K H vs ds → DpAll K H ws es → DpAll K H (vs ++ ws) (ds ++ es)
  | _, _, _, _, .nil, h => h
  | _, _, _, _, .cons a b, h => .cons a (dpAll_app b h)
def tupD : PyData → Option (List PyData)
  | .tuple ds => some ds
  | _ => none
def lstD : PyData → Option (List PyData)
  | .list ds => some ds
  | _ => none
theorem isB_tup (d : PyData) : isB "tuple" d = (tupD d).isSome := by cases d <;> (dsimp only [isB, tyOf, tupD, Option.isSome]; decide +kernel)
theorem isB_lst (d : PyData) : isB "list" d = (lstD d).isSome := by cases d <;> (dsimp only [isB, tyOf, lstD, Option.isSome]; decide +kernel)
theorem tupD_some {ds : List PyData} (h : tupD d = some ds) : d = .tuple ds := by cases d <;> first | (injection h with h; rw [h]) | cases h
theorem lstD_some {ds : List PyData} (h : lstD d = some ds) : d = .list ds := by cases d <;> first | (injection h with h; rw [h]) | cases h
theorem strD_some {z : Str} (h : strD d = some z) : d = .str z := by cases d <;> first | (injection h with h; rw [h]) | cases h
def pairD : PyData → Bool
  | .tuple [_, _] => true
  | _ => false
def pr1 : PyData → PyData
  | .tuple (a :: _) => a
  | _ => .none
def pr2 : PyData → PyData
  | .tuple (_ :: b :: _) => b
  | _ => .none
theorem pairD_of (h : pairD d = true) : d = .tuple [pr1 d, pr2 d] := by
  unfold pairD at h
  split at h
  · rfl
  · cases h
structure Prt (K : PySem.W.Frag) (H : Hp) (vs : List V) (us : List (V × V)) (ds : List PyData) : Prop where
  len : vs.length = us.length
  at_ : ∀ (i : Nat) (v : V) (u : V × V), vs[i]? = some v → us[i]? = some u → ∃ a, v = V.ref a ∧ SqT K H a [u.1, u.2]
  d1 : DpAll K H (us.map Prod.fst) (ds.map pr1)
  d2 : DpAll K H (us.map Prod.snd) (ds.map pr2)
theorem prt_of : ∀ {vs : List V} {ds : List PyData}, DpAll K H vs ds → ds.all pairD = true → ∃ us, Prt K H vs us ds
  | _, _, .nil, _ => ⟨[], rfl, fun i v u h => by simp at h, .nil, .nil⟩
  | _, _, .cons (v := v) (d := d) a b, h => by
    simp only [List.all_cons, Bool.and_eq_true] at h
    obtain ⟨us, q⟩ := prt_of b h.2
    have e := pairD_of h.1
    rw [e] at a
    cases a with
    | @tup p xs _ h1 h2 =>
      cases h2 with
      | @cons v1 _ _ _ a1 h2 =>
        cases h2 with
        | @cons v2 _ _ _ a2 h2 =>
          cases h2
          refine ⟨(v1, v2) :: us, congrArg (· + 1) q.len, fun i v u e1 e2 => ?_, .cons a1 q.d1, .cons a2 q.d2⟩
          cases i with
          | zero =>
            simp at e1 e2
            subst e1
            subst e2
            exact ⟨p, rfl, h1⟩
          | succ i =>
            simp at e1 e2
            exact q.at_ i v u e1 e2
theorem Prt.ext {us : List (V × V)} (e : Ex H H') (q : Prt K H vs us ds) : Prt K H' vs us ds :=
  ⟨q.len, fun i v u h1 h2 => let ⟨a, h, s⟩ := q.at_ i v u h1 h2; ⟨a, h, ex_t e s⟩, DpAll.ext e q.d1, DpAll.ext e q.d2⟩
theorem range_getD {α : Type} (ds : List α) (x : α) : (List.range ds.length).map (fun i => ds.getD i x) = ds := by
  apply List.ext_getElem?
  intro i
  by_cases h : i < ds.length
  · rw [List.getElem?_map, List.getElem?_range h]
    simp [h]
  · have h1 : (List.range ds.length)[i]? = none := by simp; omega
    have h2 : ds[i]? = none := by simp; omega
    rw [List.getElem?_map, h1, h2]
    rfl
theorem given_map {α : Type} (ds : List α) (x : α) (t : α → Bool) (f : α → V) : given ds.length (fun i => t (ds.getD i x)) (fun i => f (ds.getD i x)) = (ds.filter t).map f := by
  have e := range_getD ds x
  conv => rhs; rw [← e, List.filter_map, List.map_map]
  rfl
theorem given_mapT {α : Type} (ds : List α) (x : α) (f : α → V) : given ds.length (fun _ => true) (fun i => f (ds.getD i x)) = ds.map f := by
  have h := given_map ds x (fun _ => true) f
  rw [h, List.filter_eq_self.mpr (fun _ _ => rfl)]
theorem getD_some {α : Type} {ds : List α} {x d : α} {i : Nat} (h : ds[i]? = some d) : ds.getD i x = d := by
  rw [List.getD_eq_getElem?_getD, h]
  rfl
/-- tests over a tuple of data -/
theorem el_tests {a : Addr} {us : List V} {tt : TT} {ws : List Nat} {j : Nat} (m : PyData → Bool) (h : Ev tl σ H (.ref a)) (hx : SqT K H a us) (hd : DpAll K H us ds) (hz : us.length ≤ 40000)
    (hw : ∀ x, wipe ((wipe σ ws).set j (some x)) ws = wipe σ ws) (ht : ∀ σ' H1, EvT tt σ' H1 true)
    (he : ∀ (i : Nat) (v : V) (d : PyData) H1, Ex H H1 → ds[i]? = some d → Dp K H1 v d → Ev te ((wipe σ ws).set j (some v)) H1 (.bl (m d))) :
    EvL (tLc (iSeq K tl) (gName j) tt te ws) σ H ((ds.map m).map V.bl) := by
  refine el_is (el_lcT (fun i => (wipe σ ws).set j (some (us.getD i .non))) (fun _ => true) (fun i => .bl (m (ds.getD i .none))) h hx hz (fun i _ => hw _) (fun i x H1 e hi k q => ?_) (fun i x H1 e hi => ht _ _) (fun i x H1 e hi _ => ?_)) ?_
  · rw [getD_some hi] at q
    exact q
  · obtain ⟨d, h1, h2⟩ := dpAll_get hd hi
    rw [getD_some hi, getD_some h1]
    exact he i x d H1 e h1 (Dp.ext e h2)
  · rw [dpAll_len hd, given_mapT ds .none fun d => .bl (m d), List.map_map]
    rfl
/-- over a tuple of pairs -/
theorem el_prt {a : Addr} {xs : List V} {us : List (V × V)} {tt : TT} {ws : List Nat} {i1 i2 : Nat} (f : Nat → Bool) (g : Nat → V) (h : Ev tl σ H (.ref a)) (hx : SqT K H a xs) (hd : Prt K H xs us ds) (hz : xs.length ≤ 40000)
    (hw : ∀ x y, wipe (((wipe σ ws).set i1 (some x)).set i2 (some y)) ws = wipe σ ws)
    (ht : ∀ (i : Nat) (u : V × V) H1, Ex H H1 → us[i]? = some u → EvT tt (((wipe σ ws).set i1 (some u.1)).set i2 (some u.2)) H1 (f i))
    (he : ∀ (i : Nat) (u : V × V) H1, Ex H H1 → us[i]? = some u → f i = true → Ev te (((wipe σ ws).set i1 (some u.1)).set i2 (some u.2)) H1 (g i)) :
    EvL (tLc (iSeq K tl) (gTup K 2 (gCons (gName i1) (gCons (gName i2) gNil))) tt te ws) σ H (given us.length f g) := by
  have up : ∀ {i : Nat} {x : V}, xs[i]? = some x → ∃ u, us[i]? = some u := fun {i x} hi => by
    have : i < us.length := by
      rw [← hd.len]
      exact (List.getElem?_eq_some_iff.mp hi).1
    exact ⟨_, List.getElem?_eq_getElem this⟩
  rw [← hd.len]
  refine el_lcT (fun i => ((wipe σ ws).set i1 (some (us.getD i (.non, .non)).1)).set i2 (some (us.getD i (.non, .non)).2)) f g h hx hz (fun i _ => hw _ _) (fun i x H1 e hi k q => ?_) (fun i x H1 e hi => ?_) (fun i x H1 e hi hf => ?_)
  · obtain ⟨u, hu⟩ := up hi
    obtain ⟨b, rfl, hb⟩ := hd.at_ i x u hi hu
    rw [getD_some hu] at q
    exact ⟨b, _, rfl, ex_t e hb, rfl, u.1, [u.2], rfl, u.2, [], rfl, rfl, q⟩
  · obtain ⟨u, hu⟩ := up hi
    rw [getD_some hu]
    exact ht i u H1 e hu
  · obtain ⟨u, hu⟩ := up hi
    rw [getD_some hu]
    exact he i u H1 e hu hf
theorem prt_get {xs : List V} {us : List (V × V)} (q : Prt K H xs us ds) {i : Nat} {u : V × V} (h : us[i]? = some u) : ∃ d, ds[i]? = some d ∧ Dp K H u.1 (pr1 d) ∧ Dp K H u.2 (pr2 d) := by
  obtain ⟨e, h1, h2⟩ := dpAll_get q.d1 (i := i) (v := u.1) (by rw [List.getElem?_map, h]; rfl)
  obtain ⟨e', h3, h4⟩ := dpAll_get q.d2 (i := i) (v := u.2) (by rw [List.getElem?_map, h]; rfl)
  rw [List.getElem?_map] at h1 h3
  cases hd : ds[i]? with
  | none =>
    rw [hd] at h1
    cases h1
  | some d =>
    rw [hd] at h1 h3
    cases h1
    cases h3
    exact ⟨d, rfl, h2, h4⟩
theorem prt_len {xs : List V} {us : List (V × V)} (q : Prt K H xs us ds) : us.length = ds.length := by
  have := dpAll_len q.d1
  simpa using this
/-- tests over a tuple of pairs -/
theorem el_prtT {a : Addr} {xs : List V} {us : List (V × V)} {tt : TT} {ws : List Nat} {i1 i2 : Nat} (m : PyData → Bool) (h : Ev tl σ H (.ref a)) (hx : SqT K H a xs) (hd : Prt K H xs us ds) (hz : xs.length ≤ 40000)
    (hw : ∀ x y, wipe (((wipe σ ws).set i1 (some x)).set i2 (some y)) ws = wipe σ ws) (ht : ∀ σ' H1, EvT tt σ' H1 true)
    (he : ∀ (i : Nat) (u : V × V) (d : PyData) H1, Ex H H1 → ds[i]? = some d → Dp K H1 u.1 (pr1 d) → Dp K H1 u.2 (pr2 d) → Ev te (((wipe σ ws).set i1 (some u.1)).set i2 (some u.2)) H1 (.bl (m d))) :
    EvL (tLc (iSeq K tl) (gTup K 2 (gCons (gName i1) (gCons (gName i2) gNil))) tt te ws) σ H ((ds.map m).map V.bl) := by
  refine el_is (el_prt (fun _ => true) (fun i => .bl (m (ds.getD i .none))) h hx hd hz hw (fun i u H1 e hu => ht _ _) (fun i u H1 e hu _ => ?_)) ?_
  · obtain ⟨d, h0, h1, h2⟩ := prt_get hd hu
    rw [getD_some h0]
    exact he i u d H1 e h0 (Dp.ext e h1) (Dp.ext e h2)
  · rw [prt_len hd, given_mapT ds .none fun d => .bl (m d), List.map_map]
    rfl
/-- the first parts of a tuple of pairs -/
theorem el_prt1 {a : Addr} {xs : List V} {us : List (V × V)} {tt : TT} {ws : List Nat} {i1 i2 : Nat} (h : Ev tl σ H (.ref a)) (hx : SqT K H a xs) (hd : Prt K H xs us ds) (hz : xs.length ≤ 40000)
    (hw : ∀ x y, wipe (((wipe σ ws).set i1 (some x)).set i2 (some y)) ws = wipe σ ws) (ht : ∀ σ' H1, EvT tt σ' H1 true)
    (he : ∀ (u : V × V) H1, Ev te (((wipe σ ws).set i1 (some u.1)).set i2 (some u.2)) H1 u.1) :
    EvL (tLc (iSeq K tl) (gTup K 2 (gCons (gName i1) (gCons (gName i2) gNil))) tt te ws) σ H (us.map Prod.fst) := by
  refine el_is (el_prt (fun _ => true) (fun i => (us.getD i (.non, .non)).1) h hx hd hz hw (fun i u H1 e hu => ht _ _) (fun i u H1 e hu _ => ?_)) (given_mapT us (.non, .non) Prod.fst)
  rw [getD_some hu]
  exact he u H1
theorem et_true {tt : TT} (h : ∀ σ H (Q : Bool → Hp → Prop), Q true H → tt σ H Q) {H1 : Hp} : EvT tt σ H1 true := fun H2 e2 Q q => h _ _ _ (q H2 (Ex.refl H2))
theorem ev_callL {sp : Sp} {E : XK} {xs : List V} {z : V} (h : EvL ta σ H xs) (hs : ∀ p H1, H1 p = some (.lst xs) → SpV sp [.ref p] H1 z) : Ev (tCall sp [] E (tCons ta tNil)) σ H z := fun H1 e Q q =>
  h H1 e _ fun p H2 _ e2 h2 => hs p H2 h2 H2 (Ex.refl H2) Q (fun H3 e3 => q H3 (e2.trans e3)) E
end
theorem pgK_tup {X : Cx} {es : List Expr} {k : Nat} {pos : Pos} {t : TGs} {n : Nat} {K : PySem.W.Frag} (hK : X.K = K) (hc : X.calm = true) (h : PGs X es t)
    (hn : (assignEach es X.env).length = n := by rfl) (hst : (assignEach es X.env).findIdx? (·.1) = none := by rfl) : PG X (.Tuple es k pos) (gTup K n t) := hK ▸ pg_tup hc h hn hst
end Kb
set_option Elab.async false
set_option linter.all false
set_option maxRecDepth 100000
set_option maxHeartbeats 4000000
namespace Kb
open PySem PySem.Spec PyProof.Rows L2 Evl
/-! ### tuples without a dict of their own: dict(t) of them -/
/-- a tuple of which is known that it has no dict -/
def SqP (H : Hp) (a : Addr) (xs : List V) : Prop := ∃ o : Obj, o.dict = none ∧ H a = some (.frz o (.tup xs))
theorem SqP.t {K : PySem.W.Frag} {H : Hp} {a : Addr} {xs : List V} (h : SqP H a xs) : SqT K H a xs := by
  obtain ⟨o, _, h⟩ := h
  exact .inl (.inr ⟨o, h⟩)
theorem SqP.ext {H H' : Hp} {a : Addr} {xs : List V} (h : SqP H a xs) (e : Ex H H') : SqP H' a xs := by
  obtain ⟨o, ho, h⟩ := h
  exact ⟨o, ho, e _ _ h⟩
def rTupP (K : PySem.W.Frag) : List V → Hp → VK → Prop := fun xs H Q => ∃ p ys, xs = [.ref p] ∧ ((SqL K H p ys ∧ ∀ l o, H l = none → o.dict = none → Q (.ref l) (upd H l (.frz o (.tup ys)))) ∨ (SqT K H p ys ∧ Q (.ref p) H))
section
variable {X : Cx}
theorem call_tupleP : CallR X (.type "tuple") (rTupP X.K) := by
  intro pins s σ H xs us Q I r h
  obtain ⟨p, ys, rfl, h⟩ := h
  obtain ⟨u, rfl, rx⟩ := vals1 r
  cases rx
  rcases h with ⟨hq, q⟩ | ⟨hq, q⟩
  · obtain ⟨its, r', pl, hz⟩ := I.list hq
    have hlen := r'.length
    refine call_tuple_list pl.isList (fun h' kp => ?_) (by simp only [List.size_toArray] <;> omega)
    have I1 : Inv X pins σ H { s with heap := h' } := I.kept (t' := s.toks) kp
    have I2 : Inv X pins σ (upd H h'.objs.size (.frz { cls := .type "tuple", data := .seq its.toArray } (.tup ys))) { s with heap := h'.push { cls := .type "tuple", data := .seq its.toArray } } :=
      I1.laid (t' := s.toks) (fun b o e => Heap.get?_push_of_some _ e) (Nat.le_refl _) (show ObjOk X.prog X.w _ _ _ (.frz _ (.tup ys)) from ⟨Heap.get?_push_size _ rfl, hz, its, r', IsTup.new _ _⟩)
    exact ⟨.ref h'.objs.size, _, I2, rfl, q _ _ (I1.hok.fresh (Nat.le_refl _)) rfl⟩
  · obtain ⟨its, r', pl, hz⟩ := I.tuple hq
    exact call_tuple_same pl ⟨.ref p, H, I, rfl, q⟩
def rDictT (K : PySem.W.Frag) : List V → Hp → VK → Prop := fun xs H Q => ∃ (a : Addr) (ps : List Addr) (kvs : List (Key × V)), xs = [.ref a] ∧ SqP H a (ps.map V.ref) ∧ Paired (fun p kv => SqT K H p [kV kv.1, kv.2]) ps kvs ∧
  ∀ p, H p = none → Q (.ref p) (upd H p (.dK (mergeK [] kvs)))
theorem call_dictT (hcalm : X.calm = true) : CallR X (.type "dict") (rDictT X.K) := by
  intro pins s σ H xs us Q I r q
  obtain ⟨a, ps, kvs, ex, ⟨o, hod, hq⟩, hp, q⟩ := q
  subst ex
  obtain ⟨u, eu, rx⟩ := vals1 r
  subst eu
  cases rx
  obtain ⟨ho, hz, its, rv, ht⟩ : ObjOk X.prog X.w H s.heap a (.frz o (.tup (ps.map V.ref))) := I.hok a _ hq
  obtain ⟨o', ho', hc, n, hdat⟩ := ht
  obtain rfl : o = o' := Option.some.inj (ho.symm.trans ho')
  have ei := refs_at rv
  subst ei
  rw [List.length_map] at hz
  obtain ⟨prs, rel, hl, hpr⟩ := L2.pairs_of I hp
  have hex : ∀ j : Nat, ∃ u : Value, ∀ q, prs[j]? = some q → ∃ b, ps[j]? = some b ∧ IsTup s.heap b #[u, q.2] ∧ keyIs q.1 u = true := fun j => by
    cases hj : prs[j]? with
    | none => exact ⟨.none, fun q e => nomatch e⟩
    | some q =>
      obtain ⟨b, u, e1, e2, e3⟩ := hpr j q hj
      exact ⟨u, fun q' e => by cases e; exact ⟨b, e1, e2, e3⟩⟩
  let uf : Nat → Value := fun j => Classical.choose (hex j)
  have huf : ∀ j q, prs[j]? = some q → ∃ b, ps[j]? = some b ∧ IsTup s.heap b #[uf j, q.2] ∧ keyIs q.1 (uf j) = true := fun j => Classical.choose_spec (hex j)
  let pv : List (Value × Value) := (List.range prs.length).map fun j => (uf j, ((prs[j]?).map (·.2)).getD .none)
  have hpv : pv.length = ps.length := by simp [pv, hl]
  have pat : ∀ (j : Nat) (k v : Value), pv[j]? = some (k, v) → ∃ q, prs[j]? = some q ∧ k = uf j ∧ v = q.2 := fun j k v e => by
    have hj : j < prs.length := by
      have := (List.getElem?_eq_some_iff.mp e).1
      rw [hpv, ← hl] at this
      exact this
    have e2 : pv[j]? = some (uf j, ((prs[j]?).map (·.2)).getD .none) := by
      show ((List.range prs.length).map _)[j]? = _
      rw [List.getElem?_map, List.getElem?_range hj]
      rfl
    rw [e2] at e
    injection e with e
    injection e with e3 e4
    refine ⟨prs[j], List.getElem?_eq_getElem hj, e3.symm, ?_⟩
    rw [List.getElem?_eq_getElem hj] at e4
    exact e4.symm
  refine PySem.call_dict_pairs (knd := mixKind X.prog X.w) (kvs := prs) (PairArg.tuple a (ps.map Value.ref).toArray (fun j => ps.getD j 0) pv) (I.ok.hd hcalm) ⟨⟨o, n, ho, hc, hod, hdat⟩, ?_, ?_⟩ ⟨?_, ?_⟩ (by rw [hpv]; exact hz) fun h' tk hd' k => ?_
  · simp [hpv]
  · intro j k v e
    obtain ⟨q', hq', rfl, rfl⟩ := pat j k v e
    obtain ⟨b, e1, e2, e3⟩ := huf j q' hq'
    have e4 : ps.getD j 0 = b := getD_some e1
    refine ⟨?_, .inl ?_⟩
    · show _ = some (Value.ref (ps.getD j 0))
      rw [e4]
      simp [e1]
    · show IsTup s.heap (ps.getD j 0) _
      rw [e4]
      exact e2
  · rw [hpv, hl]
  · intro i key v e
    obtain ⟨q', hq', rfl, rfl⟩ := pat i key v e
    obtain ⟨b, e1, e2, e3⟩ := huf i q' hq'
    exact ⟨q'.1, hq', e3⟩
  · have hm : (s.heap.objs.size == sysModules) = false := beq_eq_false_iff_ne.mpr (Nat.ne_of_gt I.big)
    have hlen : (mergeK [] kvs).length ≤ sizeLine := by
      refine Nat.le_trans (length_mergeK kvs []) ?_
      rw [List.length_nil, Nat.zero_add, rel.length, hl]
      exact hz
    exact ⟨.ref s.heap.objs.size, upd H s.heap.objs.size (.dK (mergeK [] kvs)), I.laid (t' := tk) (fun b o e => k b o (by simp) e) (Nat.le_refl _) (show ObjOk X.prog X.w _ _ _ (.dK (mergeK [] kvs)) from ⟨hlen, hm, merged [] prs, KV.merge rel .nil, hd'⟩), rfl, q _ (I.hok.fresh (Nat.le_refl _))⟩
end
end Kb
set_option Elab.async false
set_option linter.all false
set_option maxRecDepth 100000
set_option maxHeartbeats 4000000
namespace Kb
open PySem PySem.Spec PyProof.Rows L2
def topS (i : Nat) : Stmt := PySem.Challenge.pw_heapshown_k01_terms_and_states.main.body.getD i (.Pass ⟨0, 0, 0, 0⟩)
abbrev s_HeapError : Stmt := topS 1
abbrev s_BadText : Stmt := topS 2
abbrev s_BadText_init : Stmt := inClass s_BadText 0
theorem sc_BadText_init : FnScope ["self", "line", "word"] ["self", "line", "word"] (defScope s_BadText_init) := ⟨rfl, rfl, rfl, by decide +kernel, rfl, by decide +kernel, by decide +kernel⟩
abbrev s_BadName : Stmt := topS 3
abbrev s_BadName_init : Stmt := inClass s_BadName 0
theorem sc_BadName_init : FnScope ["self", "name"] ["self", "name"] (defScope s_BadName_init) := ⟨rfl, rfl, rfl, by decide +kernel, rfl, by decide +kernel, by decide +kernel⟩
abbrev s_BadNumber : Stmt := topS 4
abbrev s_BadNumber_init : Stmt := inClass s_BadNumber 0
theorem sc_BadNumber_init : FnScope ["self", "what", "number"] ["self", "what", "number"] (defScope s_BadNumber_init) := ⟨rfl, rfl, rfl, by decide +kernel, rfl, by decide +kernel, by decide +kernel⟩
abbrev s_BadRow : Stmt := topS 5
abbrev s_BadRow_init : Stmt := inClass s_BadRow 0
theorem sc_BadRow_init : FnScope ["self", "what", "row"] ["self", "what", "row"] (defScope s_BadRow_init) := ⟨rfl, rfl, rfl, by decide +kernel, rfl, by decide +kernel, by decide +kernel⟩
abbrev s_NoName : Stmt := topS 6
abbrev s_NoName_init : Stmt := inClass s_NoName 0
theorem sc_NoName_init : FnScope ["self", "name"] ["self", "name"] (defScope s_NoName_init) := ⟨rfl, rfl, rfl, by decide +kernel, rfl, by decide +kernel, by decide +kernel⟩
abbrev s_TakenName : Stmt := topS 7
abbrev s_TakenName_init : Stmt := inClass s_TakenName 0
theorem sc_TakenName_init : FnScope ["self", "name"] ["self", "name"] (defScope s_TakenName_init) := ⟨rfl, rfl, rfl, by decide +kernel, rfl, by decide +kernel, by decide +kernel⟩
abbrev s_Unlike : Stmt := topS 8
abbrev s_Unlike_init : Stmt := inClass s_Unlike 0
theorem sc_Unlike_init : FnScope ["self", "what"] ["self", "what"] (defScope s_Unlike_init) := ⟨rfl, rfl, rfl, by decide +kernel, rfl, by decide +kernel, by decide +kernel⟩
abbrev s_TooMany : Stmt := topS 9
abbrev s_TooMany_init : Stmt := inClass s_TooMany 0
theorem sc_TooMany_init : FnScope ["self", "what", "many", "limit"] ["self", "what", "many", "limit"] (defScope s_TooMany_init) := ⟨rfl, rfl, rfl, by decide +kernel, rfl, by decide +kernel, by decide +kernel⟩
abbrev s_is_plain_name : Stmt := topS 16
theorem sc_is_plain_name : FnScope ["value", "behind", "sign"] ["value"] (defScope s_is_plain_name) := ⟨rfl, rfl, rfl, by decide +kernel, rfl, by decide +kernel, by decide +kernel⟩
abbrev s_is_hidden : Stmt := topS 17
theorem sc_is_hidden : FnScope ["value", "sign"] ["value"] (defScope s_is_hidden) := ⟨rfl, rfl, rfl, by decide +kernel, rfl, by decide +kernel, by decide +kernel⟩
abbrev s_is_plain : Stmt := topS 18
theorem sc_is_plain : FnScope ["value"] ["value"] (defScope s_is_plain) := ⟨rfl, rfl, rfl, by decide +kernel, rfl, by decide +kernel, by decide +kernel⟩
abbrev s_is_term : Stmt := topS 19
theorem sc_is_term : FnScope ["value"] ["value"] (defScope s_is_term) := ⟨rfl, rfl, rfl, by decide +kernel, rfl, by decide +kernel, by decide +kernel⟩
abbrev s_rising : Stmt := topS 20
theorem sc_rising : FnScope ["value", "at"] ["value"] (defScope s_rising) := ⟨rfl, rfl, rfl, by decide +kernel, rfl, by decide +kernel, by decide +kernel⟩
abbrev s_is_whole : Stmt := topS 22
theorem sc_is_whole : FnScope ["value"] ["value"] (defScope s_is_whole) := ⟨rfl, rfl, rfl, by decide +kernel, rfl, by decide +kernel, by decide +kernel⟩
abbrev s_is_number : Stmt := topS 23
theorem sc_is_number : FnScope ["value"] ["value"] (defScope s_is_number) := ⟨rfl, rfl, rfl, by decide +kernel, rfl, by decide +kernel, by decide +kernel⟩
abbrev s_State : Stmt := topS 28
abbrev s_State_init : Stmt := inClass s_State 0
theorem sc_State_init : FnScope ["self", "store", "heap", "known", "cells"] ["self", "store", "heap"] (defScope s_State_init) := ⟨rfl, rfl, rfl, by decide +kernel, rfl, by decide +kernel, by decide +kernel⟩
abbrev s_State_eq : Stmt := inClass s_State 1
theorem sc_State_eq : FnScope ["self", "other"] ["self", "other"] (defScope s_State_eq) := ⟨rfl, rfl, rfl, by decide +kernel, rfl, by decide +kernel, by decide +kernel⟩
abbrev s_State_ne : Stmt := inClass s_State 2
theorem sc_State_ne : FnScope ["self", "other"] ["self", "other"] (defScope s_State_ne) := ⟨rfl, rfl, rfl, by decide +kernel, rfl, by decide +kernel, by decide +kernel⟩
abbrev s_is_value : Stmt := topS 29
theorem sc_is_value : FnScope ["value"] ["value"] (defScope s_is_value) := ⟨rfl, rfl, rfl, by decide +kernel, rfl, by decide +kernel, by decide +kernel⟩
abbrev s_is_address : Stmt := topS 30
theorem sc_is_address : FnScope ["value"] ["value"] (defScope s_is_address) := ⟨rfl, rfl, rfl, by decide +kernel, rfl, by decide +kernel, by decide +kernel⟩
abbrev s_is_store : Stmt := topS 31
theorem sc_is_store : FnScope ["value", "row", "name", "number"] ["value"] (defScope s_is_store) := ⟨rfl, rfl, rfl, by decide +kernel, rfl, by decide +kernel, by decide +kernel⟩
abbrev s_is_heap : Stmt := topS 32
theorem sc_is_heap : FnScope ["value", "row", "address", "number"] ["value"] (defScope s_is_heap) := ⟨rfl, rfl, rfl, by decide +kernel, rfl, by decide +kernel, by decide +kernel⟩
abbrev s_need_state : Stmt := topS 33
theorem sc_need_state : FnScope ["what", "value"] ["what", "value"] (defScope s_need_state) := ⟨rfl, rfl, rfl, by decide +kernel, rfl, by decide +kernel, by decide +kernel⟩
abbrev s_value_by : Stmt := topS 34
theorem sc_value_by : FnScope ["state", "term"] ["state", "term"] (defScope s_value_by) := ⟨rfl, rfl, rfl, by decide +kernel, rfl, by decide +kernel, by decide +kernel⟩
abbrev s_value_of : Stmt := topS 35
theorem sc_value_of : FnScope ["state", "term"] ["state", "term"] (defScope s_value_of) := ⟨rfl, rfl, rfl, by decide +kernel, rfl, by decide +kernel, by decide +kernel⟩
abbrev s_need_address : Stmt := topS 36
theorem sc_need_address : FnScope ["address"] ["address"] (defScope s_need_address) := ⟨rfl, rfl, rfl, by decide +kernel, rfl, by decide +kernel, by decide +kernel⟩
abbrev s_content_at : Stmt := topS 37
theorem sc_content_at : FnScope ["state", "address"] ["state", "address"] (defScope s_content_at) := ⟨rfl, rfl, rfl, by decide +kernel, rfl, by decide +kernel, by decide +kernel⟩
abbrev s_values_by : Stmt := topS 38
theorem sc_values_by : FnScope ["state", "found", "address", "value", "name"] ["state"] (defScope s_values_by) := ⟨rfl, rfl, rfl, by decide +kernel, rfl, by decide +kernel, by decide +kernel⟩
abbrev s_values_in : Stmt := topS 39
theorem sc_values_in : FnScope ["state"] ["state"] (defScope s_values_in) := ⟨rfl, rfl, rfl, by decide +kernel, rfl, by decide +kernel, by decide +kernel⟩
abbrev s_loose_by : Stmt := topS 40
theorem sc_loose_by : FnScope ["state", "heap", "value"] ["state"] (defScope s_loose_by) := ⟨rfl, rfl, rfl, by decide +kernel, rfl, by decide +kernel, by decide +kernel⟩
abbrev s_loose_in : Stmt := topS 41
theorem sc_loose_in : FnScope ["state"] ["state"] (defScope s_loose_in) := ⟨rfl, rfl, rfl, by decide +kernel, rfl, by decide +kernel, by decide +kernel⟩
abbrev s_least_others : Stmt := topS 42
theorem sc_least_others : FnScope ["values", "many", "found", "address"] ["values", "many"] (defScope s_least_others) := ⟨rfl, rfl, rfl, by decide +kernel, rfl, by decide +kernel, by decide +kernel⟩
abbrev s_new_address : Stmt := topS 43
theorem sc_new_address : FnScope ["state"] ["state"] (defScope s_new_address) := ⟨rfl, rfl, rfl, by decide +kernel, rfl, by decide +kernel, by decide +kernel⟩
abbrev s__law_pen : Stmt := topS 45
theorem sc__law_pen : FnScope ["script", "fold", "cell"] ["script"] (defScope s__law_pen) := ⟨rfl, rfl, rfl, by decide +kernel, rfl, by decide +kernel, by decide +kernel⟩
abbrev s__law_draw : Stmt := topS 46
theorem sc__law_draw : FnScope ["pen", "many", "cell", "digit", "blend"] ["pen", "many"] (defScope s__law_draw) := ⟨rfl, rfl, rfl, by decide +kernel, rfl, by decide +kernel, by decide +kernel⟩
abbrev s__law_pick : Stmt := topS 47
theorem sc__law_pick : FnScope ["pen", "some"] ["pen", "some"] (defScope s__law_pick) := ⟨rfl, rfl, rfl, by decide +kernel, rfl, by decide +kernel, by decide +kernel⟩
abbrev s__law_shuffled : Stmt := topS 48
theorem sc__law_shuffled : FnScope ["pen", "some", "left", "found", "lap"] ["pen", "some"] (defScope s__law_shuffled) := ⟨rfl, rfl, rfl, by decide +kernel, rfl, by decide +kernel, by decide +kernel⟩
abbrev s__law_is : Stmt := topS 49
theorem sc__law_is : FnScope ["told", "due", "at"] ["told", "due"] (defScope s__law_is) := ⟨rfl, rfl, rfl, by decide +kernel, rfl, by decide +kernel, by decide +kernel⟩
abbrev s__law_caught : Stmt := topS 50
theorem sc__law_caught : FnScope ["action", "e", "found"] ["action"] (defScope s__law_caught) := ⟨rfl, rfl, rfl, by decide +kernel, rfl, by decide +kernel, by decide +kernel⟩
abbrev s__law_raise_so : Stmt := topS 51
theorem sc__law_raise_so : FnScope ["calls", "call", "due", "told"] ["calls"] (defScope s__law_raise_so) := ⟨rfl, rfl, rfl, by decide +kernel, rfl, by decide +kernel, by decide +kernel⟩
abbrev s__law_unlike : Stmt := topS 52
theorem sc__law_unlike : FnScope ["row", "some", "at"] ["row"] (defScope s__law_unlike) := ⟨rfl, rfl, rfl, by decide +kernel, rfl, by decide +kernel, by decide +kernel⟩
abbrev s__law_words : Stmt := topS 53
theorem sc__law_words : FnScope [] [] (defScope s__law_words) := ⟨rfl, rfl, rfl, by decide +kernel, rfl, by decide +kernel, by decide +kernel⟩
abbrev s__law_is_name_text : Stmt := topS 54
theorem sc__law_is_name_text : FnScope ["value", "letters", "rest", "sign"] ["value"] (defScope s__law_is_name_text) := ⟨rfl, rfl, rfl, by decide +kernel, rfl, by decide +kernel, by decide +kernel⟩
abbrev s__law_is_hidden_text : Stmt := topS 55
theorem sc__law_is_hidden_text : FnScope ["value", "digits", "sign"] ["value"] (defScope s__law_is_hidden_text) := ⟨rfl, rfl, rfl, by decide +kernel, rfl, by decide +kernel, by decide +kernel⟩
abbrev s__law_value : Stmt := topS 56
theorem sc__law_value : FnScope ["state", "term", "given", "table", "name", "value"] ["state", "term", "given"] (defScope s__law_value) := ⟨rfl, rfl, rfl, by decide +kernel, rfl, by decide +kernel, by decide +kernel⟩
abbrev s__law_values : Stmt := topS 57
theorem sc__law_values : FnScope ["state", "found", "address", "value", "name"] ["state"] (defScope s__law_values) := ⟨rfl, rfl, rfl, by decide +kernel, rfl, by decide +kernel, by decide +kernel⟩
abbrev s__law_content : Stmt := topS 58
theorem sc__law_content : FnScope ["heap", "address", "found", "own", "value"] ["heap", "address"] (defScope s__law_content) := ⟨rfl, rfl, rfl, by decide +kernel, rfl, by decide +kernel, by decide +kernel⟩
abbrev s__law_drawn_names : Stmt := topS 59
theorem sc__law_drawn_names : FnScope ["pen", "most", "some", "lap"] ["pen", "most"] (defScope s__law_drawn_names) := ⟨rfl, rfl, rfl, by decide +kernel, rfl, by decide +kernel, by decide +kernel⟩
abbrev s__law_drawn_state : Stmt := topS 60
theorem sc__law_drawn_state : FnScope ["pen", "names", "cells", "addresses", "some", "heap", "row", "lap", "address", "one", "other", "name"] ["pen", "names", "cells"] (defScope s__law_drawn_state) := ⟨rfl, rfl, rfl, by decide +kernel, rfl, by decide +kernel, by decide +kernel⟩
abbrev s__law_state : Stmt := topS 61
theorem sc__law_state : FnScope ["state"] ["state"] (defScope s__law_state) := ⟨rfl, rfl, rfl, by decide +kernel, rfl, by decide +kernel, by decide +kernel⟩
abbrev s__law_plain_state : Stmt := topS 62
theorem sc__law_plain_state : FnScope ["told"] ["told"] (defScope s__law_plain_state) := ⟨rfl, rfl, rfl, by decide +kernel, rfl, by decide +kernel, by decide +kernel⟩
abbrev s__law_terms_right : Stmt := topS 63
theorem sc__law_terms_right : FnScope ["pen", "signs", "texts", "text", "name", "hidden", "value", "turn", "lap"] ["pen"] (defScope s__law_terms_right) := ⟨rfl, rfl, rfl, by decide +kernel, rfl, by decide +kernel, by decide +kernel⟩
abbrev s__law_spoils : Stmt := topS 64
theorem sc__law_spoils : FnScope ["pen", "state", "store", "heap", "some", "wrong", "odd", "far", "address"] ["pen", "state"] (defScope s__law_spoils) := ⟨rfl, rfl, rfl, by decide +kernel, rfl, by decide +kernel, by decide +kernel⟩
abbrev s__law_refusals_right : Stmt := topS 65
theorem sc__law_refusals_right : FnScope ["pen", "made", "state", "first", "second", "due", "bad", "odd", "none", "calls"] ["pen", "made", "state"] (defScope s__law_refusals_right) := ⟨rfl, rfl, rfl, by decide +kernel, rfl, by decide +kernel, by decide +kernel⟩
abbrev s_law : Stmt := topS 66
theorem sc_law : FnScope ["script", "pen", "lap", "names", "state", "store", "heap", "made", "near", "other", "some", "cells", "term", "address", "value"] ["script"] (defScope s_law) := ⟨rfl, rfl, rfl, by decide +kernel, rfl, by decide +kernel, by decide +kernel⟩
end Kb
set_option Elab.async false
set_option linter.all false
set_option maxRecDepth 100000
set_option maxHeartbeats 4000000
namespace Kb
open PySem PySem.Spec PyProof.Rows L2
/-! ### HeapError.__init__(self, text): the class has none of its own, so it is ValueError's -/
structure HeC (K : PySem.W.Frag) (mg : Str → Option Value) (HE : Addr) : Prop where
  g : mg "HeapError" = some (.ref HE)
  ga : PySem.W.specialIn K (.ref HE) "__getattribute__" = some (some (.builtin "type.__getattribute__"))
  rd : PySem.W.readsIn K HE (.type "type") = true
  ini : PySem.W.findCls K (.ref HE) (.type "type") "__init__" = some (.val (.builtin "ValueError.__init__"))
section
variable {X : Cx} {e : Expr} {es : List Expr} {ta : TA} {p1 p2 pos : Pos} {HE : Addr}
theorem pe_heinit {pl : Sem Bool} (T : HeC X.K X.mg HE) (hg : Gl X "HeapError") (ha : PA X (e :: es) ta)
    (hc : eval (.Call (.Attribute (.Name "HeapError" p1) "__init__" p2) (e :: es) [] pos) X.env = (do
      let ov ← eval (.Name "HeapError" p1) X.env
      standAt p2.atName
      let (f, first) ← holding [ov] (getMethod ov "__init__" pl)
      callWith pos f first (backTo pos (starEach (e :: es) X.env)) (backToKw pos (keywordEach [] X.env))) := by rfl)
    (he : starEach (e :: es) X.env = (false, eval e X.env) :: starEach es X.env := by rfl) (hpl : (backTo pos (starEach es X.env)).any (·.1) = false := by rfl) :
    PE X (.Call (.Attribute (.Name "HeapError" p1) "__init__" p2) (e :: es) [] pos) (tVeI X.K ta) := by
  refine ⟨fun pins s σ H Q I h => ?_⟩
  refine PySem.W.methodCall_KW (ld_glob I hg T.g ?_ (by decide)) hc
  refine PySem.W.method_cls I.kIn T.ga (PySem.W.cls_value I.kIn T.rd T.ini (by decide +kernel) ?_)
  show wpAny _ _ (callWith pos (Value.builtin "ValueError.__init__") [] (backTo pos (starEach (e :: es) X.env)) []) _ _ _
  refine PyProof.Rows.callWith_method1 (thn (ha.run pos pins _ σ H _ (I.tok _) h) fun us s1 ⟨vs, H1, I1, r1, a, C, ws, ev, hl, T, ea, q⟩ => ?_) he hpl
  subst ev
  cases r1 with
  | @cons _ u0 _ ur ra rw' =>
    obtain rfl : u0 = Value.ref a := ra
    have hlen : ur.length ≤ sizeLine := by
      rw [← Paired.length rw', sizeLine_eq]
      omega
    exact oinit_ok T I1 ea hlen fun s' J => ⟨.non, H1, J, rfl, q⟩
end
/-! ### an exception made without arguments, its __init__ storing nothing -/
def tMkN (C : Addr) (sp : Sp) : L2.St → Hp → XK → Prop := fun σ H Q => ∀ a, H a = none → sp [.ref a] (upd H a (exo a C none)) (fun v H2 => v = .non ∧ H2 a = some (exo a C none) ∧ Q (.ref C) none (del H2 a)) (fun _ _ _ => False)
section
variable {X : Cx} {p pos : Pos}
theorem mk_endN {pins : List (Addr × Obj)} {σ : L2.St} {H1 H2 : Hp} {Q : XK} {hp hp2 h2 : Heap} {g1 g2 : Array GenState} {d1 d2 : Drawn} {t1 t2 : Nat} {os1 os2 : OsState} {a C : Addr} (T : Raises X (.ref C)) (I1 : Inv X pins σ H1 ⟨hp, g1, d1, t1, os1⟩)
    (ha : hp.objs.size ≤ a) (k : ∀ b o, hp.get? b = some o → hp2.get? b = some o) (un : Un (frs X.stack) [] (upd H1 a (exo a C none)) H2 hp2 h2) (hok : HOk X.prog X.w H2 h2) (ho : os2 = os1) (hb : AllBare g2)
    (ea : H2 a = some (exo a C none)) (q : Q (.ref C) none (del H2 a)) : MkP X pins σ Q (.ref a) ⟨h2, g2, d2, t2, os2⟩ := by
  obtain ⟨t0, hoe⟩ := exo_at hok ea
  have hn : H1 a = none := I1.hok.fresh ha
  obtain ⟨G, g1', g2'⟩ := restrict h2 fun b => decide (b ≠ a)
  have gk : ∀ b, b ≠ a → G.get? b = h2.get? b := fun b hb => g1' b (decide_eq_true hb)
  have ge : G.get? a = none := g2' a (by simp)
  have nha : ∀ {b : Addr} {o : Obj}, hp.get? b = some o → b ≠ a := fun {b o} z => Nat.ne_of_lt (Nat.lt_of_lt_of_le (Heap.lt_size z) ha)
  have up : ∀ {b : Addr}, b ≠ a → H1 b = none → upd H1 a (exo a C none) b = none := fun {b} hb n => by rw [upd_ne hb]; exact n
  have U : Un (frs X.stack) [] H1 (del H2 a) hp G := {
    keep := fun b o z n hf hx => by
      rw [gk b (nha z)]
      exact un.keep b o (k b o z) (up (nha z) n) hf hx
    slot := fun b o z n hf hx => by
      rw [gk b (nha z)]
      exact un.slot b o (k b o z) (up (nha z) n) hf hx
    free := fun b o z n hx => by
      rw [del_ne (nha z)]
      exact un.free b o (k b o z) (up (nha z) n) hx
    there := fun b o z hx => by
      rw [gk b (nha z)]
      exact un.there b o (k b o z) hx
    tups := fun b xs z => by
      rw [del_ne (ne_of_none z hn)]
      exact un.tups b xs (by rw [upd_ne (ne_of_none z hn)]; exact z)
    frzs := fun b o v z => by
      rw [del_ne (ne_of_none z hn)]
      exact un.frzs b o v (by rw [upd_ne (ne_of_none z hn)]; exact z)
    tbls := fun b ps z => by
      rw [del_ne (ne_of_none z hn)]
      exact un.tbls b ps (by rw [upd_ne (ne_of_none z hn)]; exact z) }
  have hok3 : HOk X.prog X.w (del H2 a) G := fun b o z => by
    have hba : b ≠ a := fun e => by
      rw [e, del_same] at z
      cases z
    rw [del_ne hba] at z
    have noa : ∀ {c : Addr}, H2 c = some (.own b) → c ≠ a := fun {c} hc => at_ne ea hc exo_own
    exact (hok b o z).stay (fun c v hc y => by
        have hca : c ≠ a := by
          rcases hc with hc | hc
          · rw [hc]
            exact hba
          · exact noa hc
        rw [gk c hca]
        exact y)
      (fun c hc => by rw [del_ne (noa hc)]; exact hc) (fun c xs hc => by rw [del_ne (at_ne ea hc exo_tup)]; exact hc)
  have J : Inv X pins σ (del H2 a) ⟨G, g2, d2, t2, os2⟩ := I1.call' (ch := []) ho U hok3 hb (fun b z => absurd z (by simp))
  refine ⟨a, _, _, ⟨G, g2, d2, t2, os2⟩, _, .ref C, none, rfl, J, fun b o z => ?_, ge, hoe, ⟨rfl, rfl⟩, rfl, rfl, del_same, rfl, hb, T, q⟩
  by_cases hba : b = a
  · rw [hba, ge] at z
    cases z
  · exact (gk b hba).symm.trans z
theorem pmk_oexN {CX : CXT} {x : Str} {C fI : Addr} {k : Nat} {fd : FuncData} {ps : List Str} {sp : Sp} (T : OexC X.K C) (iC : PySem.W.findIn X.K (.ref C) "__init__" = some (some (.ref fI))) (tI : PySem.W.typeIn X.K (.ref fI) = some (.type "function"))
    (F1 : FnOk X.prog X.w X.K X.mg X.base CX k fI fd ps sp) (hr : Room (k + 1) X.A) (hb : L2.Binds X.K fd ps []) (hx : Passes CX X (fun _ _ _ => False)) (hg : Gl X x) (hm : X.mg x = some (.ref C)) (hdb : (x == ("__debug__" : Str)) = false := by decide) :
    PMk X (.Call (.Name x p) [] [] pos) (tMkN C sp) := by
  intro pins s σ H Q I h
  obtain ⟨nm, q, N, bs, bm, sn, sub, ab, col, dd, k0, k1, k2, k3, k5, hC, hbm⟩ := T.cls
  refine wpAny_Call_Name_kw (ld_glob I hg hm ?_ hdb)
  refine PySem.W.callWith_K0 I.kIn T.kC ?_
  show wpAny _ _ (call (.ref C) []) _ _ _
  obtain ⟨hp, g, dr, tk, os⟩ := s
  have hsz : hp.objs.size ≤ hp.objs.size + 1 := Nat.le_succ _
  have hn : H (hp.objs.size + 1) = none := I.hok.fresh hsz
  have hq := h (hp.objs.size + 1) hn
  have kk : ∀ b o, hp.get? b = some o → ((hp.push (PySem.W.kdv_tup [])).push (PySem.HandSPX.excO C hp.objs.size)).get? b = some o := fun b o e => Heap.get?_push_of_some _ (Heap.get?_push_of_some _ e)
  have hget : ((hp.push (PySem.W.kdv_tup [])).push (PySem.HandSPX.excO C hp.objs.size)).get? (hp.objs.size + 1) = some (PySem.HandSPX.excO C hp.objs.size) := by heap_get
  have I2 : Inv X pins σ (upd H (hp.objs.size + 1) (exo (hp.objs.size + 1) C none)) ⟨(hp.push (PySem.W.kdv_tup [])).push (PySem.HandSPX.excO C hp.objs.size), g, dr, tk, os⟩ :=
    I.laid (t' := tk) (a := hp.objs.size + 1) (o := exo (hp.objs.size + 1) C none) (h' := (hp.push (PySem.W.kdv_tup [])).push (PySem.HandSPX.excO C hp.objs.size)) kk hsz (exo_ok hget)
  have r2 : Vals [V.ref (hp.objs.size + 1)] [Value.ref (hp.objs.size + 1)] := .cons rfl .nil
  have hl : ([Value.ref (hp.objs.size + 1)] ++ []).length = ps.length := by
    rw [← F1.len _ _ _ _ hq]
    rfl
  have hus : ([] : List Value).length ≤ sizeLine := Nat.zero_le _
  refine wpAny_call (PySem.HandSPX.call_own F.excBase_ValueError (fun Y => PySem.HandSPX.refsVE_contains Y bm hbm) (I.kIn _ _ hC) (PySem.W.looks_findIn I.kIn iC) (fun self => PySem.W.bind_fn I.kIn self tI) hus
    (codeAny_mono (F1.run _ X.stack _ _ ⟨[Value.ref (hp.objs.size + 1)], []⟩ [Value.ref (hp.objs.size + 1)] _ _ (fun _ _ _ => False) (hr.make C [] []) (I2.env0.make C [] []) (hb _ [Value.ref (hp.objs.size + 1)] I2.kIn hl) r2 hq) fun r s' hq' => ?_))
  cases r with
  | error er => exact hx pins σ _ _ er s' I2 hq'
  | ok fl =>
    cases fl with
    | ret u =>
      obtain ⟨v, H2, os2, bare2, un2, hok2, rv, ev, ea, q2⟩ := hq'
      subst ev
      obtain ⟨h2, g2, d2, t2, os'⟩ := s'
      exact ⟨rv, mk_endN (raises_own T.exC T.tyC) I hsz kk un2 hok2 os2 bare2 ea q2⟩
    | next => exact False.elim hq'
    | brk => exact False.elim hq'
    | cont => exact False.elim hq'
end
end Kb
set_option Elab.async false
set_option linter.all false
set_option maxRecDepth 100000
set_option maxHeartbeats 4000000
namespace Kb
open PySem PySem.Spec PyProof.Rows L2
/-! ### what an __init__ leaves -/
def spI0 (C : Addr) : Sp := fun vs H Q _ => ∃ a, vs = [.ref a] ∧ H a = some (exo a C none) ∧ Q .non H
def spI1 (C : Addr) (f1 : Str) : Sp := fun vs H Q _ => ∃ a v1, vs = [.ref a, v1] ∧ H a = some (exo a C none) ∧ ∀ d, H d = none → d ≠ a → Q .non (upd (upd H d (exd d [(f1, v1)])) a (exo a C (some d)))
def spI2 (C : Addr) (f1 f2 : Str) : Sp := fun vs H Q _ => ∃ a v1 v2, vs = [.ref a, v1, v2] ∧ H a = some (exo a C none) ∧ ∀ d, H d = none → d ≠ a →
  Q .non (upd (upd (upd H d (exd d [(f1, v1)])) a (exo a C (some d))) d (exd d [(f2, v2), (f1, v1)]))
def spI3 (C : Addr) (f1 f2 f3 : Str) : Sp := fun vs H Q _ => ∃ a v1 v2 v3, vs = [.ref a, v1, v2, v3] ∧ H a = some (exo a C none) ∧ ∀ d, H d = none → d ≠ a →
  Q .non (upd (upd (upd (upd H d (exd d [(f1, v1)])) a (exo a C (some d))) d (exd d [(f2, v2), (f1, v1)])) d (exd d [(f3, v3), (f2, v2), (f1, v1)]))
/-- a class of the text's errors: what is known of it -/
structure XC (P : Program) (w : World) (K : PySem.W.Frag) (mg : Str → Option Value) (base : Heap) (x : Str) (C : Addr) (ps : List Str) (sp : Sp) : Prop where
  T : OexC K C
  g : mg x = some (.ref C)
  ini : ∃ (fI : Addr) (fd : FuncData), PySem.W.findIn K (.ref C) "__init__" = some (some (.ref fI)) ∧ PySem.W.typeIn K (.ref fI) = some (.type "function") ∧ FnOk P w K mg base CX0 1 fI fd ps sp ∧ L2.Binds K fd ps []
section
variable {P : Program} {w : World} {K : PySem.W.Frag} {mg : Str → Option Value} {base : Heap} {f C HE : Addr} {fd : FuncData}
theorem ok_BadText (F : Fun K "__init__" "BadText.__init__" s_BadText_init f fd) (HE1 : HeC K mg HE) (T : OexC K C) (n1 : PySem.W.findIn K (.ref C) "line" = some none) (n2 : PySem.W.findIn K (.ref C) "word" = some none) : FnOk P w K mg base CX0 1 f fd ["self", "line", "word"] (spI2 C "line" "word") := by
  refine F.ok sc_BadText_init (fun vs H Q E h => ?_) (fun cdv A outer s H vs Q E hr h => ⟨_, pss_cons (ps_expr (pe_heinit HE1 rfl (pa_cons (pv 0) (pa_cons pe_str pa_nil)))) (pss_cons (ps_ost (pv 0) (pv 1)) (pss_one (ps_ost (pv 0) (pv 2)))), ?_⟩)
  · obtain ⟨a, v1, v2, rfl, _⟩ := h
    rfl
  obtain ⟨a, v1, v2, rfl, ha, hQ⟩ := h
  refine ⟨_, rfl, a, C, [.str _], rfl, (show 1 ≤ 1000 by decide), T, ha, ?_⟩
  refine ⟨_, rfl, _, rfl, a, C, rfl, T, n1, .inl ⟨ha, fun d hd ne => ?_⟩⟩
  refine ⟨_, rfl, _, rfl, a, C, rfl, T, n2, .inr ⟨d, [("line", v1)], upd_same, by rw [upd_ne ne]; exact upd_same, (show 1 ≤ 900 by decide), hQ d hd ne⟩⟩
theorem ok_BadName (F : Fun K "__init__" "BadName.__init__" s_BadName_init f fd) (HE1 : HeC K mg HE) (T : OexC K C) (n1 : PySem.W.findIn K (.ref C) "name" = some none) : FnOk P w K mg base CX0 1 f fd ["self", "name"] (spI1 C "name") := by
  refine F.ok sc_BadName_init (fun vs H Q E h => ?_) (fun cdv A outer s H vs Q E hr h => ⟨_, pss_cons (ps_expr (pe_heinit HE1 rfl (pa_cons (pv 0) (pa_cons pe_str pa_nil)))) (pss_one (ps_ost (pv 0) (pv 1))), ?_⟩)
  · obtain ⟨a, v1, rfl, _⟩ := h
    rfl
  obtain ⟨a, v1, rfl, ha, hQ⟩ := h
  refine ⟨_, rfl, a, C, [.str _], rfl, (show 1 ≤ 1000 by decide), T, ha, ?_⟩
  refine ⟨_, rfl, _, rfl, a, C, rfl, T, n1, .inl ⟨ha, fun d hd ne => hQ d hd ne⟩⟩
theorem ok_BadNumber (F : Fun K "__init__" "BadNumber.__init__" s_BadNumber_init f fd) (HE1 : HeC K mg HE) (T : OexC K C) (n1 : PySem.W.findIn K (.ref C) "what" = some none) (n2 : PySem.W.findIn K (.ref C) "number" = some none) : FnOk P w K mg base CX0 1 f fd ["self", "what", "number"] (spI2 C "what" "number") := by
  refine F.ok sc_BadNumber_init (fun vs H Q E h => ?_) (fun cdv A outer s H vs Q E hr h => ⟨_, pss_cons (ps_expr (pe_heinit HE1 rfl (pa_cons (pv 0) (pa_cons pe_str pa_nil)))) (pss_cons (ps_ost (pv 0) (pv 1)) (pss_one (ps_ost (pv 0) (pv 2)))), ?_⟩)
  · obtain ⟨a, v1, v2, rfl, _⟩ := h
    rfl
  obtain ⟨a, v1, v2, rfl, ha, hQ⟩ := h
  refine ⟨_, rfl, a, C, [.str _], rfl, (show 1 ≤ 1000 by decide), T, ha, ?_⟩
  refine ⟨_, rfl, _, rfl, a, C, rfl, T, n1, .inl ⟨ha, fun d hd ne => ?_⟩⟩
  refine ⟨_, rfl, _, rfl, a, C, rfl, T, n2, .inr ⟨d, [("what", v1)], upd_same, by rw [upd_ne ne]; exact upd_same, (show 1 ≤ 900 by decide), hQ d hd ne⟩⟩
theorem ok_BadRow (F : Fun K "__init__" "BadRow.__init__" s_BadRow_init f fd) (HE1 : HeC K mg HE) (T : OexC K C) (n1 : PySem.W.findIn K (.ref C) "what" = some none) (n2 : PySem.W.findIn K (.ref C) "row" = some none) : FnOk P w K mg base CX0 1 f fd ["self", "what", "row"] (spI2 C "what" "row") := by
  refine F.ok sc_BadRow_init (fun vs H Q E h => ?_) (fun cdv A outer s H vs Q E hr h => ⟨_, pss_cons (ps_expr (pe_heinit HE1 rfl (pa_cons (pv 0) (pa_cons pe_str pa_nil)))) (pss_cons (ps_ost (pv 0) (pv 1)) (pss_one (ps_ost (pv 0) (pv 2)))), ?_⟩)
  · obtain ⟨a, v1, v2, rfl, _⟩ := h
    rfl
  obtain ⟨a, v1, v2, rfl, ha, hQ⟩ := h
  refine ⟨_, rfl, a, C, [.str _], rfl, (show 1 ≤ 1000 by decide), T, ha, ?_⟩
  refine ⟨_, rfl, _, rfl, a, C, rfl, T, n1, .inl ⟨ha, fun d hd ne => ?_⟩⟩
  refine ⟨_, rfl, _, rfl, a, C, rfl, T, n2, .inr ⟨d, [("what", v1)], upd_same, by rw [upd_ne ne]; exact upd_same, (show 1 ≤ 900 by decide), hQ d hd ne⟩⟩
theorem ok_NoName (F : Fun K "__init__" "NoName.__init__" s_NoName_init f fd) (HE1 : HeC K mg HE) (T : OexC K C) (n1 : PySem.W.findIn K (.ref C) "name" = some none) : FnOk P w K mg base CX0 1 f fd ["self", "name"] (spI1 C "name") := by
  refine F.ok sc_NoName_init (fun vs H Q E h => ?_) (fun cdv A outer s H vs Q E hr h => ⟨_, pss_cons (ps_expr (pe_heinit HE1 rfl (pa_cons (pv 0) (pa_cons pe_str pa_nil)))) (pss_one (ps_ost (pv 0) (pv 1))), ?_⟩)
  · obtain ⟨a, v1, rfl, _⟩ := h
    rfl
  obtain ⟨a, v1, rfl, ha, hQ⟩ := h
  refine ⟨_, rfl, a, C, [.str _], rfl, (show 1 ≤ 1000 by decide), T, ha, ?_⟩
  refine ⟨_, rfl, _, rfl, a, C, rfl, T, n1, .inl ⟨ha, fun d hd ne => hQ d hd ne⟩⟩
theorem ok_TakenName (F : Fun K "__init__" "TakenName.__init__" s_TakenName_init f fd) (HE1 : HeC K mg HE) (T : OexC K C) (n1 : PySem.W.findIn K (.ref C) "name" = some none) : FnOk P w K mg base CX0 1 f fd ["self", "name"] (spI1 C "name") := by
  refine F.ok sc_TakenName_init (fun vs H Q E h => ?_) (fun cdv A outer s H vs Q E hr h => ⟨_, pss_cons (ps_expr (pe_heinit HE1 rfl (pa_cons (pv 0) (pa_cons pe_str pa_nil)))) (pss_one (ps_ost (pv 0) (pv 1))), ?_⟩)
  · obtain ⟨a, v1, rfl, _⟩ := h
    rfl
  obtain ⟨a, v1, rfl, ha, hQ⟩ := h
  refine ⟨_, rfl, a, C, [.str _], rfl, (show 1 ≤ 1000 by decide), T, ha, ?_⟩
  refine ⟨_, rfl, _, rfl, a, C, rfl, T, n1, .inl ⟨ha, fun d hd ne => hQ d hd ne⟩⟩
theorem ok_Unlike (F : Fun K "__init__" "Unlike.__init__" s_Unlike_init f fd) (HE1 : HeC K mg HE) (T : OexC K C) (n1 : PySem.W.findIn K (.ref C) "what" = some none) : FnOk P w K mg base CX0 1 f fd ["self", "what"] (spI1 C "what") := by
  refine F.ok sc_Unlike_init (fun vs H Q E h => ?_) (fun cdv A outer s H vs Q E hr h => ⟨_, pss_cons (ps_expr (pe_heinit HE1 rfl (pa_cons (pv 0) (pa_cons pe_str pa_nil)))) (pss_one (ps_ost (pv 0) (pv 1))), ?_⟩)
  · obtain ⟨a, v1, rfl, _⟩ := h
    rfl
  obtain ⟨a, v1, rfl, ha, hQ⟩ := h
  refine ⟨_, rfl, a, C, [.str _], rfl, (show 1 ≤ 1000 by decide), T, ha, ?_⟩
  refine ⟨_, rfl, _, rfl, a, C, rfl, T, n1, .inl ⟨ha, fun d hd ne => hQ d hd ne⟩⟩
theorem ok_TooMany (F : Fun K "__init__" "TooMany.__init__" s_TooMany_init f fd) (HE1 : HeC K mg HE) (T : OexC K C) (n1 : PySem.W.findIn K (.ref C) "what" = some none) (n2 : PySem.W.findIn K (.ref C) "many" = some none) (n3 : PySem.W.findIn K (.ref C) "limit" = some none) : FnOk P w K mg base CX0 1 f fd ["self", "what", "many", "limit"] (spI3 C "what" "many" "limit") := by
  refine F.ok sc_TooMany_init (fun vs H Q E h => ?_) (fun cdv A outer s H vs Q E hr h => ⟨_, pss_cons (ps_expr (pe_heinit HE1 rfl (pa_cons (pv 0) (pa_cons pe_str pa_nil)))) (pss_cons (ps_ost (pv 0) (pv 1)) (pss_cons (ps_ost (pv 0) (pv 2)) (pss_one (ps_ost (pv 0) (pv 3))))), ?_⟩)
  · obtain ⟨a, v1, v2, v3, rfl, _⟩ := h
    rfl
  obtain ⟨a, v1, v2, v3, rfl, ha, hQ⟩ := h
  refine ⟨_, rfl, a, C, [.str _], rfl, (show 1 ≤ 1000 by decide), T, ha, ?_⟩
  refine ⟨_, rfl, _, rfl, a, C, rfl, T, n1, .inl ⟨ha, fun d hd ne => ?_⟩⟩
  refine ⟨_, rfl, _, rfl, a, C, rfl, T, n2, .inr ⟨d, [("what", v1)], upd_same, by rw [upd_ne ne]; exact upd_same, (show 1 ≤ 900 by decide), ?_⟩⟩
  refine ⟨_, rfl, _, rfl, a, C, rfl, T, n3, .inr ⟨d, [("many", v2), ("what", v1)], by rw [upd_ne (Ne.symm ne)]; exact upd_same, upd_same, (show 2 ≤ 900 by decide), hQ d hd ne⟩⟩
end
end Kb
set_option Elab.async false
set_option linter.all false
set_option maxRecDepth 100000
set_option maxHeartbeats 4000000
namespace Kb
open PySem PySem.Spec PyProof.Rows L2 Evl
/-- what is wished of an error: its class, its dict, the heap -/
def Rs (E : XK) (H : Hp) (C : Addr) (fs : List (Str × V)) : Prop := ∀ d H', H d = none → Ex H H' → H' d = some (.xd fs) → E (.ref C) (some d) H'
/-- an expression that raises -/
def Rx (te : TE) (σ : L2.St) (H : Hp) : Prop := ∀ H1, Ex H H1 → ∀ Q : VK, te σ H1 Q
/-- a value with a property -/
def EvD (te : TE) (σ : L2.St) (H : Hp) (Φ : V → Hp → Prop) : Prop := ∀ H1, Ex H H1 → ∀ Q : VK, (∀ v H2, Ex H1 H2 → Φ v H2 → Q v H2) → te σ H1 Q
section
variable {K : PySem.W.Frag} {σ : L2.St} {H H1 : Hp} {te ta tb tl : TE} {v v1 v2 v3 : V} {E : XK} {C : Addr} {fs : List (Str × V)} {f1 f2 f3 : Str} {tr : TA} {D : Ends}
theorem Rs.ext (h : Rs E H C fs) (e : Ex H H1) : Rs E H1 C fs := fun d H' hd e2 hx => h d H' (fresh_back e hd) (e.trans e2) hx
theorem ex_of {H H' : Hp} {a d : Addr} (ha : H a = none) (hd : H d = none) (h : ∀ b, b ≠ a → b ≠ d → H' b = H b) : Ex H H' := fun b o e => by
  rw [h b (ne_of_none e ha) (ne_of_none e hd)]
  exact e
theorem upd_none {H : Hp} {a d : Addr} {o : HO} (h : upd H a o d = none) : d ≠ a ∧ H d = none := by
  by_cases e : d = a
  · rw [e, upd_same] at h
    cases h
  · rw [upd_ne e] at h
    exact ⟨e, h⟩
theorem rs_1 (h : EvA tr σ H [v1]) (hR : Rs E H C [(f1, v1)]) : tMkO C (spI1 C f1) [] tr σ H (fun cls d H' => E cls d H') := by
  refine h H (Ex.refl H) _ fun H1 e1 => ⟨(show 1 ≤ 1000 by decide), fun a ha => ⟨a, v1, rfl, upd_same, fun d hd ne => ?_⟩⟩
  have hdH := (upd_none hd).2
  refine ⟨rfl, d, [(f1, v1)], upd_same, by rw [upd_ne ne]; exact upd_same, hdH, ?_⟩
  refine hR.ext e1 d _ hdH (ex_of ha hdH fun b hb hb2 => ?_) upd_same
  simp only [upd_ne hb2, del_ne hb, upd_ne hb]
theorem rs_2 (h : EvA tr σ H [v1, v2]) (hR : Rs E H C [(f2, v2), (f1, v1)]) : tMkO C (spI2 C f1 f2) [] tr σ H (fun cls d H' => E cls d H') := by
  refine h H (Ex.refl H) _ fun H1 e1 => ⟨(show 2 ≤ 1000 by decide), fun a ha => ⟨a, v1, v2, rfl, upd_same, fun d hd ne => ?_⟩⟩
  have hdH := (upd_none hd).2
  refine ⟨rfl, d, [(f2, v2), (f1, v1)], by rw [upd_ne (Ne.symm ne)]; exact upd_same, upd_same, hdH, ?_⟩
  refine hR.ext e1 d _ hdH (ex_of ha hdH fun b hb hb2 => ?_) upd_same
  simp only [upd_ne hb2, del_ne hb, upd_ne hb]
theorem rs_3 (h : EvA tr σ H [v1, v2, v3]) (hR : Rs E H C [(f3, v3), (f2, v2), (f1, v1)]) : tMkO C (spI3 C f1 f2 f3) [] tr σ H (fun cls d H' => E cls d H') := by
  refine h H (Ex.refl H) _ fun H1 e1 => ⟨(show 3 ≤ 1000 by decide), fun a ha => ⟨a, v1, v2, v3, rfl, upd_same, fun d hd ne => ?_⟩⟩
  have hdH := (upd_none hd).2
  refine ⟨rfl, d, [(f3, v3), (f2, v2), (f1, v1)], by rw [upd_ne (Ne.symm ne), upd_ne (Ne.symm ne)]; exact upd_same, upd_same, hdH, ?_⟩
  refine hR.ext e1 d _ hdH (ex_of ha hdH fun b hb hb2 => ?_) upd_same
  simp only [upd_ne hb2, del_ne hb, upd_ne hb]
theorem rx_call {sp : Sp} {dvs vs : List V} (h : EvA tr σ H vs) (hs : ∀ H1, Ex H H1 → ∀ Q : VK, sp (vs ++ dvs) H1 Q E) : Rx (tCall sp dvs E tr) σ H := fun H1 e Q => h H1 e _ fun H2 e2 => hs H2 (e.trans e2) _
/-- arguments of which one raises -/
def RxA (ta : TA) (σ : L2.St) (H : Hp) : Prop := ∀ H1, Ex H H1 → ∀ Q : List V → Hp → Prop, ta σ H1 Q
theorem rxa_hd (h : Rx te σ H) : RxA (tCons te tr) σ H := fun H1 e Q => h H1 e _
theorem rxa_tl (h : Ev te σ H v) (h2 : RxA tr σ H) : RxA (tCons te tr) σ H := fun H1 e Q => h H1 e _ fun H2 e2 => h2 H2 (e.trans e2) _
theorem rx_callA {sp : Sp} {dvs : List V} (h : RxA tr σ H) : Rx (tCall sp dvs E tr) σ H := fun H1 e Q => h H1 e _
theorem rx_cb {r : List V → Hp → VK → Prop} (h : RxA tr σ H) : Rx (tCB r tr) σ H := fun H1 e Q => h H1 e _
theorem rx_opL {r : R2} (h : Rx ta σ H) : Rx (tOp r ta tb) σ H := fun H1 e Q => h H1 e _
theorem r_drop (h : Rx te σ H) : tDrop te D σ H := h H (Ex.refl H) _
theorem r_ret (h : Rx te σ H) : tRet te D σ H := h H (Ex.refl H) _
theorem r_asg {g : TG} (h : Rx te σ H) : tAsg te g D σ H := h H (Ex.refl H) _
theorem r_seq {t u : TS} (h : ∀ D, t D σ H) : tSeq t u D σ H := h _
theorem ev_EvD {Φ : V → Hp → Prop} (h : Ev te σ H v) (hΦ : ∀ H1, Ex H H1 → Φ v H1) : EvD te σ H Φ := fun H1 e Q q => h H1 e Q fun H2 e2 => q v H2 e2 (hΦ H2 (e.trans e2))
theorem EvD.imp {Φ Ψ : V → Hp → Prop} (h : EvD te σ H Φ) (hi : ∀ v H1, Ex H H1 → Φ v H1 → Ψ v H1) : EvD te σ H Ψ := fun H1 e Q q => h H1 e Q fun v H2 e2 p => q v H2 e2 (hi v H2 (e.trans e2) p)
theorem evd_call {sp : Sp} {dvs vs : List V} {Φ : V → Hp → Prop} (h : EvA tr σ H vs) (hs : ∀ H1, Ex H H1 → ∀ Q : VK, (∀ v H2, Ex H1 H2 → Φ v H2 → Q v H2) → ∀ E : XK, sp (vs ++ dvs) H1 Q E) : EvD (tCall sp dvs E tr) σ H Φ := fun H1 e Q q =>
  h H1 e _ fun H2 e2 => hs H2 (e.trans e2) Q (fun v H3 e3 p => q v H3 (e2.trans e3) p) E
theorem sd_asg {i : Nat} {Φ : V → Hp → Prop} (h : EvD te σ H Φ) (k : ∀ v H1, Ex H H1 → Φ v H1 → D.nx (σ.set i (some v)) H1) : tAsg te (gName i) D σ H := h H (Ex.refl H) _ fun v H1 e p => k v H1 e p
theorem qd_asg {i : Nat} {tz : TS} {Φ : V → Hp → Prop} (h : EvD te σ H Φ) (k : ∀ v H1, Ex H H1 → Φ v H1 → tz D (σ.set i (some v)) H1) : tSeq (tAsg te (gName i)) tz D σ H := sd_asg (D := { D with nx := tz D }) h k
theorem sd_ret {Φ : V → Hp → Prop} (h : EvD te σ H Φ) (k : ∀ v H1, Ex H H1 → Φ v H1 → D.rt v H1) : tRet te D σ H := h H (Ex.refl H) _ k
/-- arguments, one with a property -/
def EvDA (ta : TA) (σ : L2.St) (H : Hp) (Φ : List V → Hp → Prop) : Prop := ∀ H1, Ex H H1 → ∀ Q : List V → Hp → Prop, (∀ vs H2, Ex H1 H2 → Φ vs H2 → Q vs H2) → ta σ H1 Q
theorem eda_nil : EvDA tNil σ H (fun vs _ => vs = []) := fun H1 _ Q q => q [] H1 (Ex.refl H1) rfl
theorem eda_cons {Φ : V → Hp → Prop} {Ψ : List V → Hp → Prop} (h : EvD te σ H Φ) (hm : ∀ v H1 H2, Ex H1 H2 → Φ v H1 → Φ v H2) (h2 : EvDA tr σ H Ψ) : EvDA (tCons te tr) σ H (fun vs H1 => ∃ v r, vs = v :: r ∧ Φ v H1 ∧ Ψ r H1) := fun H1 e Q q =>
  h H1 e _ fun v H2 e2 p => h2 H2 (e.trans e2) _ fun r H3 e3 p3 => q (v :: r) H3 (e2.trans e3) ⟨v, r, rfl, hm v H2 H3 e3 p, p3⟩
theorem evd_callA {sp : Sp} {Φ : V → Hp → Prop} {Ψ : List V → Hp → Prop} (h : EvDA tr σ H Ψ) (hs : ∀ vs H1, Ex H H1 → Ψ vs H1 → ∀ Q : VK, (∀ v H2, Ex H1 H2 → Φ v H2 → Q v H2) → ∀ E : XK, sp vs H1 Q E) : EvD (tCall sp [] E tr) σ H Φ := fun H1 e Q q =>
  h H1 e _ fun vs H2 e2 p => by
    rw [List.append_nil]
    exact hs vs H2 (e.trans e2) p Q (fun v H3 e3 p3 => q v H3 (e2.trans e3) p3) E
end
theorem passE0 {X : Cx} {P : Program} {w : World} : Passes (L2.CX P w) X E0 := fun _ _ _ _ _ _ _ h => by
  obtain ⟨_, _, _, _, _, _, _, _, _, _, _, _, h⟩ := h
  exact h.elim
end Kb
set_option Elab.async false
set_option linter.all false
set_option maxRecDepth 100000
set_option maxHeartbeats 4000000
namespace Kb
open PySem PySem.Spec PyProof.Rows L2 Evl
/-! ### classes: what is known of them -/
def tysL : List String := ["NoneType", "bool", "int", "str", "list", "tuple", "dict"]
structure Kl (K : PySem.W.Frag) (mg : Str → Option Value) (x : Str) (C : Addr) (fs : List Str) : Prop where
  g : mg x = some (.ref C)
  cls : Cls K C
  no : ∀ f ∈ fs, NoAttr K C f
  ca : PySem.W.findIn K (.ref C) "__class__" = some (some (.builtin "object.__class__"))
  hn : PySem.W.specialIn K (.builtin "object.__class__") "__get__" = some (some (.builtin "getset_descriptor.__get__"))
  ht : PySem.W.takesIn K (.builtin "object.__class__") = some true
  hm : PySem.W.mroIn K C (.type "object") = some true
  ty : ∀ T ∈ tysL, PySem.W.kitOne K (.type T) (.ref C) = some false
  un : ∀ T ∈ tysL, PySem.W.kitOne K (.ref C) (.type T) = some false
  nf : ∀ T ∈ tysL, PySem.W.notFirst K C (.type T) = true
section
variable {K : PySem.W.Frag} {mg : Str → Option Value} {x : Str} {C a dx : Addr} {fs : List Str} {H : Hp} {ps : List (Str × V)} {v : V} {d : PyData} {σ : L2.St} {te ta tb : TE}
theorem kit_self {C : Addr} : PySem.W.kitOne K (.ref C) (.ref C) = some true := by
  unfold PySem.W.kitOne
  rw [if_pos (beq_self_eq_true _)]
theorem Kl.tyx (T : Kl K mg x C fs) (h : H a = some (.ins C dx ps)) : TyX K H (.ref a) (.ref C) := .base (.ins h T.cls T.ca T.hn T.ht T.hm)
theorem tyOf_mem (d : PyData) : tyOf d ∈ tysL := by cases d <;> simp [tyOf, tysL]
/-- isinstance of a datum and an own class -/
theorem ev_isiN (T : Kl K mg x C fs) (hv : Ev te σ H v) (h : Dp K H v d) : Ev (tCB (rIsi K) (tCons te (tCons (tC (.ref C)) tNil))) σ H (.bl false) := fun H1 e1 Q q =>
  hv H1 e1 _ fun H2 e2 => ⟨v, .ref C, .type (tyOf d), .ref C, false, rfl, .own C, dp_ty (Dp.ext (e1.trans e2) h), T.ty _ (tyOf_mem d), q H2 e2⟩
theorem ev_isiS (T : Kl K mg x C fs) (hv : Ev te σ H (.ref a)) (h : H a = some (.ins C dx ps)) : Ev (tCB (rIsi K) (tCons te (tCons (tC (.ref C)) tNil))) σ H (.bl true) := fun H1 e1 Q q =>
  hv H1 e1 _ fun H2 e2 => ⟨.ref a, .ref C, .ref C, .ref C, true, rfl, .own C, T.tyx ((e1.trans e2) _ _ h), kit_self, q H2 e2⟩
theorem ev_isiU (T : Kl K mg x C fs) {t : String} (ht : t ∈ tysL) (hv : Ev te σ H (.ref a)) (h : H a = some (.ins C dx ps)) : Ev (tCB (rIsi K) (tCons te (tCons (tC (.ty t)) tNil))) σ H (.bl false) := fun H1 e1 Q q =>
  hv H1 e1 _ fun H2 e2 => ⟨.ref a, .ty t, .ref C, .type t, false, rfl, .ty t, T.tyx ((e1.trans e2) _ _ h), T.un _ ht, q H2 e2⟩
theorem ev_fld (T : Kl K mg x C fs) {f : Str} (hf : f ∈ fs) (hv : Ev te σ H (.ref a)) (h : H a = some (.ins C dx ps)) (hl : ps.lookup f = some v) : Ev (tFld K te f) σ H v := fun H1 e1 Q q =>
  hv H1 e1 _ fun H2 e2 => ⟨a, C, dx, ps, v, rfl, (e1.trans e2) _ _ h, T.cls, T.no f hf, hl, q H2 e2⟩
/-! ### all stays but one object -/
def Kp (a : Addr) (H H' : Hp) : Prop := ∀ b o, H b = some o → b ≠ a → H' b = some o
theorem Kp.of {H H' : Hp} (e : Ex H H') : Kp a H H' := fun b o h _ => e b o h
theorem Kp.trans {H H1 H2 : Hp} (h : Kp a H H1) (h2 : Kp a H1 H2) : Kp a H H2 := fun b o e ne => h2 b o (h b o e ne) ne
theorem Kp.upd {H : Hp} {o : HO} : Kp a H (upd H a o) := fun b u e ne => by
  rw [upd_ne ne]
  exact e
/-- an object that no datum is -/
def noDat : HO → Bool
  | .lst _ => false
  | .tup _ => false
  | .frz _ _ => false
  | _ => true
theorem kp_l {H H' : Hp} {p : Addr} {xs : List V} {o : HO} (k : Kp a H H') (ha : H a = some o) (ho : noDat o = true) (h : SqL K H p xs) : SqL K H' p xs := by
  rcases h with (h | ⟨o2, h⟩) | h
  · exact .inl (.inl (k _ _ h fun z => by rw [z, ha] at h; cases h; cases ho))
  · exact .inl (.inr ⟨o2, k _ _ h fun z => by rw [z, ha] at h; cases h; cases ho⟩)
  · exact .inr h
theorem kp_t {H H' : Hp} {p : Addr} {xs : List V} {o : HO} (k : Kp a H H') (ha : H a = some o) (ho : noDat o = true) (h : SqT K H p xs) : SqT K H' p xs := by
  rcases h with (h | ⟨o2, h⟩) | h
  · exact .inl (.inl (k _ _ h fun z => by rw [z, ha] at h; cases h; cases ho))
  · exact .inl (.inr ⟨o2, k _ _ h fun z => by rw [z, ha] at h; cases h; cases ho⟩)
  · exact .inr h
mutual
theorem dp_kp {H H' : Hp} {o : HO} (k : Kp a H H') (ha : H a = some o) (ho : noDat o = true) : ∀ {v : V} {d : PyData}, Dp K H v d → Dp K H' v d
  | _, _, .non => .non
  | _, _, .bl b => .bl b
  | _, _, .int i => .int i
  | _, _, .str x => .str x
  | _, _, .lst h b => .lst (kp_l k ha ho h) (dpAll_kp k ha ho b)
  | _, _, .tup h b => .tup (kp_t k ha ho h) (dpAll_kp k ha ho b)
theorem dpAll_kp {H H' : Hp} {o : HO} (k : Kp a H H') (ha : H a = some o) (ho : noDat o = true) : ∀ {vs : List V} {ds : List PyData}, DpAll K H vs ds → DpAll K H' vs ds
  | _, _, .nil => .nil
  | _, _, .cons b c => .cons (dp_kp k ha ho b) (dpAll_kp k ha ho c)
end
/-! ### tuples of which is known that they have no dict -/
def Pd (K : PySem.W.Frag) (H : Hp) (v : V) (d : PyData) : Prop := ∃ p xs ds, v = .ref p ∧ d = .tuple ds ∧ SqP H p xs ∧ DpAll K H xs ds
theorem Pd.ext {H H' : Hp} (h : Pd K H v d) (e : Ex H H') : Pd K H' v d := by
  obtain ⟨p, xs, ds, rfl, rfl, h, a⟩ := h
  exact ⟨p, xs, ds, rfl, rfl, h.ext e, DpAll.ext e a⟩
theorem Pd.dp {H : Hp} (h : Pd K H v d) : Dp K H v d := by
  obtain ⟨p, xs, ds, rfl, rfl, h, a⟩ := h
  exact .tup h.t a
theorem Pd.kp {H H' : Hp} {o : HO} (k : Kp a H H') (ha : H a = some o) (ho : noDat o = true) (h : Pd K H v d) : Pd K H' v d := by
  obtain ⟨p, xs, ds, rfl, rfl, ⟨o2, h2, h3⟩, b⟩ := h
  exact ⟨p, xs, ds, rfl, rfl, ⟨o2, h2, k _ _ h3 fun z => by rw [z, ha] at h3; cases h3; cases ho⟩, dpAll_kp k ha ho b⟩
theorem evd_tupP {p : Addr} {xs : List V} {ds : List PyData} (ha : Ev ta σ H (.ref p)) (h : SqL K H p xs) (hd : DpAll K H xs ds) : EvD (tCB (rTupP K) (tCons ta tNil)) σ H (fun w H1 => Pd K H1 w (.tuple ds)) := fun H1 e Q q =>
  ha H1 e _ fun H2 e2 => ⟨p, xs, rfl, .inl ⟨ex_l (e.trans e2) h, fun l o hl ho => by
    have hx : upd H2 l (.frz o (.tup xs)) l = some (.frz o (.tup xs)) := upd_same
    exact q _ _ (e2.trans (Ex.new hl)) ⟨l, xs, ds, rfl, rfl, ⟨o, ho, hx⟩, DpAll.ext ((e.trans e2).trans (Ex.new hl)) hd⟩⟩⟩
theorem evd_tupPL {xs : List V} {Φ : V → Hp → Prop} (ha : EvL ta σ H xs) (hΦ : ∀ w H1, Ex H H1 → (∃ p, w = .ref p ∧ SqP H1 p xs) → Φ w H1) : EvD (tCB (rTupP K) (tCons ta tNil)) σ H Φ := fun H1 e Q q =>
  ha H1 e _ fun p H2 _ e2 h2 => ⟨p, xs, rfl, .inl ⟨sq_of h2, fun l o hl ho => by
    have hx : upd H2 l (.frz o (.tup xs)) l = some (.frz o (.tup xs)) := upd_same
    exact q _ _ (e2.trans (Ex.new hl)) (hΦ _ _ ((e.trans e2).trans (Ex.new hl)) ⟨l, rfl, o, ho, hx⟩)⟩⟩
theorem evd_if {t : TT} {b : Bool} {Φ : V → Hp → Prop} (h : EvT t σ H b) (h1 : b = true → EvD ta σ H Φ) (h2 : b = false → EvD tb σ H Φ) : EvD (tIf t ta tb) σ H Φ := fun H1 e Q q => h H1 e _ fun H2 e2 => by
  cases b with
  | true => exact h1 rfl H2 (e.trans e2) Q fun v H3 e3 p => q v H3 (e2.trans e3) p
  | false => exact h2 rfl H2 (e.trans e2) Q fun v H3 e3 p => q v H3 (e2.trans e3) p
def asTup : PyData → PyData
  | .list ds => .tuple ds
  | d => d
theorem s_fld {a C dx : Addr} {fs : List (Str × V)} {f : Str} {x : Str} {gs : List Str} {D : Ends} (T : Kl K mg x C gs) (hf : f ∈ gs) (ho : Ev ta σ H (.ref a)) (hv : Ev tb σ H v) (h : H a = some (.ins C dx fs)) (hz : fs.length < 1000)
    (k : ∀ H1, Ex H H1 → D.nx σ (upd H1 a (.ins C dx (putF f v fs)))) : sFld K ta tb f D σ H := hv H (Ex.refl H) _ fun H1 e1 => ho H1 e1 _ fun H2 e2 => ⟨a, C, dx, fs, rfl, (e1.trans e2) _ _ h, T.cls, T.no f hf, hz, k H2 (e1.trans e2)⟩
theorem q_fld {a C dx : Addr} {fs : List (Str × V)} {f : Str} {x : Str} {gs : List Str} {D : Ends} {tz : TS} (T : Kl K mg x C gs) (hf : f ∈ gs) (ho : Ev ta σ H (.ref a)) (hv : Ev tb σ H v) (h : H a = some (.ins C dx fs)) (hz : fs.length < 1000)
    (k : ∀ H1, Ex H H1 → tz D σ (upd H1 a (.ins C dx (putF f v fs)))) : tSeq (sFld K ta tb f) tz D σ H := s_fld (D := { D with nx := tz D }) T hf ho hv h hz k
end
/-! ### raise C(..), C(..) by names; own comparisons -/
structure Mkr (P : Program) (w : World) (K : PySem.W.Frag) (mg : Str → Option Value) (base : Heap) (CX : CXT) (k : Nat) (x : Str) (C : Addr) (ps : List Str) (sp : Sp) : Prop where
  g : mg x = some (.ref C)
  made : ∃ (f : Addr) (fd : FuncData), L2.Mk K C f ∧ FnOk P w K mg base CX k f fd ps sp ∧ L2.Binds K fd ps []
section
variable {X : Cx} {x : Str} {C : Addr} {ps : List Str} {sp : Sp} {j k : Nat} {e : Expr} {es : List Expr} {t : TA} {p pos : Pos} {CX : CXT} {E : XK}
theorem pmk_xc (T : XC X.prog X.w X.K X.mg X.base x C ps sp) (hr : Room j X.A) (hg : Gl X x) (ha : PA X (e :: es) t) (hj : 2 ≤ j := by decide) (hdb : (x == ("__debug__" : Str)) = false := by decide)
    (he : starEach (e :: es) X.env = (false, eval e X.env) :: starEach es X.env := by rfl) (hpl : (backTo pos (starEach es X.env)).any (·.1) = false := by rfl) : PMk X (.Call (.Name x p) (e :: es) [] pos) (tMkO C sp [] t) := by
  obtain ⟨fI, fd, iC, tI, F, b⟩ := T.ini
  exact pmk_oex T.T iC tI F (hr.mono hj) b .nil pass0 hg T.g ha hdb he hpl
theorem pe_mk (M : Mkr X.prog X.w X.K X.mg X.base CX k x C ps sp) (hr : Room j X.A) (hg : Gl X x) (hx : Passes CX X E) (ha : PA X (e :: es) t) (hj : k + 1 ≤ j := by decide) (hdb : (x == ("__debug__" : Str)) = false := by decide)
    (he : starEach (e :: es) X.env = (false, eval e X.env) :: starEach es X.env := by rfl) (hpl : (backTo pos (starEach es X.env)).any (·.1) = false := by rfl) : PE X (.Call (.Name x p) (e :: es) [] pos) (tMake C sp [] E t) := by
  obtain ⟨f, fd, M1, F, b⟩ := M.made
  exact pe_make M1 F (hr.mono hj) hg M.g b .nil hx ha hdb he hpl
/-- x op y by an own def of the class at C -/
def rOwnI (K : PySem.W.Frag) (C : Addr) (sp : Sp) (E : XK) : R2 := fun x y H Q => ∃ a dx fs t, x = .ref a ∧ H a = some (.ins C dx fs) ∧ TyX K H y t ∧ PySem.W.notFirst K C t = true ∧ sp [x, y] H Q E
theorem op_ownI {op : CmpOp} {g : Addr} {fd : FuncData} {n : Nat} (hop : ∀ a b, compareOp op a b = richCompare op a b) (hs : PySem.W.findIn X.K (.ref C) (cmpInfo op).2.1 = some (some (.ref g))) (hf : PySem.W.isFn X.K (.ref g) = true)
    (F : FnOk X.prog X.w X.K X.mg X.base CX n g fd ps sp) (hb : L2.Binds X.K fd ps []) (hr : Room n X.A) (hx : Passes CX X E) : OpR X (compareOp op) (rOwnI X.K C sp E) := by
  intro pins s σ H x y v u Q I rx ry h
  obtain ⟨a, dx, fs, t, rfl, ha, ty, hn, q⟩ := h
  cases (show v = Value.ref a from rx)
  obtain ⟨mA, J, _⟩ := ins_get I.hok ha
  obtain ⟨od, J, _⟩ := J.look
  obtain ⟨P, Z, hP, _⟩ := kit_of I ry ty
  obtain ⟨m, hF⟩ := I.fr
  rw [hop]
  refine PySem.W.cmp_K (op := op) (tb := t) hr.units0 hF I.ok.mod.kin J (Z.ty _ _ I.kIn hP) hn hs hf ?_
  refine wpAny_mono (run_fn (us := [.ref a, u]) (vs := [.ref a, y]) F hr hb .nil hx I (.cons rfl (.cons ry .nil)) q) (fun w s' z => ?_) fun _ _ x => x
  obtain ⟨z', H', I', rz, qz⟩ := z
  exact SlX.cmpback rz ⟨z', H', I', rz, qz⟩
end
end Kb
set_option Elab.async false
set_option linter.all false
set_option maxRecDepth 100000
set_option maxHeartbeats 4000000
namespace Kb
open PySem PySem.Spec PyProof.Rows L2 Evl
/-! ### rows of pairs: key, number -/
def kD : Key → PyData
  | .inl i => .int i
  | .inr x => .str x
def rowD (p : Key × Int) : PyData := .tuple [kD p.1, .int p.2]
def rowsD (kvs : List (Key × Int)) : PyData := .tuple (kvs.map rowD)
def kvI (p : Key × Int) : Key × V := (p.1, .int p.2)
section
variable {K : PySem.W.Frag} {σ : L2.St} {H H' : Hp} {te ta tb tl tk tv : TE} {v : V} {d : PyData} {vs : List V} {ds : List PyData}
theorem dp_kD {k : Key} (h : Dp K H v (kD k)) : v = kV k := by
  cases k <;> cases h <;> rfl
theorem rows_paired : ∀ {xs : List V} {kvs : List (Key × Int)}, DpAll K H xs (kvs.map rowD) → ∃ ps : List Addr, xs = ps.map V.ref ∧ Paired (fun p (kv : Key × V) => SqT K H p [kV kv.1, kv.2]) ps (kvs.map kvI)
  | _, [], h => by
    cases h
    exact ⟨[], rfl, .nil⟩
  | _, p :: kvs, h => by
    cases h with
    | cons a b =>
      obtain ⟨ps, rfl, hp⟩ := rows_paired b
      cases a with
      | @tup q ys _ h1 h2 =>
        cases h2 with
        | cons a1 h2 =>
          cases h2 with
          | cons a2 h2 =>
            cases h2
            cases a2
            rw [dp_kD a1] at h1
            exact ⟨q :: ps, rfl, .cons h1 hp⟩
theorem rows_prt {xs : List V} {kvs : List (Key × Int)} (h : DpAll K H xs (kvs.map rowD)) : Prt K H xs (kvs.map fun p => (kV p.1, V.int p.2)) (kvs.map rowD) := by
  induction kvs generalizing xs with
  | nil =>
    cases h
    exact ⟨rfl, fun i v u h => by simp at h, .nil, .nil⟩
  | cons p kvs ih =>
    cases h with
    | cons a b =>
      have q := ih b
      cases a with
      | @tup r ys _ h1 h2 =>
        cases h2 with
        | cons a1 h2 =>
          cases h2 with
          | cons a2 h2 =>
            cases h2
            cases a2
            have e1 := dp_kD a1
            subst e1
            refine ⟨congrArg (· + 1) q.len, fun i v u e1 e2 => ?_, .cons a1 q.d1, .cons (.int _) q.d2⟩
            cases i with
            | zero =>
              simp at e1 e2
              subst e1
              subst e2
              exact ⟨r, rfl, h1⟩
            | succ i =>
              simp at e1 e2
              exact q.at_ i v u e1 (by simpa using e2)
/-! ### dicts -/
theorem mergeK_app (a b c : List (Key × V)) : mergeK a (b ++ c) = mergeK (mergeK a b) c := List.foldl_append
theorem putK_new {kvs : List (Key × V)} {k : Key} {v : V} (h : k ∉ kvs.map (·.1)) : putK kvs k v = kvs ++ [(k, v)] := by
  unfold putK
  rw [if_neg]
  intro z
  obtain ⟨p, hp, e⟩ := List.any_eq_true.mp z
  exact h (List.mem_map.mpr ⟨p, hp, of_decide_eq_true e⟩)
theorem merge_nodup : ∀ (more acc : List (Key × V)), ((acc ++ more).map (·.1)).Nodup → mergeK acc more = acc ++ more
  | [], acc, _ => (List.append_nil acc).symm
  | p :: more, acc, h => by
    have hn : p.1 ∉ acc.map (·.1) := by
      rw [List.map_append, List.nodup_append] at h
      intro z
      exact h.2.2 _ z _ (by simp) rfl
    have e : mergeK acc (p :: more) = mergeK (putK acc p.1 p.2) more := rfl
    rw [e, putK_new hn, merge_nodup more (acc ++ [(p.1, p.2)]) (by simpa using h)]
    simp
theorem kvI_fst (kvs : List (Key × Int)) : (kvs.map kvI).map (·.1) = kvs.map (·.1) := by
  rw [List.map_map]
  rfl
/-- dict(t) of a plain tuple of rows -/
theorem evd_dictT {kvs : List (Key × Int)} (ha : Ev ta σ H v) (hp : Pd K H v (rowsD kvs)) (hn : (kvs.map (·.1)).Nodup) : EvD (tCB (rDictT K) (tCons ta tNil)) σ H (fun w H1 => ∃ p, w = .ref p ∧ H1 p = some (.dK (kvs.map kvI))) := fun H1 e Q q => by
  obtain ⟨p, xs, ds, rfl, e1, hx, hd⟩ := hp
  have e1 := PyData.tuple.inj e1
  subst e1
  obtain ⟨ps, rfl, hpr⟩ := rows_paired hd
  refine ha H1 e _ fun H2 e2 => ⟨p, ps, kvs.map kvI, rfl, hx.ext (e.trans e2), ?_, fun r hr => ?_⟩
  · exact Paired.mapP hpr fun a b h => ex_t (e.trans e2) h
  · have em : mergeK [] (kvs.map kvI) = kvs.map kvI := merge_nodup _ [] (by rw [List.nil_append, kvI_fst]; exact hn)
    rw [em]
    exact q _ _ (e2.trans (Ex.new hr)) ⟨r, rfl, upd_same⟩
theorem ev_dget2 {kvs : List (Key × V)} {k : Key} {z : V} (hd : EvD ta σ H (fun w H1 => ∃ p, w = .ref p ∧ H1 p = some (.dK kvs))) (hk : Ev tb σ H (kV k)) (hz : Ev te σ H z) : Ev (tDGet2 ta tb te) σ H ((valV kvs k).getD z) := fun H1 e Q q =>
  hd H1 e _ fun w H2 e2 ⟨p, hw, hp⟩ => ⟨p, hw, .inl ⟨kvs, .inl hp⟩, hk H2 (e.trans e2) _ fun H3 e3 => hz H3 ((e.trans e2).trans e3) _ fun H4 e4 => ⟨_, .inl ⟨kvs, k, .inl (e4 _ _ (e3 _ _ hp)), rfl, rfl⟩, q H4 ((e2.trans e3).trans e4)⟩⟩
theorem ev_dget1 {kvs : List (Key × V)} {k : Key} (hd : EvD ta σ H (fun w H1 => ∃ p, w = .ref p ∧ H1 p = some (.dK kvs))) (hk : Ev tb σ H (kV k)) : Ev (tDGet1 ta tb) σ H ((valV kvs k).getD .non) := fun H1 e Q q =>
  hd H1 e _ fun w H2 e2 ⟨p, hw, hp⟩ => ⟨p, hw, .inl ⟨kvs, .inl hp⟩, hk H2 (e.trans e2) _ fun H3 e3 => ⟨_, .inl ⟨kvs, k, .inl (e3 _ _ hp), rfl, rfl⟩, q H3 (e2.trans e3)⟩⟩
/-- {k: v for .. in t} over a tuple -/
theorem ed_dcT {a : Addr} {xs : List V} {g : TG} {tt : TT} {ws : List Nat} (kvs : List (Key × V)) (σt : Nat → L2.St) (h : Ev tl σ H (.ref a)) (hx : SqT K H a xs) (hl : xs.length = kvs.length) (hz : xs.length ≤ 40000) (hw : ∀ i, i < xs.length → wipe (σt i) ws = wipe σ ws)
    (hg : ∀ (i : Nat) (x : V) H1, Ex H H1 → xs[i]? = some x → ∀ k : L2.St → Hp → Prop, k (σt i) H1 → g x (wipe σ ws) H1 k) (ht : ∀ (i : Nat) H1, EvT tt (σt i) H1 true)
    (hk : ∀ (i : Nat) (p : Key × V) H1, Ex H H1 → kvs[i]? = some p → Ev tk (σt i) H1 (kV p.1)) (hv : ∀ (i : Nat) (p : Key × V) H1, Ex H H1 → kvs[i]? = some p → Ev tv (σt i) H1 p.2) :
    EvD (tDc (iSeq K tl) g tt tk tv ws) σ H (fun w H1 => ∃ p, w = .ref p ∧ H1 p = some (.dK (mergeK [] kvs)) ∧ H p = none) := fun H0 e Q q => .inr (.inl (h H0 e _ fun H1 e1 => ⟨a, rfl, ⟨xs, ex_t (e.trans e1) hx⟩, fun Dl hD => by
  refine ⟨fun i m H' => m = xs.length - i ∧ i ≤ xs.length ∧ H1 Dl = none ∧ Ex H1 H' ∧ H' Dl = some (.dK (mergeK [] (kvs.take i))), ⟨_, rfl, Nat.zero_le _, hD, Ex.new hD, upd_same⟩, ?_⟩
  rintro i m H' ⟨rfl, hi, h1, h2, h3⟩
  have hx2 : SqT K H' a xs := ex_t ((e.trans e1).trans h2) hx
  by_cases hlt : i < xs.length
  · refine .inr ⟨(walk_tup (K := K) (a := a) (xs := xs)).goes i H' hlt hx2, fun H2 => H1 Dl = none ∧ Ex H1 H2 ∧ H2 Dl = some (.dK (mergeK [] (kvs.take (i + 1)))), fun H2 ⟨z1, z2, z3⟩ => ⟨_, by omega, rfl, hlt, z1, z2, z3⟩, fun x H2 y => ?_⟩
    obtain ⟨rfl, hxi⟩ := walk_tup.yields i H' x H2 hlt hx2 y
    obtain ⟨p, hp⟩ : ∃ p, kvs[i]? = some p := ⟨_, List.getElem?_eq_getElem (by omega)⟩
    refine hg i x _ ((e.trans e1).trans h2) hxi _ ⟨hw i hlt, ht i _ _ (Ex.refl _) _ fun H3 e3 => ?_⟩
    have E3 := ((e.trans e1).trans h2).trans e3
    refine hk i p H3 E3 hp H3 (Ex.refl _) _ fun H4 e4 => hv i p H4 (E3.trans e4) hp H4 (Ex.refl _) _ fun H5 e5 => ?_
    have e35 := (e3.trans e4).trans e5
    refine ⟨_, p.1, rfl, e35 _ _ h3, ?_, h1, (h2.trans e35).mut h1, ?_⟩
    · have z := length_mergeK (kvs.take i) []
      have z2 : (kvs.take i).length ≤ i := by simp; omega
      simp only [List.length_nil] at z
      exact sz_lt (by omega)
    · rw [upd_same, List.take_succ, hp, Option.toList_some, mergeK_app]
      rfl
  · have e0 : i = xs.length := by omega
    subst e0
    refine .inl ⟨walk_tup.stops H' hx2, ?_⟩
    rw [hl, List.take_length] at h3
    exact q _ _ (e1.trans h2) ⟨Dl, rfl, h3, fresh_back (e.trans e1) h1⟩⟩))
theorem ed_dcP {a : Addr} {xs : List V} {us : List (V × V)} {tt : TT} {ws : List Nat} {i1 i2 : Nat} (kvs : List (Key × V)) (h : Ev tl σ H (.ref a)) (hx : SqT K H a xs) (hd : Prt K H xs us ds) (hl : us.length = kvs.length) (hz : xs.length ≤ 40000)
    (hw : ∀ x y, wipe (((wipe σ ws).set i1 (some x)).set i2 (some y)) ws = wipe σ ws) (ht : ∀ σ' H1, EvT tt σ' H1 true)
    (hk : ∀ (i : Nat) (u : V × V) (p : Key × V) H1, Ex H H1 → us[i]? = some u → kvs[i]? = some p → Ev tk (((wipe σ ws).set i1 (some u.1)).set i2 (some u.2)) H1 (kV p.1))
    (hv : ∀ (i : Nat) (u : V × V) (p : Key × V) H1, Ex H H1 → us[i]? = some u → kvs[i]? = some p → Ev tv (((wipe σ ws).set i1 (some u.1)).set i2 (some u.2)) H1 p.2) :
    EvD (tDc (iSeq K tl) (gTup K 2 (gCons (gName i1) (gCons (gName i2) gNil))) tt tk tv ws) σ H (fun w H1 => ∃ p, w = .ref p ∧ H1 p = some (.dK (mergeK [] kvs)) ∧ H p = none) := by
  have up : ∀ {i : Nat} {p : Key × V}, kvs[i]? = some p → ∃ u, us[i]? = some u := fun {i p} hi => by
    have : i < us.length := by
      rw [hl]
      exact (List.getElem?_eq_some_iff.mp hi).1
    exact ⟨_, List.getElem?_eq_getElem this⟩
  refine ed_dcT kvs (fun i => ((wipe σ ws).set i1 (some (us.getD i (.non, .non)).1)).set i2 (some (us.getD i (.non, .non)).2)) h hx (by rw [hd.len, hl]) hz (fun i _ => hw _ _) (fun i x H1 e hi k q => ?_) (fun i H1 => ht _ _) (fun i p H1 e hp => ?_) (fun i p H1 e hp => ?_)
  · have hlt : i < us.length := by
      rw [← hd.len]
      exact (List.getElem?_eq_some_iff.mp hi).1
    obtain ⟨u, hu⟩ : ∃ u, us[i]? = some u := ⟨_, List.getElem?_eq_getElem hlt⟩
    obtain ⟨b, rfl, hb⟩ := hd.at_ i x u hi hu
    rw [getD_some hu] at q
    exact ⟨b, _, rfl, ex_t e hb, rfl, u.1, [u.2], rfl, u.2, [], rfl, rfl, q⟩
  · obtain ⟨u, hu⟩ := up hp
    rw [getD_some hu]
    exact hk i u p H1 e hu hp
  · obtain ⟨u, hu⟩ := up hp
    rw [getD_some hu]
    exact hv i u p H1 e hu hp
end
end Kb
set_option Elab.async false
set_option linter.all false
set_option maxRecDepth 100000
set_option maxHeartbeats 4000000
namespace Kb
open PySem PySem.Spec PyProof.Rows L2 Evl
/-! ### sorted, joined -/
def rSortDI : List V → Hp → VK → Prop := fun xs H Q => ∃ (a : Addr) (kvs : List (Key × V)) (ks : List Int), xs = [.ref a] ∧ Rd H a (.dK kvs) ∧ kvs.map (·.1) = ks.map Sum.inl ∧ ks.length < 64 ∧
  ∀ (ys : List Int) (p : Addr), ys.Perm ks → ys.Pairwise (· ≤ ·) → H p = none → Q (.ref p) (upd H p (.lst (ys.map V.int)))
def rSortA (K : PySem.W.Frag) : List V → Hp → VK → Prop := fun xs H Q => rSortedI K xs H Q ∨ (rSortedS K xs H Q ∨ (rSortDI xs H Q ∨ rSortedPO K xs H Q))
theorem callA_sorted {X : Cx} (hc : X.calm = true) : CallR X (.builtin "sorted") (rSortA X.K) := CallR.or cr_sortedI (CallR.or cr_sortedS (CallR.or (call_sortedDI hc) cr_sortedPO))
theorem perm_le_eq : ∀ {xs ys : List Int}, xs.Perm ys → xs.Pairwise (· ≤ ·) → ys.Pairwise (· ≤ ·) → xs = ys := fun h h1 h2 =>
  h.eq_of_pairwise (fun a b _ _ h1 h2 => Int.le_antisymm h1 h2) h1 h2
section
variable {K : PySem.W.Frag} {σ : L2.St} {H H' : Hp} {te ta tb tl tk tv : TE} {v : V} {d : PyData} {vs : List V} {ds : List PyData}
theorem el_sortI {p : Addr} {ns zs : List Int} (ha : Ev ta σ H (.ref p)) (h : SqL K H p (ns.map V.int)) (hz : zs.Perm ns) (hs : zs.Pairwise (· ≤ ·)) : EvL (tCB (rSortA K) (tCons ta tNil)) σ H (zs.map V.int) := fun H1 e Q q =>
  ha H1 e _ fun H2 e2 => .inl ⟨p, ns, rfl, ex_l (e.trans e2) h, fun ys r hp hy hr => by
    obtain rfl := perm_le_eq (hp.trans hz.symm) hy hs
    exact q r _ (fresh_back e2 hr) (e2.trans (Ex.new hr)) upd_same⟩
theorem el_sortIN {ns zs : List Int} (ha : EvL ta σ H (ns.map V.int)) (hz : zs.Perm ns) (hs : zs.Pairwise (· ≤ ·)) : EvL (tCB (rSortA K) (tCons ta tNil)) σ H (zs.map V.int) := fun H1 e Q q =>
  ha H1 e _ fun p H2 hp e2 h2 => .inl ⟨p, ns, rfl, sq_of h2, fun ys r hpe hy hr => by
    obtain rfl := perm_le_eq (hpe.trans hz.symm) hy hs
    exact q r _ (fresh_back e2 hr) (e2.trans (Ex.new hr)) upd_same⟩
theorem el_sortD {p : Addr} {kvs : List (Key × V)} {ks zs : List Int} (ha : Ev ta σ H (.ref p)) (h : H p = some (.dK kvs)) (hk : kvs.map (·.1) = ks.map Sum.inl) (h64 : ks.length < 64) (hz : zs.Perm ks) (hs : zs.Pairwise (· ≤ ·)) : EvL (tCB (rSortA K) (tCons ta tNil)) σ H (zs.map V.int) := fun H1 e Q q =>
  ha H1 e _ fun H2 e2 => .inr (.inr (.inl ⟨p, kvs, ks, rfl, .inl ((e.trans e2) _ _ h), hk, h64, fun ys r hp hy hr => by
    obtain rfl := perm_le_eq (hp.trans hz.symm) hy hs
    exact q r _ (fresh_back e2 hr) (e2.trans (Ex.new hr)) upd_same⟩))
/-- a comprehension over a new list -/
theorem el_lcN {tt : TT} {g : TG} {ws : List Nat} {xs : List V} (σt : Nat → L2.St) (f : Nat → Bool) (u : Nat → V) (h : EvL tl σ H xs) (hz : xs.length ≤ 40000) (hw : ∀ i, i < xs.length → wipe (σt i) ws = wipe σ ws)
    (hg : ∀ (i : Nat) (x : V) H1, Ex H H1 → xs[i]? = some x → ∀ k : L2.St → Hp → Prop, k (σt i) H1 → g x (wipe σ ws) H1 k)
    (ht : ∀ (i : Nat) (x : V) H1, Ex H H1 → xs[i]? = some x → EvT tt (σt i) H1 (f i)) (he : ∀ (i : Nat) (x : V) H1, Ex H H1 → xs[i]? = some x → f i = true → Ev te (σt i) H1 (u i)) :
    EvL (tLc (iSeq K tl) g tt te ws) σ H (given xs.length f u) := fun H0 e Q q => .inl (h H0 e _ fun a H1 ha0 e1 ha => ⟨a, rfl, ⟨xs, sq_of ha⟩, fun Dl hD =>
  lc_it (walk_list (xs := xs)) (Cw H1 f u Dl) ⟨hD, Ex.new hD, upd_same⟩ (fun i H' _ p => ex_l p.2.1 (sq_of ha)) (fun i x H' H'' hi p y => by
    obtain ⟨rfl, hc⟩ := y
    exact hg i x _ ((e.trans e1).trans p.2.1) hc _ ⟨hw i hi, cw_turn p (by omega) (ht i x H1 (e.trans e1) hc) (fun hf => he i x H1 (e.trans e1) hc hf)⟩)
    (fun H' p => q Dl H' (fresh_back e1 p.1) (e1.trans p.2.1) p.2.2)⟩)
/-- numbers of a new list, sieved -/
theorem el_sieveN {tt : TT} {ws : List Nat} {j : Nat} {ns : List Int} (t : Int → Bool) (h : EvL tl σ H (ns.map V.int)) (hz : ns.length ≤ 40000) (hw : ∀ x, wipe ((wipe σ ws).set j (some x)) ws = wipe σ ws)
    (ht : ∀ (n : Int) H1, Ex H H1 → EvT tt ((wipe σ ws).set j (some (.int n))) H1 (t n)) (he : ∀ (n : Int) H1, Ev te ((wipe σ ws).set j (some (.int n))) H1 (.int n)) :
    EvL (tLc (iSeq K tl) (gName j) tt te ws) σ H ((ns.filter t).map V.int) := by
  refine el_is (el_lcN (fun i => (wipe σ ws).set j (some (.int (ns.getD i 0)))) (fun i => t (ns.getD i 0)) (fun i => .int (ns.getD i 0)) h (by rw [List.length_map]; exact hz) (fun i _ => hw _) (fun i x H1 e hi k q => ?_) (fun i x H1 e hi => ht _ _ e) (fun i x H1 e hi _ => he _ _)) ?_
  · rw [List.getElem?_map] at hi
    cases hn : ns[i]? with
    | none => rw [hn] at hi; cases hi
    | some n =>
      rw [hn] at hi
      cases hi
      rw [getD_some hn] at q
      exact q
  · rw [List.length_map]
    exact given_map ns 0 t V.int
/-- d[k] = v -/
theorem s_dput {p : Addr} {kvs : List (Key × V)} {k : Key} {D : Ends} (hv : Ev tv σ H v) (hd : Ev ta σ H (.ref p)) (hk : Ev tk σ H (kV k)) (h : H p = some (.dK kvs)) (hz : kvs.length < 100000) (q : ∀ H1, Ex H H1 → D.nx σ (upd H1 p (.dK (putK kvs k v)))) : sDPut ta tk tv D σ H :=
  hv H (Ex.refl H) _ fun H1 e1 => hd H1 e1 _ fun H2 e2 => hk H2 (e1.trans e2) _ fun H3 e3 => ⟨p, _, rfl, .inl ⟨kvs, k, ((e1.trans e2).trans e3) _ _ h, rfl, sz_lt hz, rfl⟩, q H3 ((e1.trans e2).trans e3)⟩
theorem q_dput {p : Addr} {kvs : List (Key × V)} {k : Key} {D : Ends} {tz : TS} (hv : Ev tv σ H v) (hd : Ev ta σ H (.ref p)) (hk : Ev tk σ H (kV k)) (h : H p = some (.dK kvs)) (hz : kvs.length < 100000) (q : ∀ H1, Ex H H1 → tz D σ (upd H1 p (.dK (putK kvs k v)))) : tSeq (sDPut ta tk tv) tz D σ H :=
  s_dput (D := { D with nx := tz D }) hv hd hk h hz q
/-- for x, y in t -/
theorem q_forPr {tu tz : TS} {a : Addr} {xs : List V} {us : List (V × V)} {i1 i2 : Nat} {D : Ends} (h : Ev tl σ H (.ref a)) (hx : SqT K H a xs) (hn : xs.length = us.length) (Pv : Nat → L2.St → Hp → Prop) (h0 : ∀ H1, Ex H H1 → Pv 0 σ H1) (hl : ∀ i σ' H', i ≤ us.length → Pv i σ' H' → SqT K H' a xs ∧ Prt K H' xs us ds)
    (hs : ∀ i u σ' H', us[i]? = some u → Pv i σ' H' → tu { ({ D with nx := tz D } : Ends) with nx := Pv (i + 1), ct := Pv (i + 1), bk := tz D } ((σ'.set i1 (some u.1)).set i2 (some u.2)) H') (hd : ∀ σ' H', Pv us.length σ' H' → tz D σ' H') :
    tSeq (tFor (iSeq K tl) (gTup K 2 (gCons (gName i1) (gCons (gName i2) gNil))) tu) tz D σ H :=
  .inr (.inl (h H (Ex.refl H) _ fun H1 e => ⟨a, rfl, ⟨xs, ex_t e hx⟩, for_tup (D := { D with nx := tz D }) Pv (h0 H1 e) (fun i σ' H' hi p => (hl i σ' H' (by omega) p).1) (fun i x σ' H' hi p => by
    have hlt : i < us.length := by
      rw [← hn]
      exact (List.getElem?_eq_some_iff.mp hi).1
    obtain ⟨u, hu⟩ : ∃ u, us[i]? = some u := ⟨_, List.getElem?_eq_getElem hlt⟩
    obtain ⟨b, rfl, hb⟩ := (hl i σ' H' (by omega) p).2.at_ i x u hi hu
    exact ⟨b, _, rfl, hb, rfl, u.1, [u.2], rfl, u.2, [], rfl, rfl, hs i u σ' H' hu p⟩) (fun σ' H' p => hd σ' H' (by rw [← hn]; exact p))⟩))
end
section
variable {X : Cx}
theorem sw_trueD {kx vx : Expr} {gs : List Comprehension} {scope : Scope} {pos py : Pos} {y : Str} {l : Nat} {env : Env} (hk : env.scope.kind = .function) (hy : env.scope.names.lookup y = some .local) (hl : (py.line == pos.line) = true)
    (ha : (scope.names.any fun (n, k) => n == y && (k == .local || k == .cell)) = false) : swapsWith (.DictComp kx vx gs scope pos) (some (.Name y py)) l env = pure true := by
  have ky : env.kindOf y = some .local := hy
  have hb : env.blockKind = .function := by unfold Env.blockKind; rw [hk]; rfl
  unfold swapsWith
  simp only [hb, ky, ha, Expr.pos, hl]
  rfl
/-- name = {k: v for ..} on one line, the name a local -/
theorem ps_setDc {i : Nat} {y : Str} {py : Pos} {kx vx tg iter : Expr} {ifs : List Expr} {scope : Scope} {own : List (Str × Nat)} {pos spos : Pos} {wi : TI} {g : TG} {tt : TT} {tk tv : TE} (hc : X.calm = true) (hN : X.N.Nodup) (hy : X.N[i]? = some y) (hyl : X.env.scope.names.lookup y = some .local)
    (hsw : swapsWith (.DictComp kx vx [⟨tg, iter, ifs, 0⟩] scope pos) (some (.Name y py)) spos.line X.env = pure true) (hi : PI X tg iter wi) (ok : BlkOk X.N X.env.scope scope own)
    (hg : ∀ (s : Shared) (H : Hp) (C : Addr) (cl : List (Str × Addr)) (fp : List Addr), PG (X.blk s H scope (compEnvC scope cl C X.env) fp) tg g) (ht : ∀ (s : Shared) (H : Hp) (C : Addr) (cl : List (Str × Addr)) (fp : List Addr), PTs (X.blk s H scope (compEnvC scope cl C X.env) fp) ifs tt)
    (hk : ∀ (s : Shared) (H : Hp) (C : Addr) (cl : List (Str × Addr)) (fp : List Addr), PE (X.blk s H scope (compEnvC scope cl C X.env) fp) kx tk)
    (he : ∀ (s : Shared) (H : Hp) (C : Addr) (cl : List (Str × Addr)) (fp : List Addr), PE (X.blk s H scope (compEnvC scope cl C X.env) fp) vx tv) (hs : ∀ x, foldedSetIterable iter X.env x = pure x := by intro _; rfl) :
    PS X (.Assign [.Name y py] (.DictComp kx vx [⟨tg, iter, ifs, 0⟩] scope pos) spos) (tAsg (tDc wi g tt tk tv (own.map (·.2))) (gName i)) := by
  refine ⟨fun pins s σ H D I h => ?_⟩
  rw [exec_Assign_Name_used _ _ _ _ hsw]
  refine wpAny_bind (wpAny_standAt (wpAny_bind ?_))
  show wpAny _ X.A (do let _ ← comprehension (.DictComp kx vx [⟨tg, iter, ifs, 0⟩] scope pos) scope X.env (firstIterPos [⟨tg, iter, ifs, 0⟩] pos) newDict false (eval iter X.env) (some (assign (.Name y py) X.env))) _ _ s
  have h : tDc wi g tt tk tv (own.map (·.2)) σ H (fun x H1 => gName i x σ H1 D.nx) := h
  refine wpAny_bind (thn (dc_core (Qf := fun _ s' => SP X pins D .next s') hc hN I hi ok hg ht hk he hs h fun L C s' m H' I' q hn f => ?_) fun _ s' hq => wpAny_pure (wpAny_pure hq))
  show wpAny _ _ (assign (.Name y py) X.env (.ref L)) _ _ _
  refine wpAny_assign_Name (store_ok2 (v := V.ref L) I' hN hy (.inl hyl) rfl (fun s2 I2 ⟨a, sb, ha⟩ => ?_) (.inr hyl))
  obtain ⟨f0, f1, f2, f3, f4, f5⟩ := f
  have haC : C ≠ a := by
    rcases ha with z | z
    · rw [z]; exact f1
    · exact fun e => f4 y a z e.symm
  refine ⟨m, hn.sameBut sb haC, fun h3 sb3 => ?_⟩
  exact ⟨_, H', I2.turned (t' := s2.toks) (fun b o hb e => (sb3.2 b hb).trans e) f0 f1 f3 f4 f5, q⟩
end
end Kb
set_option Elab.async false
set_option linter.all false
set_option maxRecDepth 100000
set_option maxHeartbeats 4000000
namespace Kb
open PySem PySem.Spec PyProof.Rows L2 Evl
/-! ### the keys of a dict that is filled, by numbers; ascending lists -/
theorem keys_put1 {kvs : List (Key × V)} {k : Key} (v : V) (h : k ∈ kvs.map (·.1)) : (putK kvs k v).map (·.1) = kvs.map (·.1) := by
  obtain ⟨p, hp, e⟩ := List.mem_map.mp h
  unfold putK
  rw [if_pos (List.any_eq_true.mpr ⟨p, hp, decide_eq_true e⟩), List.map_map]
  refine List.map_congr_left fun q _ => ?_
  show (if q.1 = k then (q.1, v) else q).1 = q.1
  split <;> rfl
theorem keys_put2 {kvs : List (Key × V)} {k : Key} (v : V) (h : k ∉ kvs.map (·.1)) : (putK kvs k v).map (·.1) = kvs.map (·.1) ++ [k] := by
  rw [putK_new h, List.map_append]
  rfl
def ddI (acc l : List Int) : List Int := l.foldl (fun acc i => if i ∈ acc then acc else acc ++ [i]) acc
def tvK (i : Int) : Key × V := (.inl i, .bl true)
theorem keys_dd : ∀ (l : List Int) (kvs : List (Key × V)) (acc : List Int), kvs.map (·.1) = acc.map Sum.inl → (mergeK kvs (l.map tvK)).map (·.1) = (ddI acc l).map Sum.inl
  | [], _, _, h => h
  | i :: l, kvs, acc, h => by
    show (mergeK (putK kvs (.inl i) (.bl true)) (l.map tvK)).map (·.1) = (ddI (if i ∈ acc then acc else acc ++ [i]) l).map Sum.inl
    refine keys_dd l _ _ ?_
    have e : (Sum.inl i : Key) ∈ acc.map Sum.inl ↔ i ∈ acc := by
      rw [List.mem_map]
      exact ⟨fun ⟨j, hj, z⟩ => by cases z; exact hj, fun z => ⟨i, z, rfl⟩⟩
    by_cases hi : i ∈ acc
    · rw [if_pos hi, keys_put1 _ (by rw [h]; exact e.mpr hi), h]
    · rw [if_neg hi, keys_put2 _ (by rw [h]; exact fun z => hi (e.mp z)), h, List.map_append]
      rfl
theorem dd_mem : ∀ (l acc : List Int) (x : Int), x ∈ ddI acc l ↔ x ∈ acc ∨ x ∈ l
  | [], acc, x => by simp [ddI]
  | i :: l, acc, x => by
    show x ∈ ddI (if i ∈ acc then acc else acc ++ [i]) l ↔ _
    rw [dd_mem l]
    by_cases hi : i ∈ acc
    · rw [if_pos hi]
      simp only [List.mem_cons]
      refine ⟨fun h => h.elim .inl fun z => .inr (.inr z), fun h => ?_⟩
      rcases h with h | rfl | h
      · exact .inl h
      · exact .inl hi
      · exact .inr h
    · rw [if_neg hi]
      simp only [List.mem_append, List.mem_cons, List.not_mem_nil, or_false, or_assoc]
theorem dd_nodup : ∀ (l acc : List Int), acc.Nodup → (ddI acc l).Nodup
  | [], _, h => h
  | i :: l, acc, h => by
    show (ddI (if i ∈ acc then acc else acc ++ [i]) l).Nodup
    refine dd_nodup l _ ?_
    by_cases hi : i ∈ acc
    · rw [if_pos hi]
      exact h
    · rw [if_neg hi, List.nodup_append]
      exact ⟨h, by simp, fun a ha b hb e => by simp at hb; subst hb; subst e; exact hi ha⟩
theorem dd_len : ∀ (l acc : List Int), (ddI acc l).length ≤ acc.length + l.length
  | [], _ => Nat.le_add_right _ _
  | i :: l, acc => by
    show (ddI (if i ∈ acc then acc else acc ++ [i]) l).length ≤ _
    refine Nat.le_trans (dd_len l _) ?_
    split <;> simp <;> omega
def srtI (l : List Int) : List Int := l.mergeSort (fun a b => decide (a ≤ b))
theorem srt_perm (l : List Int) : (srtI l).Perm l := List.mergeSort_perm _ _
theorem srt_le (l : List Int) : (srtI l).Pairwise (· ≤ ·) := by
  have h := List.pairwise_mergeSort (le := fun a b : Int => decide (a ≤ b)) (fun a b c h1 h2 => by simp at h1 h2 ⊢; omega) (fun a b => by simp; omega) l
  exact h.imp fun z => by simpa using z
/-- all, ascending, each once -/
def valsI (l : List Int) : List Int := (srtI (ddI [] l)).filter fun i => decide (i > 0)
theorem srt_lt {l : List Int} (h : l.Nodup) : (srtI l).Pairwise (· < ·) := by
  have h1 := srt_le l
  have h2 : (srtI l).Nodup := (srt_perm l).nodup_iff.mpr h
  exact (h1.and h2).imp fun ⟨a, b⟩ => by omega
theorem vals_lt (l : List Int) : (valsI l).Pairwise (· < ·) := (srt_lt (dd_nodup l [] .nil)).filter _
theorem vals_mem (l : List Int) (x : Int) : x ∈ valsI l ↔ x ∈ l ∧ x > 0 := by
  unfold valsI
  rw [List.mem_filter, (srt_perm _).mem_iff, dd_mem]
  simp
theorem vals_len (l : List Int) : (valsI l).length ≤ l.length := by
  refine Nat.le_trans (List.length_filter_le _ _) ?_
  rw [(srt_perm _).length_eq]
  have := dd_len l []
  simpa using this
/-- two ascending lists of the same members are one -/
theorem asc_eq : ∀ {xs ys : List Int}, xs.Pairwise (· < ·) → ys.Pairwise (· < ·) → (∀ x, x ∈ xs ↔ x ∈ ys) → xs = ys := fun {xs ys} h1 h2 hm => by
  have n1 : xs.Nodup := h1.imp fun z => by omega
  have n2 : ys.Nodup := h2.imp fun z => by omega
  exact perm_le_eq ((List.perm_ext_iff_of_nodup n1 n2).mpr hm) (h1.imp fun z => by omega) (h2.imp fun z => by omega)
end Kb
set_option Elab.async false
set_option linter.all false
set_option maxRecDepth 100000
set_option maxHeartbeats 4000000
namespace Kb
open PySem PySem.Spec PyProof.Rows L2 Evl
/-! ### membership among numbers, texts; the least others -/
theorem inV_int (i : Int) (ns : List Int) : inV (.int i) (ns.map V.int) = decide (i ∈ ns) := by
  unfold inV
  rw [List.any_map, Bool.eq_iff_iff, List.any_eq_true, decide_eq_true_iff]
  constructor
  · rintro ⟨x, hx, e⟩
    have : (x == i) = true := e
    rw [beq_iff_eq] at this
    exact this ▸ hx
  · exact fun h => ⟨i, h, show (i == i) = true from beq_self_eq_true i⟩
theorem inV_str (z : Str) (ns : List Str) : inV (.str z) (ns.map V.str) = decide (z ∈ ns) := by
  unfold inV
  rw [List.any_map, Bool.eq_iff_iff, List.any_eq_true, decide_eq_true_iff]
  constructor
  · rintro ⟨x, hx, e⟩
    have : (x == z) = true := e
    rw [beq_iff_eq] at this
    exact this ▸ hx
  · exact fun h => ⟨z, h, show (z == z) = true from beq_self_eq_true z⟩
theorem flat_ints (ns : List Int) : (ns.map V.int).all flatV = true := by
  rw [List.all_map, List.all_eq_true]
  exact fun _ _ => rfl
theorem flat_strs (ns : List Str) : (ns.map V.str).all flatV = true := by
  rw [List.all_map, List.all_eq_true]
  exact fun _ _ => rfl
/-- those of 1..i that are not among ys -/
def oth (ys : List Int) : Nat → List Int
  | 0 => []
  | i + 1 => oth ys i ++ (if ((i : Int) + 1) ∈ ys then [] else [(i : Int) + 1])
theorem oth_mem (ys : List Int) : ∀ (i : Nat) (x : Int), x ∈ oth ys i ↔ 1 ≤ x ∧ x ≤ i ∧ x ∉ ys
  | 0, x => by simp [oth]; omega
  | i + 1, x => by
    unfold oth
    rw [List.mem_append, oth_mem ys i x]
    split
    · rename_i h
      simp only [List.not_mem_nil, or_false]
      constructor
      · rintro ⟨a, b, c⟩
        exact ⟨a, by omega, c⟩
      · rintro ⟨a, b, c⟩
        refine ⟨a, ?_, c⟩
        have : x ≠ (i : Int) + 1 := fun e => c (e ▸ h)
        omega
    · rename_i h
      simp only [List.mem_singleton]
      constructor
      · rintro (⟨a, b, c⟩ | e)
        · exact ⟨a, by omega, c⟩
        · subst e
          exact ⟨by omega, by omega, h⟩
      · rintro ⟨a, b, c⟩
        by_cases e : x = (i : Int) + 1
        · exact .inr e
        · exact .inl ⟨a, by omega, c⟩
theorem oth_len (ys : List Int) (B : Nat) (hB : ∀ y ∈ ys, y ≤ (B : Int)) : ∀ i : Nat, i ≤ (oth ys i).length + B
  | 0 => Nat.zero_le _
  | i + 1 => by
    have h := oth_len ys B hB i
    unfold oth
    split
    · rename_i hm
      have := hB _ hm
      have h2 : i + 1 ≤ B := by omega
      omega
    · rw [List.length_append]
      simp only [List.length_cons, List.length_nil]
      omega
theorem oth_bound : ∀ ys : List Int, ∃ B : Nat, ∀ y ∈ ys, y ≤ (B : Int)
  | [] => ⟨0, fun _ h => nomatch h⟩
  | y :: ys => by
    obtain ⟨B, h⟩ := oth_bound ys
    refine ⟨B + y.toNat, fun z hz => ?_⟩
    rcases List.mem_cons.mp hz with rfl | hz
    · omega
    · have := h z hz
      omega
theorem oth_le (ys : List Int) : ∀ i : Nat, (oth ys i).length ≤ i
  | 0 => Nat.zero_le _
  | i + 1 => by
    have h := oth_le ys i
    unfold oth
    rw [List.length_append]
    split <;> simp <;> omega
theorem q_parL {σ : L2.St} {H : Hp} {ta tb : TE} {xs : List V} {y : V} {i j : Nat} {D : Ends} {tz : TS} (ha : EvL ta σ H xs) (hb : ∀ H1, Ex H H1 → Ev tb σ H1 y) (k : ∀ l H1, H l = none → Ex H H1 → H1 l = some (.lst xs) → tz D ((σ.set i (some (.ref l))).set j (some y)) H1) :
    tSeq (tPar i j (tCons ta (tCons tb tNil))) tz D σ H := ha H (Ex.refl H) _ fun l H1 hl e1 h1 => hb H1 e1 H1 (Ex.refl H1) _ fun H2 e2 => ⟨_, _, rfl, k l H2 hl (e1.trans e2) (e2 _ _ h1)⟩
theorem q_parLL {σ : L2.St} {H : Hp} {ta tb : TE} {xs ys : List V} {i j : Nat} {D : Ends} {tz : TS} (ha : EvL ta σ H xs) (hb : EvL tb σ H ys) (k : ∀ l m H1, H l = none → H m = none → l ≠ m → Ex H H1 → H1 l = some (.lst xs) → H1 m = some (.lst ys) → tz D ((σ.set i (some (.ref l))).set j (some (.ref m))) H1) :
    tSeq (tPar i j (tCons ta (tCons tb tNil))) tz D σ H := ha H (Ex.refl H) _ fun l H1 hl e1 h1 => hb H1 e1 _ fun m H2 hm e2 h2 => ⟨_, _, rfl, k l m H2 hl (fresh_back e1 hm) (fun z => by rw [z, hm] at h1; cases h1) (e1.trans e2) (e2 _ _ h1) h2⟩
theorem q_par {σ : L2.St} {H : Hp} {ta tb : TE} {x y : V} {i j : Nat} {D : Ends} {tz : TS} (ha : Ev ta σ H x) (hb : Ev tb σ H y) (k : ∀ H1, Ex H H1 → tz D ((σ.set i (some x)).set j (some y)) H1) :
    tSeq (tPar i j (tCons ta (tCons tb tNil))) tz D σ H := ha H (Ex.refl H) _ fun H1 e1 => hb H1 e1 _ fun H2 e2 => ⟨_, _, rfl, k H2 (e1.trans e2)⟩
end Kb
set_option Elab.async false
set_option linter.all false
set_option maxRecDepth 100000
set_option maxHeartbeats 4000000
namespace Kb
open PySem PySem.Spec PyProof.Rows L2 Evl
/-! ### the law's own: each once, of a sorted list -/
section
variable {α : Type} [DecidableEq α]
def adjF (xs : List α) (x0 : α) (i : Nat) : Bool := decide (i = 0) || !decide (xs.getD i x0 = xs.getD (i - 1) x0)
def adjL (xs : List α) (x0 : α) : List α := ((List.range xs.length).filter (adjF xs x0)).map (xs.getD · x0)
theorem adj_mem (xs : List α) (x0 x : α) : x ∈ adjL xs x0 ↔ x ∈ xs := by
  unfold adjL
  rw [List.mem_map]
  constructor
  · rintro ⟨i, hi, rfl⟩
    have h1 := (List.mem_filter.mp hi).1
    rw [List.mem_range] at h1
    simp [h1]
  · intro hx
    obtain ⟨i, hi, e⟩ := List.mem_iff_getElem.mp hx
    -- the least such place
    have : ∀ k : Nat, (∃ j, j ≤ k ∧ j < xs.length ∧ xs.getD j x0 = x) → ∃ j, j < xs.length ∧ xs.getD j x0 = x ∧ adjF xs x0 j = true := by
      intro k
      induction k with
      | zero =>
        rintro ⟨j, hj, hl, he⟩
        have : j = 0 := by omega
        subst this
        exact ⟨0, hl, he, rfl⟩
      | succ k ih =>
        rintro ⟨j, hj, hl, he⟩
        by_cases hf : adjF xs x0 j = true
        · exact ⟨j, hl, he, hf⟩
        · have hj0 : j ≠ 0 := fun z => hf (by rw [z]; rfl)
          have hq : xs.getD j x0 = xs.getD (j - 1) x0 := by
            unfold adjF at hf
            simp only [Bool.or_eq_true, decide_eq_true_eq, Bool.not_eq_true', decide_eq_false_iff_not, not_or, Decidable.not_not] at hf
            exact hf.2
          exact ih ⟨j - 1, by omega, by omega, by rw [← hq]; exact he⟩
    obtain ⟨j, hl, he, hf⟩ := this i ⟨i, Nat.le_refl _, hi, by simp [hi, e]⟩
    exact ⟨j, List.mem_filter.mpr ⟨List.mem_range.mpr hl, hf⟩, he⟩
theorem adj_lt {xs : List α} (x0 : α) (le : α → α → Prop) (anti : ∀ a b, le a b → le b a → a = b) (h : xs.Pairwise le) : (adjL xs x0).Pairwise (fun a b => le a b ∧ a ≠ b) := by
  unfold adjL
  rw [List.pairwise_map]
  have hr : (List.range xs.length).Pairwise (· < ·) := List.pairwise_lt_range
  refine List.Pairwise.imp_of_mem (fun {i j} hi hj hij => ?_) (hr.filter _)
  obtain ⟨hi1, _⟩ := List.mem_filter.mp hi
  obtain ⟨hj1, hjf⟩ := List.mem_filter.mp hj
  rw [List.mem_range] at hi1 hj1
  have gi : ∀ {k : Nat} (hk : k < xs.length), xs.getD k x0 = xs[k] := fun {k} hk => by simp [hk]
  have pw := List.pairwise_iff_getElem.mp h
  have l1 : le (xs.getD i x0) (xs.getD j x0) := by
    rw [gi hi1, gi hj1]
    exact pw i j hi1 hj1 hij
  refine ⟨l1, fun e => ?_⟩
  have hne : xs.getD j x0 ≠ xs.getD (j - 1) x0 := by
    unfold adjF at hjf
    simp only [Bool.or_eq_true, decide_eq_true_eq, Bool.not_eq_true', decide_eq_false_iff_not] at hjf
    rcases hjf with z | z
    · omega
    · exact z
  have hj2 : j - 1 < xs.length := by omega
  have l3 : le (xs.getD (j - 1) x0) (xs.getD j x0) := by
    rw [gi hj2, gi hj1]
    exact pw (j - 1) j hj2 hj1 (by omega)
  by_cases hij2 : i = j - 1
  · rw [hij2] at e
    exact hne e.symm
  · have l2 : le (xs.getD i x0) (xs.getD (j - 1) x0) := by
      rw [gi hi1, gi hj2]
      exact pw i (j - 1) hi1 hj2 (by omega)
    rw [e] at l2
    exact hne (anti _ _ l2 l3)
end
/-- all numbers once, ascending -/
def uniqI (l : List Int) : List Int := srtI (ddI [] l)
theorem uniq_lt (l : List Int) : (uniqI l).Pairwise (· < ·) := srt_lt (dd_nodup l [] .nil)
theorem uniq_mem (l : List Int) (x : Int) : x ∈ uniqI l ↔ x ∈ l := by
  unfold uniqI
  rw [(srt_perm _).mem_iff, dd_mem]
  simp
theorem adj_srt (l : List Int) : adjL (srtI l) 0 = uniqI l := by
  refine asc_eq ?_ (uniq_lt l) (fun x => ?_)
  · exact (adj_lt 0 (· ≤ ·) (fun a b h1 h2 => Int.le_antisymm h1 h2) (srt_le l)).imp fun ⟨a, b⟩ => by omega
  · rw [adj_mem, (srt_perm l).mem_iff, uniq_mem]
/-! texts, by their signs -/
def leS (a b : Str) : Prop := ¬ b.cps.toList < a.cps.toList
theorem leS_anti (a b : Str) (h1 : leS a b) (h2 : leS b a) : a = b := by
  have h := List.le_antisymm (show a.cps.toList ≤ b.cps.toList from h1) (show b.cps.toList ≤ a.cps.toList from h2)
  cases a
  cases b
  have := congrArg List.toArray h
  simpa using this
theorem leS_lt {a b : Str} (h : leS a b ∧ a ≠ b) : a.cps.toList < b.cps.toList := by
  have h1 : a.cps.toList ≤ b.cps.toList := h.1
  rcases Decidable.em (a.cps.toList < b.cps.toList) with z | z
  · exact z
  · exact absurd (leS_anti a b h.1 z) h.2
end Kb
set_option Elab.async false
set_option linter.all false
set_option maxRecDepth 100000
set_option maxHeartbeats 4000000
namespace Kb
open PySem PySem.Spec PyProof.Rows L2 Evl
section
variable {X : Cx} {CX : CXT} {j k : Nat} {sp : Sp} {E : XK} {x : Str} {p pos : Pos}
/-- f() -/
theorem pe_cg0 (G : Gv X.prog X.w X.K X.mg X.base CX j x [] sp) (hr : Room k X.A) (hg : Gl X x) (hx : Passes CX X E) (hj : j ≤ k := by decide) (hdb : (x == ("__debug__" : Str)) = false := by decide) : PE X (.Call (.Name x p) [] [] pos) (tCall sp [] E tNil) := by
  obtain ⟨f, fd, F, b, kp, g⟩ := G.ex
  exact pe_call0 F (hr.mono hj) hg g kp b .nil hx hdb
theorem pe_bmK {K : PySem.W.Frag} {T id : String} {name : Str} {r : V → List V → Hp → VK → Prop} {to : TE} {t : TA} {o e : Expr} {es : List Expr} {apos cpos : Pos} (hK : X.K = K) (pa : PlainAttrs T) (slot : Slot T name id) (hty : typeOf (.builtin id) = pure (.type "method_descriptor")) (hm : MtR X id r) (ho : PE X o to) (ha : PA X (e :: es) t)
    (hbase : attributeBase o name X.env (eval o X.env) = eval o X.env := by rfl)
    (hfew : ((backTo cpos (starEach (e :: es) X.env)).all (fun x => !x.1) && (backToKw cpos (keywordEach [] X.env)).all (fun x => x.1.isSome)
      && decide ((e :: es).length + ([] : List Keyword).length + (if ([] : List Keyword).isEmpty then 0 else 1) < 30)) = true := by rfl)
    (hline : (apos.endLine == cpos.line) = true := by rfl) (hs : starEach (e :: es) X.env = (false, eval e X.env) :: starEach es X.env := by rfl) (hplain : (backTo cpos (starEach es X.env)).any (·.1) = false := by rfl) :
    PE X (.Call (.Attribute o name apos) (e :: es) [] cpos) (tBM K T r to t) := hK ▸ pe_bm pa slot hty hm ho ha hbase hfew hline hs hplain
/-- x is True, x anything -/
def rIsX : R2 := fun x y H Q => ∃ b : Bool, y = .bl b ∧ Q (.bl (decide (x = .bl b))) H
theorem op_isX : OpR X (compareOp .Is) rIsX := by
  intro pins s σ H x y v u Q I rx ry h
  obtain ⟨b, rfl, q⟩ := h
  cases (show u = Value.bool b from ry)
  cases x with
  | bl a =>
    cases (show v = Value.bool a from rx)
    by_cases e : a = b
    · subst e
      exact wpAny_is_self rfl ⟨.bl true, H, I, rfl, by simpa using q⟩
    · exact wpAny_is_other rfl (fun z => e (Value.bool.inj z)) ⟨.bl false, H, I, rfl, by simpa [e] using q⟩
  | _ =>
    have hq : Q (.bl false) H := by simpa using q
    first
      | (obtain ⟨t, rfl⟩ := rx; exact wpAny_is_other rfl (fun z => nomatch z) ⟨.bl false, H, I, rfl, hq⟩)
      | (cases rx; exact wpAny_is_other rfl (fun z => nomatch z) ⟨.bl false, H, I, rfl, hq⟩)
def rJoin (K : PySem.W.Frag) : V → List V → Hp → VK → Prop := fun x xs H Q => ∃ a p, ∃ ys : List Str, x = .str a ∧ xs = [.ref p] ∧ (SqL K H p (ys.map V.str) ∨ SqT K H p (ys.map V.str)) ∧ (ys.map (·.length)).sum + ys.length * a.length ≤ 16777216 ∧ Q (.str (Txt.join a ys)) H
theorem mt_joinA : MtR X "str.join" (rJoin X.K) := mt_join
end
section
variable {K : PySem.W.Frag} {σ : L2.St} {H H' : Hp} {te ta tb tl tk tv : TE} {v : V} {d : PyData} {vs : List V} {ds : List PyData} {tt : TT} {ws : List Nat}
theorem ev_join {a : Str} {ys : List Str} (ha : Ev ta σ H (.str a)) (hb : EvL tb σ H (ys.map V.str)) (hz : (ys.map (·.length)).sum + ys.length * a.length ≤ 16777216) : Ev (tBM K "str" (rJoin K) ta (tCons tb tNil)) σ H (.str (Txt.join a ys)) := fun H1 e Q q =>
  ha H1 e _ fun H2 e2 => ⟨rfl, hb H2 (e.trans e2) _ fun p H3 hp e3 h3 => ⟨a, p, ys, rfl, rfl, .inl (sq_of h3), hz, q H3 (e2.trans e3)⟩⟩
theorem ev_joinH {a : Str} {ys : List Str} {p : Addr} (ha : Ev ta σ H (.str a)) (hb : Ev tb σ H (.ref p)) (hx : SqL K H p (ys.map V.str)) (hz : (ys.map (·.length)).sum + ys.length * a.length ≤ 16777216) : Ev (tBM K "str" (rJoin K) ta (tCons tb tNil)) σ H (.str (Txt.join a ys)) := fun H1 e Q q =>
  ha H1 e _ fun H2 e2 => ⟨rfl, hb H2 (e.trans e2) _ fun H3 e3 => ⟨a, p, ys, rfl, rfl, .inl (ex_l ((e.trans e2).trans e3) hx), hz, q H3 (e2.trans e3)⟩⟩
theorem cut_sub (z : Str) (lo hi : Option Int) {c : Nat} (hc : c ∈ (cutS z lo hi).cps.toList) : c ∈ z.cps.toList := by
  unfold cutS at hc
  simp only at hc
  exact List.mem_of_mem_drop (List.mem_of_mem_take hc)
theorem given_txtF {w : Str} (t : Nat → Bool) (u : Nat → V) : given w.cps.size (fun i => t (w.cps.getD i 0)) (fun i => u (w.cps.getD i 0)) = (w.cps.toList.filter t).map u := by
  have h := given_map w.cps.toList 0 t u
  have e : ∀ i, w.cps.toList.getD i 0 = w.cps.getD i 0 := fun i => PyProof.Rows.getD_list w i
  simp only [e, Array.length_toList] at h
  exact h
/-- a comprehension over a text, sieved -/
theorem el_lcSf {w : Str} {j : Nat} (t : Nat → Bool) (u : Nat → V) (h : Ev tl σ H (.str w)) (hz : w.cps.size ≤ 40000) (hw : ∀ x, wipe ((wipe σ ws).set j (some x)) ws = wipe σ ws)
    (ht : ∀ (c : Nat) H1, Ex H H1 → EvT tt ((wipe σ ws).set j (some (.str ⟨#[c]⟩))) H1 (t c)) (he : ∀ (c : Nat) H1, Ex H H1 → Ev te ((wipe σ ws).set j (some (.str ⟨#[c]⟩))) H1 (u c)) :
    EvL (tLc (iSeq K tl) (gName j) tt te ws) σ H ((w.cps.toList.filter t).map u) := by
  rw [← given_txtF]
  exact el_lcS (fun i => t (w.cps.getD i 0)) (fun i => u (w.cps.getD i 0)) h hz hw (fun i c H1 e hc => by rw [getD_of hc]; exact ht c H1 e) (fun i c H1 e hc _ => by rw [getD_of hc]; exact he c H1 e)
theorem eqv_nil (ds : List PyData) : PyData.eqv (.list ds) (.list []) = decide (ds = []) := by
  cases ds with
  | nil => rfl
  | cons a b => rfl
theorem shaped_nil : SeqAt.shaped (.list []) = true := by decide +kernel
/-- a new list of data against a new empty list -/
theorem ev_neNil {xs : List V} (ha : EvL ta σ H xs) (hb : ∀ H1, Ex H H1 → EvL tb σ H1 []) (hd : ∀ H1, Ex H H1 → DpAll K H1 xs ds) (hs : SeqAt.shaped (.list ds) = true) : Ev (tOp (rNeA K) ta tb) σ H (.bl (!decide (ds = []))) := fun H1 e Q q =>
  ha H1 e _ fun p H2 hp e2 h2 => hb H2 (e.trans e2) H2 (Ex.refl H2) _ fun r H3 hr e3 h3 => .inr ⟨.list ds, .list [], .lst (sq_of (e3 _ _ h2)) (hd H3 ((e.trans e2).trans e3)), .lst (sq_of h3) .nil, hs, shaped_nil, by rw [eqv_nil]; exact q H3 (e2.trans e3)⟩
theorem ev_eqNil {xs : List V} (ha : EvL ta σ H xs) (hb : ∀ H1, Ex H H1 → EvL tb σ H1 []) (hd : ∀ H1, Ex H H1 → DpAll K H1 xs ds) (hs : SeqAt.shaped (.list ds) = true) : Ev (tOp (rEqA K) ta tb) σ H (.bl (decide (ds = []))) := fun H1 e Q q =>
  ha H1 e _ fun p H2 hp e2 h2 => hb H2 (e.trans e2) H2 (Ex.refl H2) _ fun r H3 hr e3 h3 => .inr ⟨.list ds, .list [], .lst (sq_of (e3 _ _ h2)) (hd H3 ((e.trans e2).trans e3)), .lst (sq_of h3) .nil, hs, shaped_nil, by rw [eqv_nil]; exact q H3 (e2.trans e3)⟩
/-- a held list against a new empty one -/
theorem ev_neNilH {p : Addr} {xs : List V} (ha : Ev ta σ H (.ref p)) (hx : SqL K H p xs) (hb : ∀ H1, Ex H H1 → EvL tb σ H1 []) (hd : DpAll K H xs ds) (hs : SeqAt.shaped (.list ds) = true) : Ev (tOp (rNeA K) ta tb) σ H (.bl (!decide (ds = []))) := fun H1 e Q q =>
  ha H1 e _ fun H2 e2 => hb H2 (e.trans e2) H2 (Ex.refl H2) _ fun r H3 hr e3 h3 => .inr ⟨.list ds, .list [], .lst (ex_l ((e.trans e2).trans e3) hx) (DpAll.ext ((e.trans e2).trans e3) hd), .lst (sq_of h3) .nil, hs, shaped_nil, by rw [eqv_nil]; exact q H3 (e2.trans e3)⟩
theorem dpAll_strs : ∀ {ns : List Str}, DpAll K H (ns.map V.str) (ns.map PyData.str)
  | [] => .nil
  | n :: ns => .cons (.str n) dpAll_strs
theorem shaped_flat {ds : List PyData} (h1 : ∀ d ∈ ds, d.canLay0 = true ∧ d.depth = 0) : SeqAt.shaped (.list ds) = true := by
  have key : ∀ ds : List PyData, (∀ d ∈ ds, d.canLay0 = true ∧ d.depth = 0) → PyData.canLayAll0 ds = true ∧ PyData.depthAll ds = 0 := by
    intro ds
    induction ds with
    | nil => intro _; exact ⟨rfl, rfl⟩
    | cons d r ih =>
      intro h
      obtain ⟨a, b⟩ := ih fun d hd => h d (List.mem_cons_of_mem _ hd)
      obtain ⟨c, e⟩ := h d List.mem_cons_self
      simp [PyData.canLayAll0, PyData.depthAll, a, b, c, e]
  obtain ⟨a, b⟩ := key ds h1
  unfold SeqAt.shaped
  simp [PyData.canLay0, PyData.depth, a, b]
theorem shaped_ints (ns : List Int) : SeqAt.shaped (.list (ns.map PyData.int)) = true := shaped_flat fun d hd => by
  obtain ⟨i, _, rfl⟩ := List.mem_map.mp hd
  exact ⟨rfl, rfl⟩
theorem shaped_signs {cs : List Nat} (h : ∀ c ∈ cs, c < 0x110000) : SeqAt.shaped (.list (cs.map fun c => PyData.str ⟨#[c]⟩)) = true := shaped_flat fun d hd => by
  obtain ⟨c, hc, rfl⟩ := List.mem_map.mp hd
  refine ⟨?_, rfl⟩
  simp only [PyData.canLay0, PyData.strOk]
  simpa using h c hc
end
end Kb
set_option Elab.async false
set_option linter.all false
set_option maxRecDepth 100000
set_option maxHeartbeats 4000000
namespace PySem.W
open PySem PySem.Spec PySem.Calls PyProof.Rows
section
variable {prog : Program} {w : World} {A : Around} {E : Value → Shared → Prop} {s : Shared} {K : Frag} {x D : Addr} {ox : Obj} {od : Option Obj}
theorem k0_findObj {C : Addr} {name : Str} {a g : Value} (hc : (clsIn K C).isSome = true) (ha : findIn K (.ref C) name = some (some a)) (hg : specialIn K a "__get__" = some (some g)) (ht : takesIn K a = some true) : findObj K C od name = some (.bind g a) := by
  obtain ⟨cd, hc⟩ := Option.isSome_iff_exists.mp hc
  unfold findObj
  rw [hc, Option.bind_some, ha, Option.bind_some]
  simp [hg, ht]
/-- e.__class__ of an error, with a dict or without -/
theorem k0_class {Q : Option Value → Shared → Prop} (hga : findIn K (.ref D) "__getattribute__" = some (some (.builtin "BaseException.__getattribute__"))) (hgt : findIn K (.ref D) "__getattr__" = some none) (hsub : subIn K (.ref D) (.type "BaseException") = some true)
    (hdct : hasDictIn K D = true) (ha : findIn K (.ref D) "__class__" = some (some (.builtin "object.__class__")))
    (hn : specialIn K (.builtin "object.__class__") "__get__" = some (some (.builtin "getset_descriptor.__get__"))) (htk : takesIn K (.builtin "object.__class__") = some true) (hm : mroIn K D (.type "object") = some true)
    (X : K.In s.heap) (I : InstAt s.heap x ox D od) (h : Q (some (.ref D)) { s with toks := s.toks + 1 }) : wpAny (model prog w) A (getAttr? (.ref x) "__class__") Q E s := by
  have hf : findObj K D od "__class__" = some (.bind (.builtin "getset_descriptor.__get__") (.builtin "object.__class__")) := k0_findObj (by obtain ⟨cd, hc, _⟩ := any_some hdct; rw [hc]; rfl) ha hn htk
  obtain ⟨hp, g, d, t, os⟩ := s
  have L0 := I.type (M := model prog w)
  have L1 := looks_findIn (M := model prog w) X hga
  have L2 := looks_findIn (M := model prog w) X hgt
  have L3 := looks_find (M := model prog w) X I hf
  have sub : Looks (model prog w) hp (isInstance (.ref x) (.type "BaseException")) true := L0.andThen (looks_subIn X hsub)
  have z0 : (false && onTheHeap (Value.builtin "BaseException.__getattribute__")) = false := rfl
  have z2 : (Value.builtin "BaseException.__getattribute__" == Value.builtin "object.__getattribute__") = false := by decide +kernel
  have z1 : (onTheHeap (Value.ref D) && Value.builtin "BaseException.__getattribute__" == Value.builtin "object.__getattribute__") = false := by rw [z2]; rfl
  unfold getAttr? getAttrBy? getAttrBy
  refine wpAny_bind (wpAny_mkText (wpAny_bind (wpAny_attempt (wpAny_holding (wpAny_bind (L0.at (wpAny_bind (L1.at ?_))))))))
  show wpAny _ _ (if (onTheHeap (Value.ref D) && Value.builtin "BaseException.__getattribute__" == Value.builtin "object.__getattribute__") = true then _ else _) _ _ _
  rw [z1, if_neg Bool.false_ne_true]
  unfold getAttrByItsOwn hookBefore
  refine wpAny_bind ?_
  rw [if_pos (show onTheHeap (Value.ref D) = true from rfl)]
  refine L2.at ?_
  refine wpAny_bind (wpAny_attempt (wpAny_holding ?_))
  unfold callGetattribute
  rw [z0, if_neg Bool.false_ne_true]
  unfold boundAndCalled
  rw [PySem.F.excAttr_ValueError.ga.bind (.ref x)]
  refine wpAny_bind (wpAny_pure ?_)
  show wpAny _ _ (call (.builtin "BaseException.__getattribute__") [.ref x, .str "__class__" t]) _ _ _
  refine wpAny_call (codeAny_call_builtin PySem.F.excAttr_ValueError.ga.plain PySem.F.entry_bexc_ga ?_)
  refine @check_slot (model prog w) _ _ ⟨hp, g, d, t + 1, os⟩ "BaseException.__getattribute__" "BaseException" "__getattribute__" (.ref x) [.str "__class__" t] [] _ (by decide +kernel) (by decide +kernel) sub (PySem.F.args_bexc_ga (.ref x) (.str "__class__" t)) ?_
  unfold Builtin.«object.__getattribute__»
  refine wpAny_bind (wpAny_of_eq (a := ((Value.ref x : Value), [Value.str "__class__" t])) (by first | rfl | (simp only [slotArgs]; rfl)) ?_)
  refine wpAny_bind (wpAny_pure (wpAny_bind (L0.at (wpAny_bind (L3.at ?_)))))
  show wpAny _ _ (holding [Value.builtin "object.__class__"] (call (.builtin "getset_descriptor.__get__") [.builtin "object.__class__", .ref x, .ref D]) >>= ret) _ _ _
  refine wpAny_bind (wpAny_holding (wpAny_call (class_get (s := ⟨hp, g, d, t + 1, os⟩) (ox := ox) (od := od) X I hm ?_)))
  refine wpAny_pure ?_
  show wpAny _ _ (handedOut (.ref D)) _ _ _
  rw [handedOut_of (v := .ref D) rfl]
  first
    | exact wpAny_pure (wpAny_pure h)
    | exact wpAny_pure h
    | exact wpAny_pure (wpAny_bind (wpAny_pure (wpAny_pure h)))
theorem k0_kitx (hga : findIn K (.ref D) "__getattribute__" = some (some (.builtin "BaseException.__getattribute__"))) (hgt : findIn K (.ref D) "__getattr__" = some none) (hsub : subIn K (.ref D) (.type "BaseException") = some true) (hdct : hasDictIn K D = true) (ha : findIn K (.ref D) "__class__" = some (some (.builtin "object.__class__")))
    (hn : specialIn K (.builtin "object.__class__") "__get__" = some (some (.builtin "getset_descriptor.__get__"))) (htk : takesIn K (.builtin "object.__class__") = some true) (hm : mroIn K D (.type "object") = some true) :
    KitX K (.ref x) (.ref D) (fun h => InstAt h x ox D od) where
  ty := fun _ _ _ I => I.type
  it := fun _ _ X _ => by
    obtain ⟨cdD, hcD, _⟩ := any_some hdct
    unfold clsIn at hcD
    split at hcD
    · rename_i c' d' cd' sl' ho
      intro A' Q' E' s' k q
      unfold isType loadHead
      exact wpAny_bind (wpAny_loadPart (k _ _ (X _ _ ho)) (wpAny_pure q))
    · cases hcD
  ne := fun h tp dd its n sl X htp => by
    obtain ⟨cdD, hcD, _⟩ := any_some hdct
    refine Bool.eq_false_iff.mpr fun q => ?_
    have e : D = tp := Value.ref.inj (beq_iff_eq.mp q)
    subst e
    unfold clsIn at hcD
    split at hcD
    · rename_i c' d' cd' sl' ho
      have z := (X _ _ ho).symm.trans htp
      cases z
    · cases hcD
  ca := fun X I k => k0_class hga hgt hsub hdct ha hn htk hm X I k
end
end PySem.W
namespace Kb
open PySem PySem.Spec PyProof.Rows L2 L2H
/-! ### an error that a suite holds, seen through a pin -/
/-- the dict of the error stands, if it has one -/
def XdAt (H : Hp) (d : Option Addr) : Prop := d = none ∨ ∃ dd fs, d = some dd ∧ H dd = some (.xd fs)
theorem XdAt.same {H H' : Hp} {d : Option Addr} (h : XdAt H d) (e : Evl.Ex H H') : XdAt H' d := by
  rcases h with h | ⟨dd, fs, h1, h2⟩
  · exact .inl h
  · exact .inr ⟨dd, fs, h1, e _ _ h2⟩
def rIsP (K : PySem.W.Frag) (a : Addr) (cls : Value) (d : Option Addr) : List V → Hp → VK → Prop := fun xs H Q => ∃ (D : Addr) (c : V) (cv : Value) (b : Bool), cls = .ref D ∧ ExcC K D ∧ xs = [.ref a, c] ∧ (∀ u, RelV c u → u = cv) ∧ PySem.W.kitOne K (.ref D) cv = some b ∧ XdAt H d ∧ Q (.bl b) H
theorem call_isP {X : Cx} {a : Addr} {oe : Obj} {cls : Value} {d : Option Addr} (hp : (a, oe) ∈ X.pn) (hz : Zc cls d oe) (hf : ∃ vs, oe.data = .fields vs) : CallR X (.builtin "isinstance") (rIsP X.K a cls d) := by
  intro pins s σ H xs us Q I r h
  obtain ⟨D, c, cv, b, rfl, C, rfl, hcv, e, hx, q⟩ := h
  cases r with
  | cons rx rr =>
    cases rr with
    | cons rt rr =>
      cases rr
      cases rx
      have ec := hcv _ rt
      subst ec
      obtain ⟨hget, _⟩ := I.pin (a, oe) (List.mem_append.mpr (.inl hp))
      obtain ⟨vs, hv⟩ := hf
      have J : ∃ od, PySem.W.InstAt s.heap a oe D od := by
        rcases hx with hx | ⟨dd, fs, hx, hd⟩
        · subst hx
          exact ⟨none, hget, hz.1, by unfold PySem.W.notCls; rw [hv] <;> rfl, by rw [hz.2]; trivial⟩
        · subst hx
          have hx : ObjOk X.prog X.w H s.heap dd (.xd fs) := I.hok dd _ hd
          obtain ⟨mA, hns, hr⟩ := hx
          obtain ⟨od, ho, hl⟩ := lookIn_ns hns
          exact ⟨some od, hget, hz.1, by unfold PySem.W.notCls; rw [hv] <;> rfl, by rw [hz.2]; exact ho⟩
      obtain ⟨od, J⟩ := J
      exact PySem.W.kia_one (PySem.W.k0_kitx C.hg C.hk C.hs C.hd C.ha C.hn C.ht C.hm) I.kIn J e (fun z => nomatch z) fun tk => ⟨.bl b, H, I.kept (t' := tk) fun _ _ z => z, rfl, q⟩
def tXp (K : PySem.W.Frag) (a : Addr) (cls : Value) (d : Option Addr) (f : Str) (te : TE) : TE := fun σ H Q => te σ H fun x H1 => x = .ref a ∧ ∃ (C dd : Addr) (fs : List (Str × V)) (v : V), cls = .ref C ∧ XfC K C ∧ PySem.W.findIn K (.ref C) f = some none ∧ d = some dd ∧ H1 dd = some (.xd fs) ∧ fs.lookup f = some v ∧ Q v H1
theorem pe_xp {X : Cx} {a : Addr} {oe : Obj} {cls : Value} {d : Option Addr} {e : Expr} {te : TE} {pos : Pos} {n : Str} (hp : (a, oe) ∈ X.pn) (hz : Zc cls d oe) (hf : ∃ vs, oe.data = .fields vs) (he : PE X e te)
    (hb : attributeBase e n X.env (eval e X.env) = eval e X.env := by rfl) : PE X (.Attribute e n pos) (tXp X.K a cls d n te) := by
  refine ⟨fun pins s σ H Q I h => ?_⟩
  refine attr_of hb (thn (he.run pins s σ H _ I h) fun u s1 hh => ?_)
  obtain ⟨x, H1, I1, rx, ex, C, dd, fs, v, ec, T, hno, ed, ea, l, q⟩ := hh
  subst ex
  obtain rfl : u = Value.ref a := rx
  subst ec
  subst ed
  obtain ⟨ha, _⟩ := I1.pin (a, oe) (List.mem_append_left _ hp)
  obtain ⟨vs, hd⟩ := hf
  have hx : ObjOk X.prog X.w H1 s1.heap dd (.xd fs) := I1.hok dd _ ea
  obtain ⟨mA, hns, hr⟩ := hx
  obtain ⟨od, ho, hl⟩ := lookIn_ns hns
  obtain ⟨u, hu, ru⟩ := RelO.some_of (v := v) (o := mA n) (by rw [← l]; exact hr n)
  have J : PySem.W.InstAt s1.heap a oe C (some od) := ⟨ha, hz.1, by unfold PySem.W.notCls; rw [hd] <;> rfl, by rw [hz.2]; exact ho⟩
  exact HandSPX.exc_get I1.kIn J T.ga T.gg T.exC (PySem.W.findObj_own T.hdC hno rfl (by rw [hl, hu])) (handed_of ru) ⟨v, H1, I1.tok _, ru, q⟩
theorem pe_xpK {K : PySem.W.Frag} {X : Cx} {a : Addr} {oe : Obj} {cls : Value} {d : Option Addr} {e : Expr} {te : TE} {pos : Pos} {n : Str} (hK : X.K = K) (hp : (a, oe) ∈ X.pn) (hz : Zc cls d oe) (hf : ∃ vs, oe.data = .fields vs) (he : PE X e te)
    (hb : attributeBase e n X.env (eval e X.env) = eval e X.env := by rfl) : PE X (.Attribute e n pos) (tXp K a cls d n te) := hK ▸ pe_xp hp hz hf he hb
end Kb
set_option Elab.async false
set_option linter.all false
set_option maxRecDepth 100000
set_option maxHeartbeats 4000000
namespace Kb
open PySem PySem.Spec PyProof.Rows L2
/-! ### repr -/
def dictD : PyData := .dict [(.str "k", .int 1)]
def dictO : HO := .dK [(.inr "k", .int 1)]
/-- v stands for d: data of any depth without a dict, or the dict {'k': 1} -/
def Rp (K : PySem.W.Frag) (H : Hp) (v : V) (d : PyData) : Prop := (Dp K H v d ∧ d.hasDict = false) ∨ ∃ a, v = .ref a ∧ H a = some dictO ∧ d = dictD
structure Sh (d : PyData) : Prop where
  s : d.showable = true
  l : d.shown.length ≤ sizeLine
  d : d.depth ≤ 5
def rRepr (K : PySem.W.Frag) : List V → Hp → VK → Prop := fun xs H Q => ∃ v d, xs = [v] ∧ Rp K H v d ∧ Sh d ∧ Q (.str d.shown) H
section
variable {X : Cx} {pins : List (Addr × Obj)} {σ : L2.St} {H : Hp} {s : Shared} {a : Addr}
theorem dict_reads (I : Inv X pins σ H s) (h : H a = some dictO) : Reads s.heap (.ref a) dictD [a] ∧ a ≠ sysModules := by
  have z : ObjOk X.prog X.w H s.heap a (.dK [(.inr "k", .int 1)]) := I.hok a _ h
  obtain ⟨_, hs, vs, kv, o, es, ep, e1, ⟨e2, _, _⟩, e3, _, pr, _⟩ := z
  refine ⟨?_, beq_eq_false_iff_ne.mp hs⟩
  cases kv with
  | @cons _ q _ r h1 h2 =>
    cases h2
    obtain ⟨k, u⟩ := q
    obtain ⟨hk, t, hu⟩ := h1
    dsimp only at hk hu
    subst hk hu
    generalize hes : es.toList = l at pr
    cases pr with
    | @cons e _ es2 _ h3 h4 h5 =>
      cases h5
      have hkey : ∃ t', e.key = Value.str "k" t' := by
        rcases keyIs_shape (k := (.inr "k" : Key)) (v := e.key) h3 with ⟨i, t', hi, _⟩ | ⟨x, t', hx, hv⟩
        · cases hi
        · cases hx
          exact ⟨t', hv⟩
      obtain ⟨t', hkey⟩ := hkey
      have r1 : ReadsAll s.heap (es.toList.map (·.key)) [PyData.str "k"] ([] ++ []) := by
        rw [hes]
        show ReadsAll s.heap [e.key] _ _
        rw [hkey]
        exact .cons (.str _ _) .nil
      have r2 : ReadsAll s.heap (es.toList.map (·.val)) [PyData.int 1] ([] ++ []) := by
        rw [hes]
        show ReadsAll s.heap [e.val] _ _
        rw [h4]
        exact .cons (.int _ _) .nil
      exact Reads.dict (kvs := [(PyData.str "k", PyData.int 1)]) e1 e2 e3 r1 r2
theorem call_repr (hg : X.A.guards = some []) (hu : X.A.units + 16 < cLine) : CallR X (.builtin "repr") (rRepr X.K) := by
  intro pins s σ H xs us Q I r h
  obtain ⟨v, d, rfl, hv, hs, q⟩ := h
  cases r with
  | @cons _ u _ us' rv rr =>
    cases rr
    have hd : X.A.units + (d.depth + 1) < cLine := by have := hs.d; omega
    rcases hv with ⟨hv, hn⟩ | ⟨a, rfl, ha, rfl⟩
    · cases hv with
      | non =>
        obtain rfl : u = Value.none := rv
        exact call_repr_gives (typeIs_none s) F.slot_NoneType_repr F.entry_NoneType_repr (F.args_NoneType_repr_1 _) gives_none_repr ⟨.str _, H, I.tok _, ⟨_, rfl⟩, q⟩ (hx := by decide)
      | bl b =>
        obtain rfl : u = Value.bool b := rv
        refine PySem.P.repr_of_bool ⟨.str _, H, I.tok _, ⟨_, rfl⟩, ?_⟩
        have e : PyData.shown (.bool b) = (if b then Str.ofString "True" else Str.ofString "False") := by simp only [PyData.shown]
        rw [e] at q
        cases b <;> exact q
      | int i =>
        obtain ⟨t, rfl⟩ := rv
        refine PySem.P.repr_of_int (by have z := hs.s; simpa only [PyData.showable, decide_eq_true_eq] using z) ⟨.str _, H, I.tok _, ⟨_, rfl⟩, ?_⟩
        have e : PyData.shown (.int i) = (toString i : String) := by simp only [PyData.shown]
        rw [e] at q
        exact q
      | str x =>
        obtain ⟨t, rfl⟩ := rv
        have e : PyData.shown (.str x) = reprText x := by simp only [PyData.shown]
        refine PySem.P.repr_of_str ⟨.str _, H, I.tok _, ⟨_, rfl⟩, ?_⟩ (by have z := hs.l; rw [e] at z; exact z)
        rw [e] at q
        exact q
      | @lst a ys ds h1 h2 =>
        obtain rfl : u = Value.ref a := rv
        obtain ⟨as, rd⟩ := Dp.reads I _ _ _ (.lst h1 h2) (show RelV (.ref a) (.ref a) from rfl)
        exact repr_of_reads' rd hs.s (PyData.noDict_hsm hn) hg hd (fun _ _ e => e) (fun h' u tk hk => ⟨.str _, H, I.kept (t' := tk) hk, ⟨u, rfl⟩, q⟩) hs.l
      | @tup a ys ds h1 h2 =>
        obtain rfl : u = Value.ref a := rv
        obtain ⟨as, rd⟩ := Dp.reads I _ _ _ (.tup h1 h2) (show RelV (.ref a) (.ref a) from rfl)
        exact repr_of_reads' rd hs.s (PyData.noDict_hsm hn) hg hd (fun _ _ e => e) (fun h' u tk hk => ⟨.str _, H, I.kept (t' := tk) hk, ⟨u, rfl⟩, q⟩) hs.l
    · obtain rfl : u = Value.ref a := rv
      obtain ⟨rd, hne⟩ := dict_reads I ha
      exact repr_of_reads' rd hs.s (fun _ hm => hne (List.mem_singleton.mp hm).symm) hg hd (fun _ _ e => e) (fun h' u tk hk => ⟨.str _, H, I.kept (t' := tk) hk, ⟨u, rfl⟩, q⟩) hs.l
end
/-! ### the shapes are shown -/
theorem weight_int {n : Int} (h0 : 0 ≤ n) (h1 : n < 1000000) : PyData.weight (.int n) ≤ 20 := by
  simp only [PyData.weight]
  split
  · omega
  · rename_i hz
    have hne : n.natAbs ≠ 0 := fun z => hz (by have : n = 0 := by omega
                                               rw [this]; rfl)
    have : n.natAbs.log2 < 20 := (Nat.log2_lt hne).mpr (by omega)
    omega
theorem sh_int {n : Int} (h0 : 0 ≤ n) (h1 : n < 1000000) : PyData.showable (.int n) = true := by
  simp only [PyData.showable, decide_eq_true_eq]
  by_cases hz : n.natAbs = 0
  · rw [hz]
    decide
  · have : n.natAbs.log2 < 20 := (Nat.log2_lt hz).mpr (by omega)
    omega
theorem sh_of {d : PyData} (h1 : d.showable = true) (h2 : PyData.canLay0 d = true) (h3 : d.depth ≤ 5) (h4 : d.weight ≤ 1000) (h5 : d.intsShort 13 = true) : Sh d := by
  refine ⟨h1, ?_, h3⟩
  have hl : PyData.layable0 d = true := by
    unfold PyData.layable0
    rw [h2, decide_eq_true (show d.depth ≤ 64 by omega), decide_eq_true (show d.weight ≤ 2 ^ 20 by omega)]
    rfl
  exact Nat.le_trans (PyProof.Rows.shown_le13 hl h5) (by decide)
theorem sh_list {n : Int} (h0 : 0 ≤ n) (h1 : n < 100) : Sh (.list [.int n, .list [], .str "later"]) := by
  have w := weight_int h0 (by omega)
  refine sh_of ?_ (by simp only [PyData.canLay0, PyData.canLayAll0]; decide +kernel) (by simp only [PyData.depth, PyData.depthAll]; decide) ?_ ?_
  · simp only [PyData.showable, PyData.showableAll, Bool.and_true]
    exact sh_int h0 (by omega)
  · have e : PyData.weight (.list [.int n, .list [], .str "later"]) = PyData.weight (.int n) + 1 + (0 + 1 + (5 + 1 + 0)) := rfl
    rw [e]
    omega
  · have e : PyData.intsShort 13 (.list [.int n, .list [], .str "later"]) = (decide ((PyData.shown (.int n)).length ≤ 13) && true) := rfl
    rw [e, decide_eq_true (PyData.shown_int_le2 (by omega) (by omega))]
    rfl
theorem sh_tup {n : Int} (h0 : 0 ≤ n) (h1 : n < 1000000) : Sh (.tuple [.str "a", .tuple [.int n]]) := by
  have w := weight_int h0 (by omega)
  refine sh_of ?_ (by simp only [PyData.canLay0, PyData.canLayAll0]; decide +kernel) (by simp only [PyData.depth, PyData.depthAll]; decide) ?_ ?_
  · simp only [PyData.showable, PyData.showableAll, Bool.and_true, Bool.true_and]
    exact sh_int h0 (by omega)
  · have e : PyData.weight (.tuple [.str "a", .tuple [.int n]]) = 1 + 1 + ((PyData.weight (.int n) + 1 + 0) + 1 + 0) := rfl
    rw [e]
    omega
  · have e : PyData.intsShort 13 (.tuple [.str "a", .tuple [.int n]]) = (true && ((decide ((PyData.shown (.int n)).length ≤ 13) && true) && true)) := rfl
    rw [e, decide_eq_true (PyData.shown_int_le2 (by omega) (by omega))]
    rfl
theorem sh_dict : Sh dictD := ⟨by decide +kernel, by decide +kernel, by decide +kernel⟩
end Kb
set_option Elab.async false
set_option linter.all false
set_option maxRecDepth 100000
set_option maxHeartbeats 4000000
namespace Kb
open PySem PySem.Spec PyProof.Rows L2 Evl
section
variable {K : PySem.W.Frag} {σ : L2.St} {H H' : Hp} {te ta tb tl tm : TE} {tm' : TO} {v : V} {d e : PyData} {vs ys : List V} {ds es : List PyData} {a : Addr}
theorem ev_neDD (ha : EvD ta σ H (fun w H1 => Dp K H1 w d)) (hb : EvD tb σ H (fun w H1 => Dp K H1 w e)) (s1 : SeqAt.shaped d = true) (s2 : SeqAt.shaped e = true) : Ev (tOp (rNeA K) ta tb) σ H (.bl (!PyData.eqv d e)) := fun H1 x Q q =>
  ha H1 x _ fun w1 H2 x2 d1 => hb H2 (x.trans x2) _ fun w2 H3 x3 d2 => .inr ⟨d, e, Dp.ext x3 d1, d2, s1, s2, q H3 (x2.trans x3)⟩
theorem ev_eqDD (ha : EvD ta σ H (fun w H1 => Dp K H1 w d)) (hb : EvD tb σ H (fun w H1 => Dp K H1 w e)) (s1 : SeqAt.shaped d = true) (s2 : SeqAt.shaped e = true) : Ev (tOp (rEqA K) ta tb) σ H (.bl (PyData.eqv d e)) := fun H1 x Q q =>
  ha H1 x _ fun w1 H2 x2 d1 => hb H2 (x.trans x2) _ fun w2 H3 x3 d2 => .inr ⟨d, e, Dp.ext x3 d1, d2, s1, s2, q H3 (x2.trans x3)⟩
/-- t[:-1] -/
theorem evd_init (ha : Ev ta σ H (.ref a)) (hx : SqT K H a (ys ++ [v])) (hd : DpAll K H ys es) (hm : EvO tm' σ H (some (-1))) : EvD (tSl (rSl K) ta tNoPart tm') σ H (fun w H1 => Dp K H1 w (.tuple es)) := fun H1 x Q q =>
  ha H1 x _ fun H2 x2 => hm H2 (x.trans x2) _ fun H3 x3 => by
    have hlen : (ys ++ [v]).length = ys.length + 1 := by simp
    have e1 : HT.sIx (ys ++ [v]).length (ys ++ [v]).length (some (-1)) = ys.length := by
      rw [hlen]
      simp only [HT.sIx]
      rw [if_pos (by decide)]
      omega
    have ecut : cutV (ys ++ [v]) none (some (-1)) = ys := by
      unfold cutV
      rw [e1]
      show ((ys ++ [v]).drop 0).take (ys.length - 0) = ys
      simp
    refine .inr (.inl ⟨a, _, rfl, ex_t ((x.trans x2).trans x3) hx, fun z => ?_, fun _ p hp => ?_⟩)
    · rw [e1, hlen] at z
      omega
    · rw [ecut]
      exact q _ _ ((x2.trans x3).trans (Ex.new hp)) (.tup (st_of upd_same) (DpAll.ext (((x.trans x2).trans x3).trans (Ex.new hp)) hd))
theorem ev_last (ha : Ev ta σ H (.ref a)) (hx : SqT K H a (ys ++ [v])) (hm : Ev tm σ H (.int (-1))) : Ev (tOp (rIx K) ta tm) σ H v := by
  refine ev_op ha hm (rv_iT hx ?_)
  have hlen : (ys ++ [v]).length = ys.length + 1 := by simp
  unfold atI ixN
  rw [hlen, if_neg (by decide), if_pos (by omega)]
  show (ys ++ [v])[_]? = _
  have : ((-1 : Int) + ((ys.length + 1 : Nat) : Int)).toNat = ys.length := by omega
  first
    | (rw [this]; simp)
    | (simp; omega)
theorem ev_repr (hv : Ev te σ H v) (h : Dp K H v d) (hn : d.hasDict = false) (hs : Sh d) : Ev (tCB (rRepr K) (tCons te tNil)) σ H (.str d.shown) := fun H1 x Q q => hv H1 x _ fun H2 x2 => ⟨v, d, rfl, .inl ⟨Dp.ext (x.trans x2) h, hn⟩, hs, q H2 x2⟩
theorem ev_neg {i : Int} (h : Ev te σ H (.int i)) : Ev (tUn (rU fun i => .int (-i)) te) σ H (.int (-i)) := ev_un h ru_neg
/-- for x in l, any target -/
theorem q_forLg {tu tz : TS} {xs : List V} {g : TG} {D : Ends} (h : Ev tl σ H (.ref a)) (hx : SqL K H a xs) (Pv : Nat → L2.St → Hp → Prop) (h0 : ∀ H1, Ex H H1 → Pv 0 σ H1) (hl : ∀ i σ' H', i ≤ xs.length → Pv i σ' H' → SqL K H' a xs)
    (hs : ∀ i x σ' H', xs[i]? = some x → Pv i σ' H' → g x σ' H' fun σ2 H2 => tu { ({ D with nx := tz D } : Ends) with nx := Pv (i + 1), ct := Pv (i + 1), bk := tz D } σ2 H2) (hd : ∀ σ' H', Pv xs.length σ' H' → tz D σ' H') : tSeq (tFor (iSeq K tl) g tu) tz D σ H :=
  .inl (h H (Ex.refl H) _ fun H1 e => ⟨a, rfl, ⟨xs, ex_l e hx⟩, for_list (D := { D with nx := tz D }) Pv (h0 H1 e) hl hs hd⟩)
end
end Kb
set_option Elab.async false
set_option linter.all false
set_option maxRecDepth 100000
set_option maxHeartbeats 4000000
namespace Kb
open PySem PySem.Spec PyProof.Rows L2 Evl
def rListQ (K : PySem.W.Frag) : List V → Hp → VK → Prop := fun xs H Q => ∃ p ys, xs = [V.ref p] ∧ (SqL K H p ys ∨ SqT K H p ys) ∧ ∀ l, H l = none → Q (V.ref l) (upd H l (.lst ys))
def rListS : List V → Hp → VK → Prop := fun xs H Q => ∃ z : Str, xs = [V.str z] ∧ z.cps.size ≤ sizeLine ∧ ∀ l, H l = none → Q (V.ref l) (upd H l (.lst (z.cps.toList.map fun c => V.str ⟨#[c]⟩)))
theorem call_listS {X : Cx} (hc : X.calm = true) : CallR X (.type "list") rListS := by
  intro pins s σ H xs us Q I r h
  obtain ⟨z, rfl, hz, q⟩ := h
  obtain ⟨u, rfl, ru⟩ := vals1 r
  obtain ⟨t, rfl⟩ := ru
  refine call_list_str (I.ok.hd hc) z t (fun h' tk acc c' hk e hi => ?_) hz
  have hlen : (z.cps.toList.map fun c => V.str ⟨#[c]⟩).length = z.cps.size := by rw [List.length_map, Array.length_toList]
  refine ⟨.ref s.heap.objs.size, upd H s.heap.objs.size (.lst (z.cps.toList.map fun c => V.str ⟨#[c]⟩)), I.laid hk (Nat.le_refl _) ⟨by rw [hlen]; exact hz, acc.toList, c', ?_, by rw [Array.toArray_toList]; exact e⟩, rfl, q _ (I.hok.fresh (Nat.le_refl _))⟩
  refine vals_of_idx _ _ (by rw [hlen, Array.length_toList]; exact hi.1) fun j u hj => ?_
  obtain ⟨c, t', hc, rfl⟩ := hi.2 j u (by rw [← Array.getElem?_toList]; exact hj)
  exact ⟨.str ⟨#[c]⟩, by rw [List.getElem?_map, Array.getElem?_toList, hc]; rfl, ⟨_, rfl⟩⟩
def rListA (K : PySem.W.Frag) : List V → Hp → VK → Prop := fun xs H Q => rListQ K xs H Q ∨ rListS xs H Q
theorem callA_list {X : Cx} (hc : X.calm = true) : CallR X (.type "list") (rListA X.K) := CallR.or call_list_of (call_listS hc)
theorem el_listS {K : PySem.W.Frag} {σ : L2.St} {H : Hp} {ta : TE} {z : Str} (ha : Ev ta σ H (.str z)) (h : z.cps.size ≤ sizeLine) : EvL (tCB (rListA K) (tCons ta tNil)) σ H (z.cps.toList.map fun c => V.str ⟨#[c]⟩) := fun H1 e Q q =>
  ha H1 e _ fun H2 e2 => .inr ⟨z, rfl, h, fun l hl => q l _ (fresh_back e2 hl) (e2.trans (Ex.new hl)) upd_same⟩
section
variable {K : PySem.W.Frag} {σ : L2.St} {H H' : Hp} {te ta tb tl tm : TE} {v : V} {d e : PyData} {vs xs ys : List V} {ds es : List PyData} {a p : Addr} {tt : TT} {ws : List Nat}
theorem el_cat (ha : EvL ta σ H xs) (hb : EvL tb σ H ys) (hz : xs.length + ys.length ≤ 100000) : EvL (tOp (rAdd K) ta tb) σ H (xs ++ ys) := fun H1 e Q q =>
  ha H1 e _ fun l H2 hl e2 h2 => hb H2 (e.trans e2) _ fun m H3 hm e3 h3 => .inr (.inr (.inl ⟨l, m, xs, ys, rfl, rfl, e3 _ _ h2, h3, sz_of hz, fun r hr => q r _ (fresh_back (e2.trans e3) hr) ((e2.trans e3).trans (Ex.new hr)) upd_same⟩))
/-- a held list and a new one -/
theorem el_catH (ha : Ev ta σ H (.ref a)) (hx : H a = some (.lst xs)) (hb : EvL tb σ H ys) (hz : xs.length + ys.length ≤ 100000) : EvL (tOp (rAdd K) ta tb) σ H (xs ++ ys) := fun H1 e Q q =>
  ha H1 e _ fun H2 e2 => hb H2 (e.trans e2) _ fun m H3 hm e3 h3 => .inr (.inr (.inl ⟨a, m, xs, ys, rfl, rfl, e3 _ _ (e2 _ _ (e _ _ hx)), h3, sz_of hz, fun r hr => q r _ (fresh_back (e2.trans e3) hr) ((e2.trans e3).trans (Ex.new hr)) upd_same⟩))
theorem el_listT (ha : Ev ta σ H (.ref a)) (h : SqT K H a xs) : EvL (tCB (rListA K) (tCons ta tNil)) σ H xs := fun H1 e Q q =>
  ha H1 e _ fun H2 e2 => .inl ⟨a, xs, rfl, .inr (ex_t (e.trans e2) h), fun l hl => q l _ (fresh_back e2 hl) (e2.trans (Ex.new hl)) upd_same⟩
theorem el_listL (ha : Ev ta σ H (.ref a)) (h : SqL K H a xs) : EvL (tCB (rListA K) (tCons ta tNil)) σ H xs := fun H1 e Q q =>
  ha H1 e _ fun H2 e2 => .inl ⟨a, xs, rfl, .inl (ex_l (e.trans e2) h), fun l hl => q l _ (fresh_back e2 hl) (e2.trans (Ex.new hl)) upd_same⟩
/-- over a new list of pairs -/
theorem el_prtN {us : List (V × V)} {i1 i2 : Nat} (f : Nat → Bool) (g : Nat → V) (h : EvL tl σ H xs) (hd : Prt K H xs us ds) (hz : xs.length ≤ 40000)
    (hw : ∀ x y, wipe (((wipe σ ws).set i1 (some x)).set i2 (some y)) ws = wipe σ ws)
    (ht : ∀ (i : Nat) (u : V × V) H1, Ex H H1 → us[i]? = some u → EvT tt (((wipe σ ws).set i1 (some u.1)).set i2 (some u.2)) H1 (f i))
    (he : ∀ (i : Nat) (u : V × V) H1, Ex H H1 → us[i]? = some u → f i = true → Ev te (((wipe σ ws).set i1 (some u.1)).set i2 (some u.2)) H1 (g i)) :
    EvL (tLc (iSeq K tl) (gTup K 2 (gCons (gName i1) (gCons (gName i2) gNil))) tt te ws) σ H (given us.length f g) := by
  have up : ∀ {i : Nat} {x : V}, xs[i]? = some x → ∃ u, us[i]? = some u := fun {i x} hi => by
    have : i < us.length := by
      rw [← hd.len]
      exact (List.getElem?_eq_some_iff.mp hi).1
    exact ⟨_, List.getElem?_eq_getElem this⟩
  rw [← hd.len]
  refine el_lcN (fun i => ((wipe σ ws).set i1 (some (us.getD i (.non, .non)).1)).set i2 (some (us.getD i (.non, .non)).2)) f g h hz (fun i _ => hw _ _) (fun i x H1 e hi k q => ?_) (fun i x H1 e hi => ?_) (fun i x H1 e hi hf => ?_)
  · obtain ⟨u, hu⟩ := up hi
    obtain ⟨b, rfl, hb⟩ := hd.at_ i x u hi hu
    rw [getD_some hu] at q
    exact ⟨b, _, rfl, ex_t e hb, rfl, u.1, [u.2], rfl, u.2, [], rfl, rfl, q⟩
  · obtain ⟨u, hu⟩ := up hi
    rw [getD_some hu]
    exact ht i u H1 e hu
  · obtain ⟨u, hu⟩ := up hi
    rw [getD_some hu]
    exact he i u H1 e hu hf
/-- the second parts of those rows whose key is k -/
theorem given_key (kvs : List (Key × Int)) (t : Key → Bool) : given (kvs.map fun p => (kV p.1, V.int p.2)).length (fun i => t (kvs.getD i (.inl 0, 0)).1) (fun i => V.int (kvs.getD i (.inl 0, 0)).2) = (kvs.filter fun p => t p.1).map fun p => V.int p.2 := by
  rw [List.length_map]
  exact given_map kvs (.inl 0, 0) (fun p => t p.1) (fun p => V.int p.2)
theorem s_extend {l : Addr} {D : Ends} (hl : H l = some (.lst xs)) (ha : Ev ta σ H (.ref l)) (hb : EvL tb σ H ys) (hz : xs.length + ys.length ≤ 100000) (k : ∀ H1, Ex H H1 → D.nx σ (upd H1 l (.lst (xs ++ ys)))) : tDrop (tBM K "list" rExtend ta (tCons tb tNil)) D σ H :=
  ha H (Ex.refl H) _ fun H1 e1 => ⟨Or.inl ⟨rfl, xs, sq_of (e1 l _ hl)⟩, hb H1 e1 _ fun m H2 hm e2 h2 => ⟨l, m, xs, ys, rfl, rfl, e2 _ _ (e1 _ _ hl), h2, sz_of hz, k H2 (e1.trans e2)⟩⟩
theorem s_appG {l : Addr} {D : Ends} (ha : Ev ta σ H (.ref l)) (hl : SqL K H l xs) (h : ∀ H1, Ex H H1 → te σ H1 fun y H2 => ∃ ys, H2 l = some (.lst ys) ∧ ys.length < sizeLine ∧ D.nx σ (upd H2 l (.lst (ys ++ [y])))) : tDrop (tBM K "list" rAppend ta (tCons te tNil)) D σ H :=
  ha H (Ex.refl H) (fun x H1 => tyV K "list" x H1 ∧ tCons te tNil σ H1 fun vs H2 => rAppend x vs H2 fun _ H3 => D.nx σ H3) fun H1 e1 => ⟨Or.inl ⟨rfl, xs, ex_l e1 hl⟩, by
    have hh := h H1 e1
    have e : (fun y H2 => ∃ ys, H2 l = some (.lst ys) ∧ ys.length < sizeLine ∧ D.nx σ (upd H2 l (.lst (ys ++ [y])))) = (fun (y : V) (H2 : Hp) => rAppend (.ref l) [y] H2 fun _ H3 => D.nx σ H3) := by
      funext y H2
      apply propext
      constructor
      · rintro ⟨ys, a1, a2, a3⟩
        exact ⟨l, ys, y, rfl, rfl, a1, a2, a3⟩
      · rintro ⟨l', ys, y', e1, e2, a1, a2, a3⟩
        cases e1
        cases e2
        exact ⟨ys, a1, a2, a3⟩
    rw [e] at hh
    exact hh⟩
theorem t_pop {l : Addr} {Q : VK} (ha : Ev ta σ H (.ref l)) (hl : SqL K H l xs) (h : ∀ H1, Ex H H1 → te σ H1 fun v H2 => ∃ ys i k y, v = .int i ∧ H2 l = some (.lst ys) ∧ -(2 ^ 63) ≤ i ∧ i < 2 ^ 63 ∧ seqIndex? i ys.length = some k ∧ ys[k]? = some y ∧ Q y (upd H2 l (.lst (ys.eraseIdx k)))) : tBM K "list" rPopAt ta (tCons te tNil) σ H Q :=
  ha H (Ex.refl H) (fun x H1 => tyV K "list" x H1 ∧ tCons te tNil σ H1 fun vs H2 => rPopAt x vs H2 Q) fun H1 e1 => ⟨Or.inl ⟨rfl, xs, ex_l e1 hl⟩, by
    have hh := h H1 e1
    have e : (fun (v : V) (H2 : Hp) => ∃ ys i k y, v = .int i ∧ H2 l = some (.lst ys) ∧ -(2 ^ 63) ≤ i ∧ i < 2 ^ 63 ∧ seqIndex? i ys.length = some k ∧ ys[k]? = some y ∧ Q y (upd H2 l (.lst (ys.eraseIdx k)))) = (fun (v : V) (H2 : Hp) => rPopAt (.ref l) [v] H2 Q) := by
      funext v H2
      apply propext
      constructor
      · rintro ⟨ys, i, k, y, rfl, a1, a2, a3, a4, a5, a6⟩
        exact ⟨l, ys, i, k, y, rfl, rfl, a1, a2, a3, a4, a5, a6⟩
      · rintro ⟨l', ys, i, k, y, e1, e2, a1, a2, a3, a4, a5, a6⟩
        cases e1
        injection e2 with e2 _
        exact ⟨ys, i, k, y, e2, a1, a2, a3, a4, a5, a6⟩
    rw [e] at hh
    exact hh⟩
end
end Kb
set_option Elab.async false
set_option linter.all false
set_option maxRecDepth 100000
set_option maxHeartbeats 4000000
namespace Kb
open PySem PySem.Spec PyProof.Rows L2
/-! ### the pen: a dict of five texts -/
def penK (c : Addr) (a d n f : Int) : List (Key × V) := [(.inr "cells", .ref c), (.inr "at", .int a), (.inr "digits", .int d), (.inr "count", .int n), (.inr "fold", .int f)]
section
variable {c : Addr} {a d n f x : Int}
theorem pk_cells : valV (penK c a d n f) (Sum.inr "cells") = some (.ref c) := by rfl
theorem pk_at : valV (penK c a d n f) (Sum.inr "at") = some (.int a) := by rfl
theorem pk_digits : valV (penK c a d n f) (Sum.inr "digits") = some (.int d) := by rfl
theorem pk_count : valV (penK c a d n f) (Sum.inr "count") = some (.int n) := by rfl
theorem pk_fold : valV (penK c a d n f) (Sum.inr "fold") = some (.int f) := by rfl
theorem pp_at : putK (penK c a d n f) (Sum.inr "at") (.int x) = penK c x d n f := by rfl
theorem pp_digits : putK (penK c a d n f) (Sum.inr "digits") (.int x) = penK c a x n f := by rfl
theorem pp_count : putK (penK c a d n f) (Sum.inr "count") (.int x) = penK c a d x f := by rfl
theorem pp_fold : putK (penK c a d n f) (Sum.inr "fold") (.int x) = penK c a d n x := by rfl
end

/-! ### exact readings -/
section
variable {D : Ends} {σ : L2.St} {H : Hp} {td ty tv te ta tb : TE} {p : Addr} {k : Str} {v x y z : V} {kvs : List (Key × V)} {i j : Int}
theorem val_dget (h1 : Val td σ H (.ref p)) (h2 : Val ty σ H (.str k)) (e : H p = some (.dK kvs)) (l : valV kvs (.inr k) = some v) : Val (tDGet td ty) σ H v := fun Q q =>
  h1 _ (h2 _ ⟨p, v, rfl, by have z := DGet.k (k := .inr k) e; rw [l] at z; exact z, q⟩)
theorem st_dput (hv : Val tv σ H v) (h1 : Val td σ H (.ref p)) (h2 : Val ty σ H (.str k)) (e : H p = some (.dK kvs)) (hl : kvs.length < sizeLine) (q : D.nx σ (upd H p (.dK (putK kvs (.inr k) v)))) : sDPut td ty tv D σ H :=
  hv _ (h1 _ (h2 _ ⟨p, _, rfl, DPut.k (k := .inr k) e hl, q⟩))
def rInt1 : List V → Hp → VK → Prop := fun xs H Q => (∃ i, xs = [.int i] ∧ Q (.int i) H) ∨ ∃ k, xs = [.bl k] ∧ Q (.int (if k then 1 else 0)) H
theorem call_int1' {X : Cx} : CallR X (.type "int") rInt1 := call_int1
theorem val_int (h : Val te σ H (.int i)) : Val (tCB rInt1 (tCons te tNil)) σ H (.int i) := fun Q q => h _ (.inl ⟨i, rfl, q⟩)
theorem val_I0 {g : Int → Int → V} (ha : Val ta σ H (.int i)) (hb : Val tb σ H (.int j)) : Val (tOp (rI0 g) ta tb) σ H (g i j) := val_op ha hb fun _ q => ⟨i, j, rfl, rfl, q⟩
theorem val_I {C : Int → Int → Prop} {g : Int → Int → V} (ha : Val ta σ H (.int i)) (hb : Val tb σ H (.int j)) (hc : C i j) : Val (tOp (rI C g) ta tb) σ H (g i j) := val_op ha hb fun _ q => ⟨i, j, rfl, rfl, hc, q⟩
theorem ans_I0 {g : Int → Int → Bool} {b : Bool} (ha : Val ta σ H (.int i)) (hb : Val tb σ H (.int j)) (e : g i j = b) : Ans (tTest (tOp (rI0 fun i j => .bl (g i j)) ta tb)) σ H b := ans_cmp ha hb fun Q q => ⟨i, j, rfl, rfl, by show Q (.bl (g i j)) H; rw [e]; exact q⟩
theorem val_ixL {K : PySem.W.Frag} {xs : List V} (ha : Val ta σ H (.ref p)) (hb : Val tb σ H (.int i)) (h : SqL K H p xs) (e : atI xs i = some v) : Val (tOp (rIxL K) ta tb) σ H v := val_op ha hb fun _ q => ⟨p, xs, i, v, rfl, rfl, h, e, q⟩
def rLenS (K : PySem.W.Frag) : List V → Hp → VK → Prop := fun xs H Q => ∃ p ys, xs = [.ref p] ∧ (SqL K H p ys ∨ SqT K H p ys) ∧ Q (.int ys.length) H
theorem call_lenS {X : Cx} : CallR X (.builtin "len") (rLenS X.K) := call_len_seq
theorem val_len {K : PySem.W.Frag} {xs : List V} (ha : Val ta σ H (.ref p)) (h : SqL K H p xs) : Val (tCB (rLenS K) (tCons ta tNil)) σ H (.int xs.length) := fun Q q => ha _ ⟨p, xs, rfl, .inl h, q⟩
end
/-! ### promises -/
structure PenOk (H : Hp) (p c : Addr) (cs : List Int) (a d n f : Int) : Prop where
  at_ : H p = some (.dK (penK c a d n f))
  cells : H c = some (.lst (cs.map V.int))
  len : cs.length ≤ 63
  a0 : 0 ≤ a
  d0 : 0 ≤ d
  n0 : 0 ≤ n
  f0 : 0 ≤ f ∧ f < 2147483647
def Pen (H : Hp) (p : Addr × Addr) : Prop := ∃ cs a d n f, PenOk H p.1 p.2 cs a d n f
theorem PenOk.ne {H : Hp} {p c : Addr} {cs : List Int} {a d n f : Int} (h : PenOk H p c cs a d n f) : c ≠ p := ne_of h.cells h.at_ (fun z => nomatch z)
/-- the pen's dict is written -/
theorem PenOk.put {H : Hp} {p c : Addr} {cs : List Int} {a d n f a' d' n' f' : Int} (h : PenOk H p c cs a d n f) (ha : 0 ≤ a') (hd : 0 ≤ d') (hn : 0 ≤ n') (hf : 0 ≤ f' ∧ f' < 2147483647) : PenOk (upd H p (.dK (penK c a' d' n' f'))) p c cs a' d' n' f' :=
  ⟨upd_same, by rw [upd_ne h.ne]; exact h.cells, h.len, ha, hd, hn, hf⟩
theorem Pen.same {H H' : Hp} {p : Addr × Addr} (h : Pen H p) (e : Same H H') : Pen H' p := by
  obtain ⟨cs, a, d, n, f, h⟩ := h
  exact ⟨cs, a, d, n, f, e _ _ h.at_, e _ _ h.cells, h.len, h.a0, h.d0, h.n0, h.f0⟩
/-- all that was tracked but at p is as it was -/
def SameBut (p : Addr) (H H' : Hp) : Prop := ∀ b o, b ≠ p → H b = some o → H' b = some o
def spPen (K : PySem.W.Frag) : Sp := fun vs H Q _ => ∃ (a : Addr) (ns : List Int), vs = [.ref a] ∧ SqL K H a (ns.map V.int) ∧ ns.length ≤ 63 ∧ ∀ (p : Addr × Addr) H', H p.1 = none → H p.2 = none → Same H H' → Pen H' p → Q (.ref p.1) H'
def spDraw : Sp := fun vs H Q _ => ∃ (p : Addr × Addr) (m : Int), vs = [.ref p.1, .int m] ∧ 0 < m ∧ m < 1073741824 ∧ Pen H p ∧ ∀ (r : Int) (o : HO), 0 ≤ r → r < m → Pen (upd H p.1 o) p → Q (.int r) (upd H p.1 o)
section
variable {P : Program} {w : World} {K : PySem.W.Frag} {mg : Str → Option Value} {base : Heap} {f fD : Addr} {fd fdD : FuncData} {CX : CXT}
def Hh (H : Hp) (p c : Addr) (a d n f : Int) : Hp := upd H p (.dK (penK c a d n f))
theorem st_pput {D : Ends} {σ : L2.St} {H : Hp} {p c : Addr} {a d n f a' d' n' f' : Int} {tv : TE} {k : Str} {v : V} (hv : Val tv σ (Hh H p c a d n f) v) (h1 : σ[0]? = some (some (.ref p))) (e : putK (penK c a d n f) (.inr k) v = penK c a' d' n' f')
    (q : D.nx σ (Hh H p c a' d' n' f')) : sDPut (tVar 0) (tC (.str k)) tv D σ (Hh H p c a d n f) :=
  st_dput hv (val_var h1) val_c upd_same (show 5 < sizeLine by decide) (by rw [e]; unfold Hh; rw [upd_upd]; exact q)
theorem ok_pen (F : Fun K "_law_pen" "_law_pen" s__law_pen f fd) (gI : mg "int" = none) (gL : mg "list" = none) : FnOk P w K mg base CX0 1 f fd ["script"] (spPen K) := by
  refine F.ok sc__law_pen (fun vs H Q E h => ?_) (fun cdv A outer s H vs Q E hr h => ⟨_, pss_cons (ps_set (i := 1) sc__law_pen.nd rfl (.inl rfl) pe_int)
    (pss_cons (ps_for PassesOwn.never rfl (pi_list (pv 0)) (pg_name (i := 2) sc__law_pen.nd rfl (.inl rfl))
      (pss_one (ps_set (i := 1) sc__law_pen.nd rfl (.inl rfl) (pe_op op_mod (pe_callTy call_int1' rfl gI (by decide +kernel) (pa_cons (pe_op op_add (pe_op op_mul (pv 1) pe_int) (pv 2)) pa_nil)) pe_int))))
    (pss_one (ps_ret (pe_disp (pps_cons pe_str (pe_callTy call_list_of rfl gL (by decide +kernel) (pa_cons (pv 0) pa_nil)) (pps_cons pe_str pe_int (pps_cons pe_str pe_int (pps_cons pe_str pe_int (pps_cons pe_str (pv 1) pps_nil))))) rfl rfl (by decide) (by decide))))), ?_⟩)
  · obtain ⟨a, ns, rfl, _⟩ := h
    rfl
  obtain ⟨a, ns, rfl, hS, hl, hQ⟩ := h
  refine Evl.q_asg (v := .int 0) Evl.ev_c fun H1 e1 => ?_
  refine Evl.q_forLn (a := a) (xs := ns.map V.int) (Evl.ev_var rfl) (Evl.ex_l e1 hS) (fun _ σ' H' => Evl.Ex H H' ∧ ∃ (fold : Int) (o : Option V), (0 ≤ fold ∧ fold < 2147483647) ∧ σ' = [some (.ref a), some (.int fold), o])
    (fun H2 e2 => ⟨e1.trans e2, 0, none, by decide, rfl⟩) (fun i σ' H' _ h => Evl.ex_l h.1 hS) (fun i x σ' H' hx hp => ?_) (fun σ' H' hp => ?_)
  · obtain ⟨e2, fold, o, hf, rfl⟩ := hp
    rw [List.getElem?_map] at hx
    obtain ⟨n, _, rfl⟩ := Option.map_eq_some_iff.mp hx
    refine Evl.s_asg (v := .int ((fold * 47 + n) % 1000000007)) (Evl.ev_op (Evl.ev_cb (Evl.ea_cons (Evl.ev_op (Evl.ev_op (Evl.ev_var rfl) Evl.ev_c (Evl.rv_I (Or.inr (by decide)))) (Evl.ev_var rfl) Evl.rv_I0) Evl.ea_nil) fun H3 _ Q q => Or.inl ⟨_, rfl, q H3 (Evl.Ex.refl _)⟩) Evl.ev_c (Evl.rv_I (by show (0 : Int) < 1000000007; decide))) fun H3 e3 => ?_
    exact ⟨e2.trans e3, _, _, ⟨Int.emod_nonneg _ (by decide), Int.lt_trans (Int.emod_lt_of_pos _ (by decide)) (by decide)⟩, rfl⟩
  · obtain ⟨e2, fold, o, hf, rfl⟩ := hp
    intro p hp
    refine ⟨_, rfl, a, ns.map V.int, rfl, .inl (Evl.ex_l (e2.trans (Evl.Ex.new hp)) hS), fun l hl2 => ?_⟩
    have lp : l ≠ p := fun z => by rw [z, upd_same] at hl2; cases hl2
    refine ⟨_, rfl, ?_⟩
    have em : mergeK [] (penK l 0 0 0 fold) = penK l 0 0 0 fold := rfl
    have hlH : H' l = none := by rw [upd_ne lp] at hl2; exact hl2
    refine ⟨by rw [upd_ne (Ne.symm lp)]; exact upd_same, penK l 0 0 0 fold, rfl, by show 5 ≤ 15; decide, hQ (p, l) _ (Evl.fresh_back e2 hp) (Evl.fresh_back e2 hlH) (fun b o hb => ?_) ?_⟩
    · have h1 := e2 b o hb
      rw [upd_ne (ne_of_none h1 hp), upd_ne (ne_of_none h1 hlH), upd_ne (ne_of_none h1 hp)]
      exact h1
    · rw [em]
      exact ⟨ns, 0, 0, 0, fold, upd_same, by rw [upd_ne lp]; exact upd_same, hl, by decide, by decide, by decide, hf⟩
theorem ok_draw (F : Fun K "_law_draw" "_law_draw" s__law_draw f fd) (gI : mg "int" = none) (gL : mg "len" = none) : FnOk P w K mg base CX0 1 f fd ["pen", "many"] spDraw := by
  refine F.ok sc__law_draw (fun vs H Q E h => ?_) (fun cdv A outer s H vs Q E hr h => ?_)
  · obtain ⟨p, m, rfl, _⟩ := h
    rfl
  have hu := hu_of hr
  refine ⟨_, pss_cons (ps_dput hu (pv 0) pe_str (pe_op op_add (pe_dget hu (pv 0) pe_str (fun _ _ => rfl)) pe_int) rfl)
    (C8.pss_cut (ps_if (PW.pt (pw_and (pt_cmpR op_eq (pe_dget hu (pv 0) pe_str (fun _ _ => rfl)) pe_int (nomark _)) (pw_and1 (pt_cmpR op_lt (pe_dget hu (pv 0) pe_str (fun _ _ => rfl)) (pe_callB call_lenS rfl gL boot_len (pa_cons (pe_dget hu (pv 0) pe_str (fun _ _ => rfl)) pa_nil)) (nomark _)))))
      (pss_cons (ps_set (i := 2) sc__law_draw.nd rfl (.inl rfl) (pe_ix ix_list (pe_dget hu (pv 0) pe_str (fun _ _ => rfl)) (pe_dget hu (pv 0) pe_str (fun _ _ => rfl)) (fun _ _ => rfl)))
        (pss_cons (ps_dput hu (pv 0) pe_str (pe_op op_add (pe_dget hu (pv 0) pe_str (fun _ _ => rfl)) pe_int) rfl)
        (pss_one (ps_if (pt_cmpR op_ge (pv 2) (pe_op op_pow pe_int pe_int) (nomark _))
          (pss_one (ps_dput hu (pv 0) pe_str (pe_op op_sub (pv 2) (pe_op op_pow pe_int pe_int)) rfl))
          (pss_one (ps_dput hu (pv 0) pe_str (pe_op op_mod (pe_callTy call_int1' rfl gI (by decide +kernel) (pa_cons (pe_op op_add (pe_op op_mul (pe_dget hu (pv 0) pe_str (fun _ _ => rfl)) pe_int) (pv 2)) pa_nil)) pe_int) rfl))))))
      pss_nil)
    (pss_cons (ps_if (pt_cmpR op_gt (pe_dget hu (pv 0) pe_str (fun _ _ => rfl)) pe_int (nomark _))
      (pss_cons (ps_set (i := 3) sc__law_draw.nd rfl (.inl rfl) (pe_op op_mod (pe_callTy call_int1' rfl gI (by decide +kernel) (pa_cons (pe_dget hu (pv 0) pe_str (fun _ _ => rfl)) pa_nil)) (pv 1)))
        (pss_cons (ps_dput hu (pv 0) pe_str (pe_op op_fdiv (pe_dget hu (pv 0) pe_str (fun _ _ => rfl)) (pv 1)) rfl)
        (pss_one (ps_ret (pv 3)))))
      pss_nil)
    (pss_cons (ps_set (i := 4) sc__law_draw.nd rfl (.inl rfl) (pe_op op_mod (pe_callTy call_int1' rfl gI (by decide +kernel) (pa_cons (pe_op op_add (pe_op op_add (pe_op op_mul (pe_dget hu (pv 0) pe_str (fun _ _ => rfl)) pe_int) (pe_op op_mul (pe_dget hu (pv 0) pe_str (fun _ _ => rfl)) pe_int)) pe_int) pa_nil)) pe_int))
    (pss_cons (ps_set (i := 4) sc__law_draw.nd rfl (.inl rfl) (pe_op op_mod (pe_callTy call_int1' rfl gI (by decide +kernel) (pa_cons (pe_op op_add (pe_op op_add (pe_op op_mul (pv 4) (pv 4)) (pe_op op_mul pe_int (pv 4))) (pe_dget hu (pv 0) pe_str (fun _ _ => rfl))) pa_nil)) pe_int))
    (pss_cons (ps_dput hu (pv 0) pe_str (pe_op op_mod (pe_callTy call_int1' rfl gI (by decide +kernel) (pa_cons (pe_op op_add (pe_op op_mul (pv 4) pe_int) pe_int) pa_nil)) pe_int) rfl)
    (pss_one (ps_ret (pe_op op_mod (pe_callTy call_int1' rfl gI (by decide +kernel) (pa_cons (pe_op op_fdiv (pv 4) pe_int) pa_nil)) (pv 1))))))))), ?_⟩
  obtain ⟨⟨p, c⟩, m, rfl, m0, m1, ⟨cs, a, d, n, f, hp⟩, hQ⟩ := h
  dsimp only at hp hQ ⊢
  have hcp := hp.ne
  have hG : ∀ a d n f, Hh H p c a d n f p = some (.dK (penK c a d n f)) := fun _ _ _ _ => upd_same
  have hC : ∀ a d n f, Hh H p c a d n f c = some (.lst (cs.map V.int)) := fun a d n f => by unfold Hh; rw [upd_ne hcp]; exact hp.cells
  refine st_seq (st_dput (p := p) (kvs := penK c a d n f) (v := .int (n + 1)) (k := "count") (val_I0 (val_dget (val_var rfl) val_c hp.at_ pk_count) val_c) (val_var rfl) val_c hp.at_ (show 5 < sizeLine by decide) ?_)
  rw [pp_count]
  show C8.tCut _ _ _ [some (V.ref p), some (V.int m), none, none, none] (Hh H p c a d (n + 1) f)
  refine ⟨fun σ' H' => ∃ (o2 : Option V) (a d f : Int), 0 ≤ a ∧ 0 ≤ d ∧ (0 ≤ f ∧ f < 2147483647) ∧ σ' = [some (V.ref p), some (V.int m), o2, none, none] ∧ H' = Hh H p c a d (n + 1) f, ?_, ?_⟩
  · by_cases hd : d = 0
    · by_cases ha : a < cs.length
      · have hlen : (cs.map V.int).length = cs.length := List.length_map ..
        obtain ⟨x, hx⟩ : ∃ x, cs[a.toNat]? = some x := by
          refine ⟨cs[a.toNat]'(by have := hp.a0; omega), List.getElem?_eq_getElem _⟩
        have hat : atI (cs.map V.int) a = some (.int x) := by
          have e : ((a.toNat : Nat) : Int) = a := Int.toNat_of_nonneg hp.a0
          rw [← e]
          exact atI_nat (by rw [List.getElem?_map, hx]; rfl)
        refine st_yes (ans_and (ans_eq (x := .int d) (y := .int 0) (val_dget (val_var rfl) val_c (hG ..) pk_digits) val_c rfl (by rw [hd]; rfl))
          (ans_I0 (i := a) (j := (cs.length : Int)) (val_dget (val_var rfl) val_c (hG ..) pk_at) (by rw [← hlen]; exact val_len (val_dget (val_var rfl) val_c (hG ..) pk_cells) (SqL.of (hC ..))) (decide_eq_true ha))) ?_
        refine st_seq (st_set (v := .int x) (val_ixL (val_dget (val_var rfl) val_c (hG ..) pk_cells) (val_dget (val_var rfl) val_c (hG ..) pk_at) (SqL.of (hC ..)) hat) ?_)
        refine st_seq (st_pput (k := "at") (val_I0 (val_dget (val_var rfl) val_c (hG ..) pk_at) val_c) rfl pp_at ?_)
        have hpow : Val (tOp (rI CPow fun i j => .int (i ^ j.toNat)) (tC (.int 10)) (tC (.int 18))) [some (V.ref p), some (V.int m), some (V.int x), none, none] (Hh H p c (a + 1) d (n + 1) f) (.int (10 ^ 18)) := val_I (i := 10) (j := 18) val_c val_c (by unfold CPow; decide)
        by_cases hb : (10 : Int) ^ 18 ≤ x
        · refine st_yes (ans_I0 (i := x) (j := 10 ^ 18) (val_var rfl) hpow (decide_eq_true hb)) ?_
          refine st_pput (k := "digits") (val_I0 (i := x) (j := 10 ^ 18) (val_var rfl) hpow) rfl pp_digits ?_
          exact ⟨_, _, _, _, by have := hp.a0; omega, by omega, hp.f0, rfl, rfl⟩
        · refine st_no (ans_I0 (i := x) (j := 10 ^ 18) (val_var rfl) hpow (decide_eq_false hb)) ?_
          refine st_pput (k := "fold") (val_I (val_int (val_I0 (val_I (val_dget (val_var rfl) val_c (hG ..) pk_fold) val_c (Or.inr (by decide))) (val_var rfl))) val_c (by show (0 : Int) < 2147483587; decide)) rfl pp_fold ?_
          exact ⟨_, _, _, _, by have := hp.a0; omega, hp.d0, ⟨Int.emod_nonneg _ (by decide), Int.lt_trans (Int.emod_lt_of_pos _ (by decide)) (by decide)⟩, rfl, rfl⟩
      · refine st_no (ans_and (ans_eq (x := .int d) (y := .int 0) (val_dget (val_var rfl) val_c (hG ..) pk_digits) val_c rfl (by rw [hd]; rfl))
          (ans_I0 (i := a) (j := (cs.length : Int)) (val_dget (val_var rfl) val_c (hG ..) pk_at) (by rw [← (List.length_map (as := cs) V.int)]; exact val_len (val_dget (val_var rfl) val_c (hG ..) pk_cells) (SqL.of (hC ..))) (decide_eq_false ha))) ?_
        exact ⟨_, _, _, _, hp.a0, hp.d0, hp.f0, rfl, rfl⟩
    · refine st_no (ans_and0 (ans_eq (x := .int d) (y := .int 0) (val_dget (val_var rfl) val_c (hG ..) pk_digits) val_c rfl (decide_eq_false fun z => hd (V.int.inj z)))) ?_
      exact ⟨_, _, _, _, hp.a0, hp.d0, hp.f0, rfl, rfl⟩
  · rintro σ' H' ⟨o2, a, d, f, ha, hd, hf, rfl, rfl⟩
    have hn : 0 ≤ n + 1 := by have := hp.n0; omega
    have end_ : ∀ (r a d n f : Int), 0 ≤ r → r < m → 0 ≤ a → 0 ≤ d → 0 ≤ n → (0 ≤ f ∧ f < 2147483647) → Q (.int r) (Hh H p c a d n f) := fun r a d n f h1 h2 h3 h4 h5 h6 => hQ r _ h1 h2 ⟨cs, a, d, n, f, hp.put h3 h4 h5 h6⟩
    by_cases hd0 : 0 < d
    · refine st_seq (st_yes (ans_I0 (i := d) (j := 0) (val_dget (val_var rfl) val_c (hG ..) pk_digits) val_c (decide_eq_true hd0)) ?_)
      refine st_seq (st_set (val_I (val_int (val_dget (val_var rfl) val_c (hG ..) pk_digits)) (val_var rfl) m0) ?_)
      refine st_seq (st_pput (k := "digits") (val_I (val_dget (val_var rfl) val_c (hG ..) pk_digits) (val_var rfl) ⟨m0, m1⟩) rfl pp_digits ?_)
      exact st_ret (val_var rfl) (end_ _ _ _ _ _ (Int.emod_nonneg _ (by omega)) (Int.emod_lt_of_pos _ m0) ha (Int.ediv_nonneg hd (by omega)) hn hf)
    · refine st_seq (st_no (ans_I0 (i := d) (j := 0) (val_dget (val_var rfl) val_c (hG ..) pk_digits) val_c (decide_eq_false hd0)) (st_next ?_))
      dsimp only
      have b1 : ∀ x : Int, 0 ≤ x % 2147483647 ∧ x % 2147483647 < 2147483647 := fun x => ⟨Int.emod_nonneg _ (by decide), Int.emod_lt_of_pos _ (by decide)⟩
      have b2 : ∀ x : Int, 0 ≤ x % 2147483629 ∧ x % 2147483629 < 2147483629 := fun x => ⟨Int.emod_nonneg _ (by decide), Int.emod_lt_of_pos _ (by decide)⟩
      refine st_seq (st_set (v := .int ((f * 48271 + (n + 1) * 7919 + 13) % 2147483647)) (val_I (val_int (val_I0 (val_I0 (val_I (val_dget (val_var rfl) val_c (hG ..) pk_fold) val_c (Or.inr (by decide))) (val_I (val_dget (val_var rfl) val_c (hG ..) pk_count) val_c (Or.inr (by decide)))) val_c)) val_c (by show (0 : Int) < 2147483647; decide)) ?_)
      dsimp only
      generalize hx : (f * 48271 + (n + 1) * 7919 + 13) % 2147483647 = x
      have bx := b1 (f * 48271 + (n + 1) * 7919 + 13)
      rw [hx] at bx
      refine st_seq (st_set (v := .int ((x * x + 31 * x + (n + 1)) % 2147483629)) (val_I (val_int (val_I0 (val_I0 (val_I (val_var rfl) (val_var rfl) (Or.inl ⟨by omega, by omega⟩)) (val_I val_c (val_var rfl) (Or.inl (by decide)))) (val_dget (val_var rfl) val_c (hG ..) pk_count))) val_c (by show (0 : Int) < 2147483629; decide)) ?_)
      dsimp only
      generalize hy : (x * x + 31 * x + (n + 1)) % 2147483629 = y
      have bY := b2 (x * x + 31 * x + (n + 1))
      rw [hy] at bY
      refine st_seq (st_pput (k := "fold") (val_I (val_int (val_I0 (val_I (val_var rfl) val_c (Or.inr (by decide))) val_c)) val_c (by show (0 : Int) < 2147483647; decide)) rfl pp_fold ?_)
      dsimp only
      exact st_ret (v := .int (y / 64 % m)) (val_I (val_int (val_I (val_var rfl) val_c ⟨by decide, by decide⟩)) (val_var rfl) m0) (end_ _ _ _ _ _ (Int.emod_nonneg _ (by omega)) (Int.emod_lt_of_pos _ m0) ha hd hn (b1 _))
end

theorem sqL_upd {K : PySem.W.Frag} {H : Hp} {l p : Addr} {xs : List V} {kvs : List (Key × V)} {o : HO} (h : SqL K H l xs) (hp : H p = some (.dK kvs)) : SqL K (upd H p o) l xs := by
  rcases h with (h | ⟨ob, h⟩) | h
  · exact .inl (.inl (by rw [upd_ne (ne_of h hp (fun z => nomatch z))]; exact h))
  · exact .inl (.inr ⟨ob, by rw [upd_ne (ne_of h hp (fun z => nomatch z))]; exact h⟩)
  · exact .inr h
theorem Pen.get {H : Hp} {p : Addr × Addr} (h : Pen H p) : ∃ kvs, H p.1 = some (.dK kvs) := by
  obtain ⟨cs, a, d, n, f, h⟩ := h
  exact ⟨_, h.at_⟩
def spPick (K : PySem.W.Frag) : Sp := fun vs H Q _ => ∃ (p : Addr × Addr) (l : Addr) (xs : List V), vs = [.ref p.1, .ref l] ∧ Pen H p ∧ SqL K H l xs ∧ 0 < xs.length ∧ xs.length < 1073741824 ∧ ∀ (v : V) (o : HO), v ∈ xs → Pen (upd H p.1 o) p → Q v (upd H p.1 o)
theorem SameBut.upd {H : Hp} (p : Addr) (o : HO) : SameBut p H (upd H p o) := fun b u ne e => by rw [upd_ne ne]; exact e
theorem SameBut.trans {H H1 H2 : Hp} {p : Addr} (a : SameBut p H H1) (b : SameBut p H1 H2) : SameBut p H H2 := fun c o ne e => b c o ne (a c o ne e)
theorem SameBut.new {H H1 : Hp} {p b : Addr} {o : HO} (a : SameBut p H H1) (h : H1 b = none) : SameBut p H (L2.upd H1 b o) := fun c u ne e => by
  have z := a c u ne e
  rw [upd_ne (ne_of_none z h)]
  exact z
theorem Pen.new {H : Hp} {p : Addr × Addr} {b : Addr} {o : HO} (h : Pen H p) (hb : H b = none) : Pen (L2.upd H b o) p := h.same fun c u e => by
  rw [upd_ne (ne_of_none e hb)]
  exact e
theorem Pen.put {H H1 : Hp} {p : Addr × Addr} {b : Addr} {o : HO} (h0 : Pen H p) (h : Pen H1 p) (hb : H b = none) : Pen (L2.upd H1 b o) p := by
  obtain ⟨cs0, a0, d0, n0, f0, g⟩ := h0
  obtain ⟨cs, a, d, n, f, h⟩ := h
  exact ⟨cs, a, d, n, f, by rw [upd_ne (ne_of_none g.at_ hb)]; exact h.at_, by rw [upd_ne (ne_of_none g.cells hb)]; exact h.cells, h.len, h.a0, h.d0, h.n0, h.f0⟩
section
variable {P : Program} {w : World} {K : PySem.W.Frag} {mg : Str → Option Value} {base : Heap} {f fD fP : Addr} {fd fdD fdP : FuncData}
theorem ok_pick (F : Fun K "_law_pick" "_law_pick" s__law_pick f fd) (GD : FnOk P w K mg base CX0 1 fD fdD ["pen", "many"] spDraw) (bD : Binds K fdD ["pen", "many"] []) (kD : PySem.W.keepIn K (.ref fD) = true) (gD : mg "_law_draw" = some (.ref fD)) (gL : mg "len" = none) :
    FnOk P w K mg base CX0 2 f fd ["pen", "some"] (spPick K) := by
  refine F.ok sc__law_pick (fun vs H Q E h => ?_) (fun cdv A outer s H vs Q E hr h => ⟨_, pss_one (ps_ret (pe_ix ix_list (pv 1) (pe_call GD hr rfl gD kD bD .nil pass0 (pa_cons (pv 0) (pa_cons (pe_callB call_lenS rfl gL boot_len (pa_cons (pv 1) pa_nil)) pa_nil))) (fun _ _ => rfl))), ?_⟩)
  · obtain ⟨p, l, xs, rfl, _⟩ := h
    rfl
  obtain ⟨p, l, xs, rfl, hp, hl, h0, h1, hQ⟩ := h
  refine ⟨_, rfl, _, rfl, _, rfl, l, xs, rfl, .inl hl, p, (xs.length : Int), rfl, by omega, by omega, hp, fun r o r0 r1 hp' => ?_⟩
  obtain ⟨kvs, hk⟩ := hp.get
  have hr2 : r.toNat < xs.length := by omega
  have er : ((r.toNat : Nat) : Int) = r := Int.toNat_of_nonneg r0
  refine ⟨l, xs, r, xs[r.toNat], rfl, rfl, sqL_upd hl hk, ?_, hQ _ o (List.getElem_mem _) hp'⟩
  have z := atI_nat (xs := xs) (j := r.toNat) (List.getElem?_eq_getElem hr2)
  rw [er] at z
  exact z
end
theorem Df.of {P : Program} {w : World} {K : PySem.W.Frag} {mg : Str → Option Value} {base : Heap} {CX : CXT} {x : Str} {st : Stmt} {ps : List Str} {k : Nat} {sp : Sp} (D : Df K mg x st ps) (h : ∀ f fd, Fun K x x st f fd → FnOk P w K mg base CX k f fd ps sp) : Gv P w K mg base CX k x ps sp := by
  obtain ⟨f, fd, F, b, kp, g⟩ := D.ex
  exact ⟨f, fd, h f fd F, b, kp, g⟩
section
variable {P : Program} {w : World} {K : PySem.W.Frag} {mg : Str → Option Value} {base : Heap}
theorem gv_pen (B : Bi mg) (D : Df K mg "_law_pen" s__law_pen ["script"]) : Gv P w K mg base CX0 1 "_law_pen" ["script"] (spPen K) := D.of fun f fd F => ok_pen F B.int B.list
theorem gv_draw (B : Bi mg) (D : Df K mg "_law_draw" s__law_draw ["pen", "many"]) : Gv P w K mg base CX0 1 "_law_draw" ["pen", "many"] spDraw := D.of fun f fd F => ok_draw F B.int B.len
theorem gv_pick (B : Bi mg) (G : Gv P w K mg base CX0 1 "_law_draw" ["pen", "many"] spDraw) (D : Df K mg "_law_pick" s__law_pick ["pen", "some"]) : Gv P w K mg base CX0 2 "_law_pick" ["pen", "some"] (spPick K) := by
  obtain ⟨f, fd, F, b, kp, g⟩ := G.ex
  exact D.of fun f2 fd2 F2 => ok_pick F2 F b kp g B.len
end
end Kb
set_option Elab.async false
set_option linter.all false
set_option maxRecDepth 100000
set_option maxHeartbeats 4000000
namespace Kb
open PySem PySem.Spec PyProof.Rows L2 Evl
/-! ### readings of what draws: all stays but the pen at p, which stays a pen -/
structure Px (p : Addr × Addr) (H H' : Hp) : Prop where
  kp : Kp p.1 H H'
  pen : Pen H' p
def ErD (p : Addr × Addr) (te : TE) (σ : L2.St) (H : Hp) (Φ : V → Hp → Prop) : Prop := ∀ H1, Px p H H1 → ∀ Q : VK, (∀ v H2, Px p H1 H2 → Φ v H2 → Q v H2) → te σ H1 Q
def ErL (p : Addr × Addr) (te : TE) (σ : L2.St) (H : Hp) (Ψ : List V → Hp → Prop) : Prop := ∀ H1, Px p H H1 → ∀ Q : VK, (∀ l xs H2, H1 l = none → Px p H1 H2 → H2 l = some (.lst xs) → Ψ xs H2 → Q (.ref l) H2) → te σ H1 Q
def ErA (p : Addr × Addr) (ta : TA) (σ : L2.St) (H : Hp) (Ψ : List V → Hp → Prop) : Prop := ∀ H1, Px p H H1 → ∀ Q : List V → Hp → Prop, (∀ vs H2, Px p H1 H2 → Ψ vs H2 → Q vs H2) → ta σ H1 Q
def ErT (p : Addr × Addr) (tt : TT) (σ : L2.St) (H : Hp) (Φ : Bool → Hp → Prop) : Prop := ∀ H1, Px p H H1 → ∀ Q : Bool → Hp → Prop, (∀ b H2, Px p H1 H2 → Φ b H2 → Q b H2) → tt σ H1 Q
section
variable {K : PySem.W.Frag} {σ : L2.St} {H H' H1 H2 : Hp} {te ta tb tl tp : TE} {tr : TA} {v w : V} {d : PyData} {vs : List V} {ds : List PyData} {p : Addr × Addr} {Φ Φ' : V → Hp → Prop} {Ψ Ψ' : List V → Hp → Prop} {D : Ends} {tz tu : TS} {tt : TT}
theorem Pen.ndat (h : Pen H p) : ∃ o, H p.1 = some o ∧ noDat o = true := by
  obtain ⟨kvs, h⟩ := h.get
  exact ⟨_, h, rfl⟩
theorem Px.refl (h : Pen H p) : Px p H H := ⟨fun _ _ e _ => e, h⟩
theorem Px.trans (a : Px p H H1) (b : Px p H1 H2) : Px p H H2 := ⟨a.kp.trans b.kp, b.pen⟩
theorem Px.of (h : Pen H p) (e : Ex H H1) : Px p H H1 := ⟨Kp.of e, h.same e⟩
theorem Px.put {b : Addr} {o : HO} (h : Pen H p) (a : Px p H H1) (hb : H b = none) : Px p H (upd H1 b o) := ⟨fun c u e ne => by rw [upd_ne (ne_of_none e hb)]; exact a.kp c u e ne, h.put a.pen hb⟩
theorem Px.ex (a : Px p H H1) (e : Ex H1 H2) : Px p H H2 := ⟨a.kp.trans (Kp.of e), a.pen.same e⟩
theorem Px.fresh (h : Pen H p) (x : Px p H H') {a : Addr} (ha : H' a = none) : H a = none := by
  by_cases e : a = p.1
  · obtain ⟨kvs, hk⟩ := x.pen.get
    rw [e, hk] at ha
    cases ha
  · cases hq : H a with
    | none => rfl
    | some o =>
      rw [x.kp a o hq e] at ha
      cases ha
theorem Px.at_ (h : Pen H p) (x : Px p H H') {a : Addr} {o : HO} (e : H a = some o) (hn : ∀ kvs, o ≠ .dK kvs) : H' a = some o := x.kp a o e fun z => by
  obtain ⟨kvs, hk⟩ := h.get
  rw [z, hk] at e
  cases e
  exact hn _ rfl
theorem Px.l (h : Pen H p) (x : Px p H H') {a : Addr} {xs : List V} (e : SqL K H a xs) : SqL K H' a xs := by
  obtain ⟨o, h1, h2⟩ := h.ndat
  exact kp_l x.kp h1 h2 e
theorem Px.t (h : Pen H p) (x : Px p H H') {a : Addr} {xs : List V} (e : SqT K H a xs) : SqT K H' a xs := by
  obtain ⟨o, h1, h2⟩ := h.ndat
  exact kp_t x.kp h1 h2 e
theorem Px.dp (h : Pen H p) (x : Px p H H') (e : Dp K H v d) : Dp K H' v d := by
  obtain ⟨o, h1, h2⟩ := h.ndat
  exact dp_kp x.kp h1 h2 e
theorem Px.dps (h : Pen H p) (x : Px p H H') (e : DpAll K H vs ds) : DpAll K H' vs ds := by
  obtain ⟨o, h1, h2⟩ := h.ndat
  exact dpAll_kp x.kp h1 h2 e
theorem Px.pd (h : Pen H p) (x : Px p H H') (e : Pd K H v d) : Pd K H' v d := by
  obtain ⟨o, h1, h2⟩ := h.ndat
  exact e.kp x.kp h1 h2
/-! what draws nothing -/
theorem er_evd (h : ∀ H1, Px p H H1 → EvD te σ H1 Φ) : ErD p te σ H Φ := fun H1 x Q q => h H1 x H1 (Ex.refl H1) Q fun v H2 e a => q v H2 (Px.of x.pen e) a
theorem er_ev (h : ∀ H1, Px p H H1 → Ev te σ H1 v) : ErD p te σ H (fun w _ => w = v) := fun H1 x Q q => h H1 x H1 (Ex.refl H1) Q fun H2 e => q v H2 (Px.of x.pen e) rfl
theorem er_evl {xs : List V} (h : ∀ H1, Px p H H1 → EvL te σ H1 xs) : ErL p te σ H (fun ys _ => ys = xs) := fun H1 x Q q => h H1 x H1 (Ex.refl H1) Q fun l H2 hl e a => q l xs H2 hl (Px.of x.pen e) a rfl
theorem er_eva (h : ∀ H1, Px p H H1 → EvA tr σ H1 vs) : ErA p tr σ H (fun ws _ => ws = vs) := fun H1 x Q q => h H1 x H1 (Ex.refl H1) Q fun H2 e => q vs H2 (Px.of x.pen e) rfl
theorem er_evt {b : Bool} (h : ∀ H1, Px p H H1 → EvT tt σ H1 b) : ErT p tt σ H (fun c _ => c = b) := fun H1 x Q q => h H1 x H1 (Ex.refl H1) Q fun H2 e => q b H2 (Px.of x.pen e) rfl
theorem ErD.imp (h : ErD p te σ H Φ) (hi : ∀ v H1, Px p H H1 → Φ v H1 → Φ' v H1) : ErD p te σ H Φ' := fun H1 x Q q => h H1 x Q fun v H2 x2 a => q v H2 x2 (hi v H2 (x.trans x2) a)
theorem ErL.imp (h : ErL p te σ H Ψ) (hi : ∀ v H1, Px p H H1 → Ψ v H1 → Ψ' v H1) : ErL p te σ H Ψ' := fun H1 x Q q => h H1 x Q fun l v H2 hl x2 e a => q l v H2 hl x2 e (hi v H2 (x.trans x2) a)
theorem ErA.imp (h : ErA p tr σ H Ψ) (hi : ∀ v H1, Px p H H1 → Ψ v H1 → Ψ' v H1) : ErA p tr σ H Ψ' := fun H1 x Q q => h H1 x Q fun v H2 x2 a => q v H2 x2 (hi v H2 (x.trans x2) a)
theorem ErD.mono (x : Px p H H1) (h : ErD p te σ H Φ) : ErD p te σ H1 Φ := fun H2 x2 Q q => h H2 (x.trans x2) Q q
theorem ErL.mono (x : Px p H H1) (h : ErL p te σ H Ψ) : ErL p te σ H1 Ψ := fun H2 x2 Q q => h H2 (x.trans x2) Q q
/-! draws, picks -/
def inR (m : Int) : V → Hp → Prop := fun v _ => ∃ r, v = .int r ∧ 0 ≤ r ∧ r < m
theorem er_draw {E : XK} {m : Int} (h : ErA p tr σ H (fun vs _ => vs = [.ref p.1, .int m])) (m0 : 0 < m) (m1 : m < 1073741824) : ErD p (tCall spDraw [] E tr) σ H (inR m) := fun H1 x Q q =>
  h H1 x _ fun vs H2 x2 e => by
    subst e
    exact ⟨p, m, rfl, m0, m1, x2.pen, fun r o r0 r1 hp => q _ _ ⟨x2.kp.trans Kp.upd, hp⟩ ⟨r, rfl, r0, r1⟩⟩
theorem er_pick {E : XK} {l : Addr} {xs : List V} (hH : Pen H p) (h : ErA p tr σ H (fun vs _ => vs = [.ref p.1, .ref l])) (hl : SqL K H l xs) (h0 : 0 < xs.length) (h1 : xs.length < 1073741824) : ErD p (tCall (spPick K) [] E tr) σ H (fun v _ => v ∈ xs) := fun H1 x Q q =>
  h H1 x _ fun vs H2 x2 e => by
    subst e
    exact ⟨p, l, xs, rfl, x2.pen, (x.trans x2).l hH hl, h0, h1, fun v o hv hp => q _ _ ⟨x2.kp.trans Kp.upd, hp⟩ hv⟩
/-- a pick of a new list -/
theorem er_pickL {E : XK} (hp : ∀ H1, Px p H H1 → Ev tp σ H1 (.ref p.1)) (hl : ErL p tl σ H Ψ) (hst : ∀ xs H1 H2, Px p H H1 → Px p H1 H2 → Ψ xs H1 → Ψ xs H2) (hz : ∀ xs H1, Ψ xs H1 → 0 < xs.length ∧ xs.length < 1073741824) : ErD p (tCall (spPick K) [] E (tCons tp (tCons tl tNil))) σ H (fun v H2 => ∃ xs, Ψ xs H2 ∧ v ∈ xs) := fun H1 x Q q =>
  hp H1 x H1 (Ex.refl H1) _ fun H2 e2 => hl H2 (x.ex e2) _ fun l xs H3 hl0 x3 h3 a => ⟨p, l, xs, rfl, x3.pen, sq_of h3, (hz xs H3 a).1, (hz xs H3 a).2, fun v o hv hpn => by
    have x4 : Px p H3 (upd H3 p.1 o) := ⟨Kp.upd, hpn⟩
    exact q _ _ (((Px.of x.pen e2).trans x3).trans x4) ⟨xs, hst xs H3 _ ((x.ex e2).trans x3) x4 a, hv⟩⟩
/-! put together -/
theorem era_nil : ErA p tNil σ H (fun vs _ => vs = []) := fun H1 x Q q => q [] H1 (Px.refl x.pen) rfl
theorem era_cons (h : ErD p te σ H Φ) (h2 : ErA p tr σ H Ψ) (hst : ∀ v H1 H2, Px p H H1 → Px p H1 H2 → Φ v H1 → Φ v H2) : ErA p (tCons te tr) σ H (fun vs H1 => ∃ v r, vs = v :: r ∧ Φ v H1 ∧ Ψ r H1) := fun H1 x Q q =>
  h H1 x _ fun v H2 x2 a => h2 H2 (x.trans x2) _ fun r H3 x3 b => q (v :: r) H3 (x2.trans x3) ⟨v, r, rfl, hst v H2 H3 (x.trans x2) x3 a, b⟩
theorem erl_lst (h : ErA p tr σ H Ψ) (hl : ∀ vs H1, Ψ vs H1 → vs.length ≤ 100000) (hst : ∀ vs H1 H2, Px p H H1 → Px p H1 H2 → Ψ vs H1 → Ψ vs H2) : ErL p (tLst tr) σ H Ψ := fun H1 x Q q =>
  h H1 x _ fun vs H2 x2 a => ⟨sz_of (hl vs H2 a), fun l hl0 => by
    have x3 : Px p H2 (upd H2 l (.lst vs)) := Px.of x2.pen (Ex.new hl0)
    exact q l vs _ (Px.fresh x.pen x2 hl0) (x2.trans x3) upd_same (hst vs H2 _ (x.trans x2) x3 a)⟩
theorem erd_tup (h : ErA p tr σ H Ψ) (hl : ∀ vs H1, Ψ vs H1 → vs.length ≤ 100000) (hst : ∀ vs H1 H2, Px p H H1 → Px p H1 H2 → Ψ vs H1 → Ψ vs H2) : ErD p (tTup tr) σ H (fun v H1 => ∃ l vs, v = .ref l ∧ H1 l = some (.tup vs) ∧ Ψ vs H1) := fun H1 x Q q =>
  h H1 x _ fun vs H2 x2 a => ⟨sz_of (hl vs H2 a), fun l hl0 => by
    have x3 : Px p H2 (upd H2 l (.tup vs)) := Px.of x2.pen (Ex.new hl0)
    exact q _ _ (x2.trans x3) ⟨l, vs, rfl, upd_same, hst vs H2 _ (x.trans x2) x3 a⟩⟩
/-! statements -/
theorem sr_asg {i : Nat} (hp : Pen H p) (h : ErD p te σ H Φ) (k : ∀ v H1, Px p H H1 → Φ v H1 → D.nx (σ.set i (some v)) H1) : tAsg te (gName i) D σ H := h H (Px.refl hp) _ fun v H1 x a => k v H1 x a
theorem qr_asg {i : Nat} (hp : Pen H p) (h : ErD p te σ H Φ) (k : ∀ v H1, Px p H H1 → Φ v H1 → tz D (σ.set i (some v)) H1) : tSeq (tAsg te (gName i)) tz D σ H := sr_asg (D := { D with nx := tz D }) hp h k
theorem sr_asgL {i : Nat} (hp : Pen H p) (h : ErL p te σ H Ψ) (k : ∀ l xs H1, H l = none → Px p H H1 → H1 l = some (.lst xs) → Ψ xs H1 → D.nx (σ.set i (some (.ref l))) H1) : tAsg te (gName i) D σ H := h H (Px.refl hp) _ fun l xs H1 hl x e a => k l xs H1 hl x e a
theorem qr_asgL {i : Nat} (hp : Pen H p) (h : ErL p te σ H Ψ) (k : ∀ l xs H1, H l = none → Px p H H1 → H1 l = some (.lst xs) → Ψ xs H1 → tz D (σ.set i (some (.ref l))) H1) : tSeq (tAsg te (gName i)) tz D σ H := sr_asgL (D := { D with nx := tz D }) hp h k
theorem sr_ret (hp : Pen H p) (h : ErD p te σ H Φ) (k : ∀ v H1, Px p H H1 → Φ v H1 → D.rt v H1) : tRet te D σ H := h H (Px.refl hp) _ fun v H1 x a => k v H1 x a
theorem sr_retL (hp : Pen H p) (h : ErL p te σ H Ψ) (k : ∀ l xs H1, H l = none → Px p H H1 → H1 l = some (.lst xs) → Ψ xs H1 → D.rt (.ref l) H1) : tRet te D σ H := h H (Px.refl hp) _ fun l xs H1 hl x e a => k l xs H1 hl x e a
/-- tuple(a new list) -/
theorem erd_tupL (h : ErL p te σ H Ψ) (hst : ∀ vs H1 H2, Px p H H1 → Px p H1 H2 → Ψ vs H1 → Ψ vs H2) : ErD p (tCB (rTupP K) (tCons te tNil)) σ H (fun v H1 => ∃ l xs, v = .ref l ∧ SqP H1 l xs ∧ Ψ xs H1) := fun H1 x Q q =>
  h H1 x _ fun l xs H2 hl x2 e a => ⟨l, xs, rfl, .inl ⟨sq_of e, fun m o hm ho => by
    have x3 : Px p H2 (upd H2 m (.frz o (.tup xs))) := Px.of x2.pen (Ex.new hm)
    exact q _ _ (x2.trans x3) ⟨m, xs, rfl, ⟨o, ho, upd_same⟩, hst xs H2 _ (x.trans x2) x3 a⟩⟩⟩
end
end Kb
set_option Elab.async false
set_option linter.all false
set_option maxRecDepth 100000
set_option maxHeartbeats 4000000
namespace Kb
open PySem PySem.Spec PyProof.Rows L2 Evl
/-- what is known of a value stays when the pen is used, when a list is changed -/
structure Stb (p : Addr × Addr) (Φ : V → Hp → Prop) : Prop where
  px : ∀ v H1 H2, Pen H1 p → Px p H1 H2 → Φ v H1 → Φ v H2
  mu : ∀ v H1 b xs ys, H1 b = some (.lst xs) → Φ v H1 → Φ v (upd H1 b (.lst ys))
mutual
/-- data without lists -/
def noL : PyData → Bool
  | .list _ => false
  | .dict _ => false
  | .tuple ds => noLs ds
  | _ => true
def noLs : List PyData → Bool
  | [] => true
  | d :: ds => noL d && noLs ds
end
section
variable {K : PySem.W.Frag} {σ : L2.St} {H H' H1 H2 : Hp} {te ta tb tl tp : TE} {tr : TA} {v w : V} {d : PyData} {vs : List V} {ds : List PyData} {p : Addr × Addr} {Φ Φ' : V → Hp → Prop} {Ψ Ψ' : List V → Hp → Prop} {D : Ends} {tz tu : TS} {tt : TT}
theorem t_mu {b q : Addr} {xs ys zs : List V} (hb : H b = some (.lst xs)) (h : SqT K H q zs) : SqT K (upd H b (.lst ys)) q zs := by
  rcases h with (h | ⟨o2, h⟩) | h
  · exact .inl (.inl (by rw [upd_ne (fun z => by rw [z, hb] at h; cases h)]; exact h))
  · exact .inl (.inr ⟨o2, by rw [upd_ne (fun z => by rw [z, hb] at h; cases h)]; exact h⟩)
  · exact .inr h
mutual
theorem dp_mu {b : Addr} {xs ys : List V} (hb : H b = some (.lst xs)) : ∀ {v : V} {d : PyData}, Dp K H v d → noL d = true → Dp K (upd H b (.lst ys)) v d
  | _, _, .non, _ => .non
  | _, _, .bl b, _ => .bl b
  | _, _, .int i, _ => .int i
  | _, _, .str x, _ => .str x
  | _, _, .lst h a, z => by simp [noL] at z
  | _, _, .tup h a, z => .tup (t_mu hb h) (dps_mu hb a (by simpa [noL] using z))
theorem dps_mu {b : Addr} {xs ys : List V} (hb : H b = some (.lst xs)) : ∀ {vs : List V} {ds : List PyData}, DpAll K H vs ds → noLs ds = true → DpAll K (upd H b (.lst ys)) vs ds
  | _, _, .nil, _ => .nil
  | _, _, .cons h a, z => by
    simp only [noLs, Bool.and_eq_true] at z
    exact .cons (dp_mu hb h z.1) (dps_mu hb a z.2)
end
theorem pd_mu {b : Addr} {xs ys : List V} (hb : H b = some (.lst xs)) (h : Pd K H v d) (hn : noL d = true) : Pd K (upd H b (.lst ys)) v d := by
  obtain ⟨q, zs, ds, rfl, rfl, ⟨o, ho, h⟩, a⟩ := h
  exact ⟨q, zs, ds, rfl, rfl, ⟨o, ho, by rw [upd_ne (fun z => by rw [z, hb] at h; cases h)]; exact h⟩, dps_mu hb a (by simpa [noL] using hn)⟩
/-- a datum without lists -/
def isD (K : PySem.W.Frag) (S : PyData → Prop) : V → Hp → Prop := fun v H => ∃ d, Dp K H v d ∧ noL d = true ∧ S d
theorem Stb.pure (f : V → Prop) : Stb p (fun v _ => f v) := ⟨fun _ _ _ _ _ h => h, fun _ _ _ _ _ _ h => h⟩
theorem Stb.isD {S : PyData → Prop} : Stb p (isD K S) := ⟨fun v H1 H2 hp x ⟨d, h, n, s⟩ => ⟨d, x.dp hp h, n, s⟩, fun v H1 b xs ys hb ⟨d, h, n, s⟩ => ⟨d, dp_mu hb h n, n, s⟩⟩
theorem stb_isD {S : PyData → Prop} : Stb p (isD K S) := Stb.isD
/-- a plain tuple without lists -/
def isP (K : PySem.W.Frag) (S : PyData → Prop) : V → Hp → Prop := fun v H => ∃ d, Pd K H v d ∧ noL d = true ∧ S d
theorem stb_isP {S : PyData → Prop} : Stb p (isP K S) := ⟨fun v H1 H2 hp x ⟨d, h, n, s⟩ => ⟨d, x.pd hp h, n, s⟩, fun v H1 b xs ys hb ⟨d, h, n, s⟩ => ⟨d, pd_mu hb h n, n, s⟩⟩
theorem isP_D {S : PyData → Prop} (h : isP K S v H) : isD K S v H := let ⟨d, a, n, s⟩ := h; ⟨d, a.dp, n, s⟩
/-- items of a list, each with its own -/
def each (F : Nat → V → Hp → Prop) (n : Nat) : List V → Hp → Prop := fun xs H => xs.length = n ∧ ∀ (i : Nat) x, xs[i]? = some x → F i x H
theorem each_px {F : Nat → V → Hp → Prop} (hs : ∀ i, Stb p (F i)) {n : Nat} {xs : List V} (hp : Pen H1 p) (x : Px p H1 H2) (h : each F n xs H1) : each F n xs H2 := ⟨h.1, fun i y hy => (hs i).px y H1 H2 hp x (h.2 i y hy)⟩
theorem each_snoc {F : Nat → V → Hp → Prop} {n : Nat} {xs : List V} {y : V} (h : each F n xs H) (hy : F n y H) : each F (n + 1) (xs ++ [y]) H := by
  refine ⟨by rw [List.length_append, h.1]; rfl, fun i x hx => ?_⟩
  by_cases hi : i < xs.length
  · rw [List.getElem?_append_left hi] at hx
    exact h.2 i x hx
  · rw [List.getElem?_append_right (by omega)] at hx
    have : i - xs.length = 0 := by
      cases hq : i - xs.length with
      | zero => rfl
      | succ k =>
        rw [hq] at hx
        simp at hx
    rw [this] at hx
    have e : y = x := by simpa using hx
    have e2 : i = n := by rw [← h.1]; omega
    rw [← e, e2]
    exact hy
theorem each_mu {F : Nat → V → Hp → Prop} (hs : ∀ i, Stb p (F i)) {n : Nat} {xs : List V} {b : Addr} {zs ys : List V} (hb : H b = some (.lst zs)) (h : each F n xs H) : each F n xs (upd H b (.lst ys)) := ⟨h.1, fun i y hy => (hs i).mu y H b zs ys hb (h.2 i y hy)⟩
/-- a comprehension over range(n), n drawn perhaps, whose items draw -/
theorem erl_lcR {j : Nat} {ws : List Nat} {Nn : Int → Prop} {F : Nat → V → Hp → Prop} (h : ErA p tr σ H (fun vs _ => ∃ n : Int, vs = [.int n] ∧ 0 ≤ n ∧ n ≤ 40000 ∧ Nn n)) (hw : ∀ x, wipe ((wipe σ ws).set j (some x)) ws = wipe σ ws) (ht : ∀ σ' H1, EvT tt σ' H1 true)
    (hs : ∀ i, Stb p (F i)) (he : ∀ i : Nat, ErD p te ((wipe σ ws).set j (some (.int (i : Int)))) H (F i)) : ErL p (tLc (iRng1 tr) (gName j) tt te ws) σ H (fun xs H2 => ∃ n : Nat, Nn n ∧ each F n xs H2) := fun H0 x0 Q q =>
  h H0 x0 _ fun vs H1 x1 ⟨n, e, n0, n1, hn⟩ => by
    subst e
    refine ⟨n, rfl, by omega, by omega, fun Dl hD => lc_range (lo := 0) (n := n.toNat) (fun i H' => Px p H1 H' ∧ ∃ xs, each F i xs H' ∧ H' Dl = some (.lst xs)) ⟨Px.of x1.pen (Ex.new hD), [], ⟨rfl, fun i x z => by simp at z⟩, upd_same⟩ (fun i H' hi a => ?_) (fun H' a => ?_)⟩
    · have e0 : (0 : Int) + (i : Int) = (i : Int) := Int.zero_add _
      show wipe ((wipe σ ws).set j (some (.int ((0 : Int) + (i : Int))))) ws = wipe σ ws ∧ tt ((wipe σ ws).set j (some (.int ((0 : Int) + (i : Int))))) H' fun b H3 => if b = true then te ((wipe σ ws).set j (some (.int ((0 : Int) + (i : Int))))) H3 fun y H4 => ∃ acc, H4 Dl = some (.lst acc) ∧ acc.length < sizeLine ∧ (Px p H1 (upd H4 Dl (.lst (acc ++ [y]))) ∧ ∃ xs, each F (i + 1) xs (upd H4 Dl (.lst (acc ++ [y]))) ∧ (upd H4 Dl (.lst (acc ++ [y]))) Dl = some (.lst xs)) else (Px p H1 H3 ∧ ∃ xs, each F (i + 1) xs H3 ∧ H3 Dl = some (.lst xs))
      rw [e0]
      obtain ⟨xa, xs, ha, hd⟩ := a
      refine ⟨hw _, ht _ _ H' (Ex.refl H') _ fun H3 e3 => ?_⟩
      refine he i H3 ((((x0.trans x1).trans xa).ex e3)) _ fun y H4 x4 hy => ?_
      have x3 := xa.ex e3
      have hd4 : H4 Dl = some (.lst xs) := x4.at_ x3.pen (e3 _ _ hd) (fun _ z => nomatch z)
      have ha4 : each F i xs H4 := each_px hs xa.pen ((Px.of xa.pen e3).trans x4) ha
      exact ⟨xs, hd4, sz_lt (by rw [ha.1]; omega), Px.put x1.pen (x3.trans x4) hD, xs ++ [y], each_mu hs hd4 (each_snoc ha4 hy), upd_same⟩
    · obtain ⟨xa, xs, ha, hd⟩ := a
      have en : ((n.toNat : Nat) : Int) = n := Int.toNat_of_nonneg n0
      exact q Dl xs H' (Px.fresh x0.pen x1 hD) (x1.trans xa) hd ⟨n.toNat, by rw [en]; exact hn, ha⟩
/-- over a list (new or held) or a tuple whose items are known -/
theorem erl_lcI {j : Nat} {ws : List Nat} {wi : TI} {xs : List V} {n : Nat} {F : Nat → V → Hp → Prop} {J : It} {G : Hp → Prop} (wk : Walk J n G (YAt xs)) (hn : n = xs.length) (hz : n ≤ 40000)
    (hwi : ∀ H1, Px p H H1 → ∀ R : It → Hp → Prop, (∀ H2, Px p H1 H2 → (∀ H3, Px p H2 H3 → G H3) → R J H2) → wi σ H1 R) (hw : ∀ x, wipe ((wipe σ ws).set j (some x)) ws = wipe σ ws) (ht : ∀ σ' H1, EvT tt σ' H1 true)
    (hs : ∀ i, Stb p (F i)) (he : ∀ (i : Nat) x, xs[i]? = some x → ErD p te ((wipe σ ws).set j (some x)) H (F i)) : ErL p (tLc wi (gName j) tt te ws) σ H (each F n) := fun H0 x0 Q q =>
  hwi H0 x0 _ fun H1 x1 hG => fun Dl hD =>
    lc_it wk (fun i H' => Px p H1 H' ∧ G H' ∧ ∃ ys, each F i ys H' ∧ H' Dl = some (.lst ys)) ⟨Px.of x1.pen (Ex.new hD), hG _ (Px.of x1.pen (Ex.new hD)), [], ⟨rfl, fun i x z => by simp at z⟩, upd_same⟩ (fun i H' _ a => a.2.1) (fun i x H' H'' hi a y => by
      obtain ⟨rfl, hxi⟩ := y
      obtain ⟨xa, gg, ys, ha, hd⟩ := a
      refine ⟨hw _, ht _ _ _ (Ex.refl _) _ fun H3 e3 => ?_⟩
      refine he i x hxi H3 ((((x0.trans x1).trans xa).ex e3)) _ fun y H4 x4 hy => ?_
      have x3 := xa.ex e3
      have hd4 : H4 Dl = some (.lst ys) := x4.at_ x3.pen (e3 _ _ hd) (fun _ z => nomatch z)
      have ha4 : each F i ys H4 := each_px hs xa.pen ((Px.of xa.pen e3).trans x4) ha
      exact ⟨ys, hd4, sz_lt (by rw [ha.1]; omega), Px.put x1.pen (x3.trans x4) hD, hG _ (Px.put x1.pen (x3.trans x4) hD), ys ++ [y], each_mu hs hd4 (each_snoc ha4 hy), upd_same⟩)
      (fun H' a => q Dl _ H' (Px.fresh x0.pen x1 hD) (x1.trans a.1) a.2.2.choose_spec.2 a.2.2.choose_spec.1)
/-- over a held list -/
theorem erl_lcH {j : Nat} {ws : List Nat} {xs : List V} {a : Addr} {F : Nat → V → Hp → Prop} (hH : Pen H p) (hl : ∀ H1, Px p H H1 → Ev tl σ H1 (.ref a)) (hx : SqL K H a xs) (hz : xs.length ≤ 40000) (hw : ∀ x, wipe ((wipe σ ws).set j (some x)) ws = wipe σ ws) (ht : ∀ σ' H1, EvT tt σ' H1 true)
    (hs : ∀ i, Stb p (F i)) (he : ∀ (i : Nat) x, xs[i]? = some x → ErD p te ((wipe σ ws).set j (some x)) H (F i)) : ErL p (tLc (iSeq K tl) (gName j) tt te ws) σ H (each F xs.length) :=
  erl_lcI (wk := walk_list (K := K) (a := a) (xs := xs)) rfl hz (fun H1 x R k => .inl (hl H1 x H1 (Ex.refl H1) _ fun H2 e2 => ⟨a, rfl, ⟨xs, (x.ex e2).l hH hx⟩, k H2 (Px.of x.pen e2) (fun H3 x3 => ((x.ex e2).trans x3).l hH hx)⟩)) hw ht hs he
/-- over a held tuple -/
theorem erl_lcHT {j : Nat} {ws : List Nat} {xs : List V} {a : Addr} {F : Nat → V → Hp → Prop} (hH : Pen H p) (hl : ∀ H1, Px p H H1 → Ev tl σ H1 (.ref a)) (hx : SqT K H a xs) (hz : xs.length ≤ 40000) (hw : ∀ x, wipe ((wipe σ ws).set j (some x)) ws = wipe σ ws) (ht : ∀ σ' H1, EvT tt σ' H1 true)
    (hs : ∀ i, Stb p (F i)) (he : ∀ (i : Nat) x, xs[i]? = some x → ErD p te ((wipe σ ws).set j (some x)) H (F i)) : ErL p (tLc (iSeq K tl) (gName j) tt te ws) σ H (each F xs.length) :=
  erl_lcI (wk := walk_tup (K := K) (a := a) (xs := xs)) rfl hz (fun H1 x R k => .inr (.inl (hl H1 x H1 (Ex.refl H1) _ fun H2 e2 => ⟨a, rfl, ⟨xs, (x.ex e2).t hH hx⟩, k H2 (Px.of x.pen e2) (fun H3 x3 => ((x.ex e2).trans x3).t hH hx)⟩))) hw ht hs he
end
end Kb
set_option Elab.async false
set_option linter.all false
set_option maxRecDepth 100000
set_option maxHeartbeats 4000000
namespace Kb
open PySem PySem.Spec PyProof.Rows L2 Evl
section
variable {K : PySem.W.Frag} {σ : L2.St} {H H' H1 H2 : Hp} {te ta tb tl tp : TE} {tr : TA} {v w x : V} {d : PyData} {vs : List V} {ds : List PyData} {p : Addr × Addr} {Φ Φ' : V → Hp → Prop} {Ψ Ψ' : List V → Hp → Prop} {D : Ends} {tz tu : TS} {tt : TT} {r : R2}
theorem er_op1 {f : V → Prop} (ha : ∀ H1, Px p H H1 → Ev ta σ H1 x) (hb : ErD p tb σ H Φ) (hr : ∀ y H1, Px p H H1 → Φ y H1 → ∃ z, RV r x y H1 z ∧ f z) : ErD p (tOp r ta tb) σ H (fun z _ => f z) := fun H1 x1 Q q =>
  ha H1 x1 H1 (Ex.refl H1) _ fun H2 e2 => hb H2 (x1.ex e2) _ fun y H3 x3 a => by
    obtain ⟨z, h1, h2⟩ := hr y H3 ((x1.ex e2).trans x3) a
    exact h1 H3 (Ex.refl H3) _ fun H4 e4 => q z H4 (((Px.of x1.pen e2).trans x3).ex e4) h2
theorem er_op2 {f : V → Prop} (ha : ErD p ta σ H Φ) (hb : ∀ H1, Px p H H1 → Ev tb σ H1 x) (hr : ∀ y H1, Px p H H1 → Φ y H1 → ∃ z, (∀ H2, RV r y x H2 z) ∧ f z) : ErD p (tOp r ta tb) σ H (fun z _ => f z) := fun H1 x1 Q q =>
  ha H1 x1 _ fun y H2 x2 a => hb H2 (x1.trans x2) H2 (Ex.refl H2) _ fun H3 e3 => by
    obtain ⟨z, h1, h2⟩ := hr y H2 (x1.trans x2) a
    exact h1 H3 H3 (Ex.refl H3) _ fun H4 e4 => q z H4 ((x2.ex e3).ex e4) h2
theorem era1 (h : ErD p te σ H Φ) : ErA p (tCons te tNil) σ H (fun vs H1 => ∃ v, vs = [v] ∧ Φ v H1) := fun H1 x1 Q q => h H1 x1 _ fun v H2 x2 a => q [v] H2 x2 ⟨v, rfl, a⟩
/-- f(a new list) -/
theorem erl_callL {sp : Sp} {E : XK} (h : ErL p te σ H Ψ) (hs : ∀ l xs H1, Px p H H1 → H1 l = some (.lst xs) → Ψ xs H1 → ∀ Q : VK, (∀ m ys H2, H1 m = none → Px p H1 H2 → H2 m = some (.lst ys) → Ψ' ys H2 → Q (.ref m) H2) → sp [.ref l] H1 Q E) : ErL p (tCall sp [] E (tCons te tNil)) σ H Ψ' := fun H1 x1 Q q =>
  h H1 x1 _ fun l xs H2 hl x2 h2 a => hs l xs H2 (x1.trans x2) h2 a Q fun m ys H3 hm x3 h3 b => q m ys H3 (Px.fresh x1.pen x2 hm) (x2.trans x3) h3 b
theorem er_andT {b0 : Bool} {t u : TT} {f : Bool → Prop} (h1 : ∀ H1, Px p H H1 → EvT t σ H1 b0) (h2 : b0 = true → ErT p u σ H (fun _ _ => True)) : ErT p (tAnd t u) σ H (fun _ _ => True) := fun H1 x1 Q q => h1 H1 x1 H1 (Ex.refl H1) _ fun H2 e2 => by
  cases b0 with
  | true => exact h2 rfl H2 (x1.ex e2) Q fun b H3 x3 a => q b H3 ((Px.of x1.pen e2).trans x3) trivial
  | false => exact q false H2 (Px.of x1.pen e2) trivial
theorem ert_test (h : ErD p te σ H (fun v _ => ∃ b, v = .bl b)) : ErT p (tTest te) σ H (fun _ _ => True) := fun H1 x1 Q q => h H1 x1 _ fun v H2 x2 ⟨b, hb⟩ => ⟨b, hb, q b H2 x2 trivial⟩
/-- items out of a list of texts, of numbers -/
theorem each_strs {zs : List Str} {n : Nat} {xs : List V} (h : each (fun _ v _ => v ∈ zs.map V.str) n xs H) : ∃ ys : List Str, xs = ys.map V.str ∧ ys.length = n ∧ ∀ y ∈ ys, y ∈ zs := by
  obtain ⟨hl, ha⟩ := h
  have : ∀ x ∈ xs, ∃ y ∈ zs, V.str y = x := fun x hx => by
    obtain ⟨i, hi⟩ := List.getElem?_of_mem hx
    exact List.mem_map.mp (ha i x hi)
  clear ha
  induction xs generalizing n with
  | nil => exact ⟨[], rfl, hl, fun _ h => nomatch h⟩
  | cons x r ih =>
    obtain ⟨ys, h1, h2, h3⟩ := ih rfl fun x hx => this x (List.mem_cons_of_mem _ hx)
    obtain ⟨y, hy, e⟩ := this x List.mem_cons_self
    refine ⟨y :: ys, by rw [h1, List.map_cons, e], by rw [List.length_cons, h2]; exact hl, fun z hz => ?_⟩
    rcases List.mem_cons.mp hz with rfl | hz
    · exact hy
    · exact h3 z hz
theorem each_ints {f : Int → Prop} {n : Nat} {xs : List V} (h : each (fun _ v _ => ∃ i, v = .int i ∧ f i) n xs H) : ∃ ys : List Int, xs = ys.map V.int ∧ ys.length = n ∧ ∀ y ∈ ys, f y := by
  obtain ⟨hl, ha⟩ := h
  have : ∀ x ∈ xs, ∃ i, x = V.int i ∧ f i := fun x hx => by
    obtain ⟨i, hi⟩ := List.getElem?_of_mem hx
    exact ha i x hi
  clear ha
  induction xs generalizing n with
  | nil => exact ⟨[], rfl, hl, fun _ h => nomatch h⟩
  | cons x r ih =>
    obtain ⟨ys, h1, h2, h3⟩ := ih rfl fun x hx => this x (List.mem_cons_of_mem _ hx)
    obtain ⟨y, e, hy⟩ := this x List.mem_cons_self
    refine ⟨y :: ys, by rw [h1, List.map_cons, e], by rw [List.length_cons, h2]; exact hl, fun z hz => ?_⟩
    rcases List.mem_cons.mp hz with rfl | hz
    · exact hy
    · exact h3 z hz
end
end Kb
set_option Elab.async false
set_option linter.all false
set_option maxRecDepth 100000
set_option maxHeartbeats 4000000
namespace Kb
open PySem PySem.Spec PyProof.Rows L2 Evl
section
variable {K : PySem.W.Frag} {σ : L2.St} {H H' H1 H2 : Hp} {te ta tb tl tp : TE} {tr : TA} {v w x : V} {d : PyData} {vs xs ys : List V} {ds : List PyData} {p : Addr × Addr} {Φ Φ' : V → Hp → Prop} {Ψ Ψ' : List V → Hp → Prop} {D : Ends} {tz tu : TS} {tt : TT} {r : R2} {a : Addr}
/-- xs + a new list that draws, xs a new list -/
theorem erl_catL (ha : ∀ H1, Px p H H1 → EvL ta σ H1 xs) (hb : ErL p tb σ H Ψ) (hz : ∀ ys H1, Ψ ys H1 → xs.length + ys.length ≤ 100000) (hst : ∀ ys H1 H2, Px p H H1 → Px p H1 H2 → Ψ ys H1 → Ψ ys H2) : ErL p (tOp (rAdd K) ta tb) σ H (fun zs H2 => ∃ ys, zs = xs ++ ys ∧ Ψ ys H2) := fun H1 x1 Q q =>
  ha H1 x1 H1 (Ex.refl H1) _ fun l H2 hl e2 h2 => hb H2 (x1.ex e2) _ fun m ys H3 hm x3 h3 b => by
    have h2' : H3 l = some (.lst xs) := x3.at_ (x1.pen.same e2) h2 (fun _ z => nomatch z)
    refine .inr (.inr (.inl ⟨l, m, xs, ys, rfl, rfl, h2', h3, sz_of (hz ys H3 b), fun r hr => ?_⟩))
    have x4 : Px p H3 (upd H3 r (.lst (xs ++ ys))) := Px.of x3.pen (Ex.new hr)
    exact q r _ _ (Px.fresh x1.pen ((Px.of x1.pen e2).trans x3) hr) (((Px.of x1.pen e2).trans x3).trans x4) upd_same ⟨ys, rfl, hst ys H3 _ ((x1.ex e2).trans x3) x4 b⟩
/-- a new list and a held one -/
theorem el_catNH (ha : EvL ta σ H xs) (hb : Ev tb σ H (.ref a)) (hy : H a = some (.lst ys)) (hz : xs.length + ys.length ≤ 100000) : EvL (tOp (rAdd K) ta tb) σ H (xs ++ ys) := fun H1 e Q q =>
  ha H1 e _ fun l H2 hl e2 h2 => hb H2 (e.trans e2) _ fun H3 e3 => .inr (.inr (.inl ⟨l, a, xs, ys, rfl, rfl, e3 _ _ h2, (e2.trans e3) _ _ (e _ _ hy), sz_of hz, fun r hr => q r _ (fresh_back (e2.trans e3) hr) ((e2.trans e3).trans (Ex.new hr)) upd_same⟩))
/-- a test whose first part draws nothing -/
theorem er_andB {b0 : Bool} {t u : TT} (h1 : ∀ H1, Px p H H1 → EvT t σ H1 b0) (h2 : b0 = true → ErT p u σ H (fun _ _ => True)) : ErT p (tAnd t u) σ H (fun b _ => b = true → b0 = true) := fun H1 x1 Q q => h1 H1 x1 H1 (Ex.refl H1) _ fun H2 e2 => by
  cases b0 with
  | true => exact h2 rfl H2 (x1.ex e2) Q fun b H3 x3 a => q b H3 ((Px.of x1.pen e2).trans x3) (fun _ => rfl)
  | false => exact q false H2 (Px.of x1.pen e2) (fun z => z)
/-- a row of two numbers, as a new tuple -/
def isT2 (i j : Int) : V → Hp → Prop := fun v H => ∃ t, v = .ref t ∧ H t = some (.tup [.int i, .int j])
theorem stb_T2 {i j : Int} : Stb p (isT2 i j) := ⟨fun v H1 H2 hp x ⟨t, e, h⟩ => ⟨t, e, x.at_ hp h (fun _ z => nomatch z)⟩, fun v H1 b xs ys hb ⟨t, e, h⟩ => ⟨t, e, by rw [upd_ne (fun z => by rw [z, hb] at h; cases h)]; exact h⟩⟩
/-- over zip(xs, ys), the items new tuples -/
theorem erl_lcZ {i1 i2 : Nat} {ws : List Nat} {R : List V → List V → Prop} {F : List V → List V → Nat → V → Hp → Prop} (h : ErA p tr σ H (fun vs H1 => ∃ a b xs ys, vs = [.ref a, .ref b] ∧ SqL K H1 a xs ∧ SqL K H1 b ys ∧ R xs ys)) (hlen : ∀ xs ys, R xs ys → ys.length = xs.length ∧ xs.length ≤ 40000)
    (hw : ∀ x y, wipe (((wipe σ ws).set i1 (some x)).set i2 (some y)) ws = wipe σ ws) (ht : ∀ σ' H1, EvT tt σ' H1 true) (hs : ∀ xs ys i, Stb p (F xs ys i))
    (he : ∀ xs ys i x y, R xs ys → xs[i]? = some x → ys[i]? = some y → ErD p te (((wipe σ ws).set i1 (some x)).set i2 (some y)) H (F xs ys i)) :
    ErL p (tLc (iZip K tr) (gTup K 2 (gCons (gName i1) (gCons (gName i2) gNil))) tt te ws) σ H (fun zs H2 => ∃ xs ys, R xs ys ∧ each (F xs ys) xs.length zs H2) := fun H0 x0 Q q =>
  h H0 x0 _ fun vs H1 x1 ⟨a, b, xs, ys, e, ha, hb, hR⟩ => by
    subst e
    obtain ⟨hl1, hl2⟩ := hlen xs ys hR
    refine ⟨a, b, xs, ys, rfl, ha, hb, fun Dl hD => ?_⟩
    refine lc_it (walk_zip (K := K) (a := a) (b := b) (xs := xs) (ys := ys) (n := xs.length) (by omega)) (fun i H' => Px p H1 H' ∧ ∃ zs, each (F xs ys) i zs H' ∧ H' Dl = some (.lst zs)) ⟨Px.of x1.pen (Ex.new hD), [], ⟨rfl, fun i x z => by simp at z⟩, upd_same⟩ (fun i H' _ z => ⟨z.1.l x1.pen ha, z.1.l x1.pen hb⟩) (fun i v H' H'' hi z y => ?_) (fun H' z => q Dl _ H' (Px.fresh x0.pen x1 hD) (x1.trans z.1) z.2.choose_spec.2 ⟨xs, ys, hR, z.2.choose_spec.1⟩)
    obtain ⟨T, x, y, rfl, hT, rfl, hx, hy⟩ := y
    obtain ⟨xa, zs, hz, hd⟩ := z
    have e5 : Ex H' (upd H' T (.tup [x, y])) := Ex.new hT
    refine ⟨T, [x, y], rfl, st_of upd_same, rfl, x, [y], rfl, y, [], rfl, rfl, hw _ _, ht _ _ _ (Ex.refl _) _ fun H3 e3 => ?_⟩
    have x3 := (xa.ex e5).ex e3
    refine he xs ys i x y hR hx hy H3 ((x0.trans x1).trans x3) _ fun u H4 x4 hu => ?_
    have hd4 : H4 Dl = some (.lst zs) := x4.at_ x3.pen (e3 _ _ (e5 _ _ hd)) (fun _ z => nomatch z)
    have hz4 : each (F xs ys) i zs H4 := each_px (hs xs ys) xa.pen ((Px.of xa.pen (e5.trans e3)).trans x4) hz
    exact ⟨zs, hd4, sz_lt (by rw [hz.1]; omega), Px.put x1.pen (x3.trans x4) hD, zs ++ [u], each_mu (hs xs ys) hd4 (each_snoc hz4 hu), upd_same⟩
/-- what stands in a row of two numbers -/
def rdP (H : Hp) : V → Int × Int
  | .ref t => match H t with
    | some (.tup [.int i, .int j]) => (i, j)
    | _ => (0, 0)
  | _ => (0, 0)
theorem rdP_of {i j : Int} (h : isT2 i j v H) : rdP H v = (i, j) ∧ ∃ t, v = .ref t ∧ H t = some (.tup [.int i, .int j]) := by
  obtain ⟨t, rfl, h⟩ := h
  refine ⟨?_, t, rfl, h⟩
  simp only [rdP, h]
end
end Kb
set_option Elab.async false
set_option linter.all false
set_option maxRecDepth 100000
set_option maxHeartbeats 4000000
namespace Kb
open PySem PySem.Spec PyProof.Rows L2 Evl
section
variable {K : PySem.W.Frag} {σ : L2.St} {H H' H1 H2 : Hp} {te ta tb tl tp : TE} {tr : TA} {v w x : V} {d : PyData} {vs xs ys : List V} {ds : List PyData} {p : Addr × Addr} {Φ Φ' : V → Hp → Prop} {Ψ Ψ' : List V → Hp → Prop} {D : Ends} {tz tu : TS} {tt : TT} {r : R2} {a : Addr}
/-- rows of two numbers -/
def t2s (qs : List (Int × Int)) (zs : List V) (H : Hp) : Prop := zs.length = qs.length ∧ ∀ (i : Nat) z, zs[i]? = some z → ∃ q, qs[i]? = some q ∧ isT2 q.1 q.2 z H
theorem t2s_dp {qs : List (Int × Int)} : ∀ {zs : List V}, t2s qs zs H → DpAll K H zs (qs.map fun q => rowD (.inl q.1, q.2)) := by
  induction qs with
  | nil =>
    intro zs h
    cases zs with
    | nil => exact .nil
    | cons z r => exact absurd h.1 (by simp)
  | cons q qs ih =>
    intro zs h
    cases zs with
    | nil => exact absurd h.1 (by simp)
    | cons z r =>
      refine .cons ?_ (ih ⟨by simpa using h.1, fun i y hy => ?_⟩)
      · obtain ⟨q', e, t, rfl, ht⟩ := h.2 0 z rfl
        simp at e
        subst e
        exact .tup (st_of ht) (.cons (.int _) (.cons (.int _) .nil))
      · obtain ⟨q', e, hq⟩ := h.2 (i + 1) y (by simpa using hy)
        exact ⟨q', by simpa using e, hq⟩
/-- sorted(a new list of rows of two numbers) -/
theorem erl_sortP {S : List (Int × Int) → Prop} (h : ErL p te σ H (fun zs H2 => ∃ ps, S ps ∧ t2s ps zs H2)) : ErL p (tCB (rSortA K) (tCons te tNil)) σ H (fun zs H2 => ∃ ps qs, S ps ∧ qs.Perm ps ∧ qs.Pairwise (fun x y => x.1 ≤ y.1) ∧ t2s qs zs H2) := fun H1 x1 Q q =>
  h H1 x1 _ fun l xs H2 hl x2 h2 ⟨ps, hS, hps⟩ => by
    have hk : ∀ x ∈ xs, ∃ q ∈ ps, rdP H2 x = q ∧ ∃ t, x = .ref t ∧ H2 t = some (.tup [.int q.1, .int q.2]) := fun x hx => by
      obtain ⟨i, hi⟩ := List.getElem?_of_mem hx
      obtain ⟨q, hq, ht⟩ := hps.2 i x hi
      obtain ⟨e1, e2⟩ := rdP_of ht
      exact ⟨q, List.mem_of_getElem? hq, by rw [e1], e2⟩
    have hmap : xs.map (rdP H2) = ps := by
      apply List.ext_getElem?
      intro i
      rw [List.getElem?_map]
      cases hc : xs[i]? with
      | none =>
        have : ps[i]? = none := by
          rw [List.getElem?_eq_none_iff] at hc ⊢
          have := hps.1
          omega
        rw [this]
        rfl
      | some x =>
        obtain ⟨q, hq, ht⟩ := hps.2 i x hc
        rw [hq]
        show some (rdP H2 x) = some q
        rw [(rdP_of ht).1]
    refine .inr (.inr (.inr ⟨l, xs, rdP H2, rfl, sq_of h2, fun x hx => ?_, fun ys r hs hb hr => ?_⟩))
    · obtain ⟨q, _, e, t, rfl, ht⟩ := hk x hx
      exact ⟨t, rfl, by rw [ht, e]⟩
    · have x3 : Px p H2 (upd H2 r (.lst ys)) := Px.of x2.pen (Ex.new hr)
      have hperm : ys.Perm xs := hb.perm
      refine q r ys _ (Px.fresh x1.pen x2 hr) (x2.trans x3) upd_same ⟨ps, ys.map (rdP H2), hS, by rw [← hmap]; exact hperm.map _, ?_, by rw [List.length_map], fun i z hz => ?_⟩
      · rw [List.pairwise_map]
        refine List.Pairwise.imp (fun {x y} hxy => ?_) hs
        have := SrtO.lexB_no.mp hxy
        omega
      · obtain ⟨q', hq', e, t, rfl, ht⟩ := hk z (hperm.mem_iff.mp (List.mem_of_getElem? hz))
        refine ⟨rdP H2 (.ref t), by rw [List.getElem?_map, hz]; rfl, t, rfl, ?_⟩
        rw [e, upd_ne (ne_of_none ht hr)]
        exact ht
/-- a slice of a held list -/
theorem el_slL {lo hi : Option Int} {tl th : TO} (ha : Ev ta σ H (.ref a)) (h : SqL K H a xs) (hl : EvO tl σ H lo) (hh : EvO th σ H hi) : EvL (tSl (rSl K) ta tl th) σ H (cutV xs lo hi) := fun H1 e Q q =>
  ha H1 e _ fun H2 e2 => hl H2 (e.trans e2) _ fun H3 e3 => hh H3 ((e.trans e2).trans e3) _ fun H4 e4 => .inl ⟨a, xs, rfl, ex_l (((e.trans e2).trans e3).trans e4) h, fun r hr => q r _ (fresh_back ((e2.trans e3).trans e4) hr) (((e2.trans e3).trans e4).trans (Ex.new hr)) upd_same⟩
theorem cut_tail (x : V) (r : List V) : cutV (x :: r) (some 1) none = r := by
  unfold cutV
  have e : HT.sIx (x :: r).length 0 (some 1) = 1 := by
    simp only [HT.sIx]
    rw [if_neg (by decide), List.length_cons]
    show min 1 _ = 1
    omega
  rw [e, HT.sIx_none]
  simp
theorem t2s_px {qs : List (Int × Int)} {zs : List V} (hp : Pen H p) (x : Px p H H') (h : t2s qs zs H) : t2s qs zs H' := ⟨h.1, fun i z hz => let ⟨q, e, ht⟩ := h.2 i z hz; ⟨q, e, stb_T2.px z H H' hp x ht⟩⟩
theorem int_at {ns : List Int} {i : Nat} {x : V} (h : (ns.map V.int)[i]? = some x) : ∃ n, ns[i]? = some n ∧ x = .int n := by
  rw [List.getElem?_map] at h
  cases hq : ns[i]? with
  | none => rw [hq] at h; cases h
  | some n =>
    rw [hq] at h
    cases h
    exact ⟨n, rfl, rfl⟩
theorem er_T2 {i j : Int} (ha : ∀ H1, Px p H H1 → Ev ta σ H1 (.int i)) (hb : ∀ H1, Px p H H1 → Ev tb σ H1 (.int j)) : ErD p (tTup (tCons ta (tCons tb tNil))) σ H (isT2 i j) :=
  (erd_tup (Ψ := fun vs _ => vs = [.int i, .int j]) (er_eva fun H1 x1 => ea_cons (ha H1 x1) (ea_cons (hb H1 x1) ea_nil)) (fun vs H1 h => by rw [h]; exact (show 2 ≤ 100000 by decide)) (fun _ _ _ _ _ h => h)).imp fun v H1 x1 ⟨l, vs, e, h, e2⟩ => ⟨l, e, by rw [h, e2]⟩
theorem era1L (h : ErL p te σ H Ψ) : ErA p (tCons te tNil) σ H (fun vs H1 => ∃ l xs, vs = [.ref l] ∧ H1 l = some (.lst xs) ∧ Ψ xs H1) := fun H1 x1 Q q => h H1 x1 _ fun l xs H2 hl x2 h2 a => q [.ref l] H2 x2 ⟨l, xs, rfl, h2, a⟩
theorem Px.sqp (h : Pen H p) (x : Px p H H') {a : Addr} {xs : List V} (e : SqP H a xs) : SqP H' a xs := by
  obtain ⟨o, h1, h2⟩ := e
  exact ⟨o, h1, x.at_ h h2 (fun _ z => nomatch z)⟩
def iOf : V → Int
  | .int i => i
  | _ => 0
theorem map_iOf (ns : List Int) : (ns.map V.int).map iOf = ns := by
  rw [List.map_map]
  show ns.map (fun i => i) = ns
  exact List.map_id' ns
theorem perm_ints {ys : List V} {ns : List Int} (h : ys.Perm (ns.map V.int)) : ∃ rs : List Int, ys = rs.map V.int ∧ rs.Perm ns := by
  refine ⟨ys.map iOf, ?_, by have := h.map iOf; rwa [map_iOf] at this⟩
  rw [List.map_map]
  refine (List.map_id' ys).symm.trans (List.map_congr_left fun v hv => ?_)
  obtain ⟨i, _, e⟩ := List.mem_map.mp (h.mem_iff.mp hv)
  rw [← e]
  rfl
theorem sr_ifS {Φ : Bool → Hp → Prop} (hp : Pen H p) (h : ErT p tt σ H Φ) (k : ∀ b H1, Px p H H1 → Φ b H1 → if b = true then tz D σ H1 else tu D σ H1) : tIfS tt tz tu D σ H := h H (Px.refl hp) _ fun b H1 x a => k b H1 x a
theorem qr_ifS {Φ : Bool → Hp → Prop} {tw : TS} (hp : Pen H p) (h : ErT p tt σ H Φ) (k : ∀ b H1, Px p H H1 → Φ b H1 → if b = true then tz { D with nx := tw D } σ H1 else tu { D with nx := tw D } σ H1) : tSeq (tIfS tt tz tu) tw D σ H := sr_ifS (D := { D with nx := tw D }) hp h k
end
end Kb
set_option Elab.async false
set_option linter.all false
set_option maxRecDepth 100000
set_option maxHeartbeats 4000000
namespace Kb
open PySem PySem.Spec PyProof.Rows L2 LamX
/-! ### lambdas that are held, handed down and called below -/
/-- a lambda's words -/
structure LF where
  q : Str
  params : Arguments
  body : Expr
  scope : Scope
  cl : List (Str × Addr)
  c : Addr
def LamO (f : Addr) (F : LF) : HO := .ext fun h => ∃ pm ctv : Value, h.get? f = some (PySem.W.kla_obj "<lambda>" F.q F.params F.body F.scope F.cl pm F.c ctv)
theorem lamO_at {P : Program} {w : World} {H : Hp} {h : Heap} {f : Addr} {F : LF} (hok : HOk P w H h) (e : H f = some (LamO f F)) : ∃ pm ctv : Value, h.get? f = some (PySem.W.kla_obj "<lambda>" F.q F.params F.body F.scope F.cl pm F.c ctv) := by
  obtain ⟨z, _, _⟩ := hok f _ e
  exact z
theorem lamO_ne {f : Addr} {F : LF} (ps : Array Value) : LamO f F ≠ .tbl ps := fun z => by
  unfold LamO at z
  cases z
section
variable {X : Cx} {pins : List (Addr × Obj)} {σ : L2.St} {H : Hp} {s : Shared}
theorem inv_lam {F : LF} {t' : Nat} {pm ctv : Value} (I : L2.Inv X pins σ H s) :
    L2.Inv X pins σ (upd H s.heap.objs.size (LamO s.heap.objs.size F)) { s with heap := s.heap.push (PySem.W.kla_obj "<lambda>" F.q F.params F.body F.scope F.cl pm F.c ctv), toks := t' } := by
  refine I.laid (a := s.heap.objs.size) (fun b u e => Heap.get?_push_of_some _ e) (Nat.le_refl _) ?_
  have e : (s.heap.push (PySem.W.kla_obj "<lambda>" F.q F.params F.body F.scope F.cl pm F.c ctv)).get? s.heap.objs.size = some (PySem.W.kla_obj "<lambda>" F.q F.params F.body F.scope F.cl pm F.c ctv) := Heap.get?_push_size _ rfl
  exact ⟨⟨pm, ctv, e⟩, ⟨_, e⟩, fun h1 h2 ⟨p, d, z⟩ st => ⟨p, d, st _ z⟩⟩
/-- the lambda is made, and known from then on -/
theorem lam_makeT {T : List (Addr × Str)} {c P : Addr} {params : Arguments} {body : Expr} {scope : Scope} {pos : Pos} {E : Value → Shared → Prop} {Q : Value → Shared → Prop} (I : L2.Inv X pins σ H s) (TB : TabB X.base X.mg c P) (hcode : X.env.code = .ref c)
    (hm : (P, X.env.qual ++ "<lambda>") ∈ T) (hu : ∀ p ∈ T, p.1 = P → p.2 = X.env.qual ++ "<lambda>") (hT : Tabs T H) (hdef : defaultsOf params X.env = ([], [])) (hfree : ∀ y ∈ scope.names, y.2 = .free → ∃ c, X.env.cells.lookup y.1 = some c)
    (h : ∀ (f c' : Addr) (H1 : Hp) (s' : Shared), L2.Inv X pins σ H1 s' → ExtN H H1 → (∀ b, H1 b = none → H b = none) → Tabs T H1 → H f = none → H1 f = some (LamO f ⟨X.env.qual ++ "<lambda>", params, body, scope, cloFrom X.env.cells scope.names [], c'⟩) →
      H1 c' = some (CodeO c' (X.env.qual ++ "<lambda>")) → Q (.ref f) s') :
    wpAny (model X.prog X.w) X.A (eval (.Lambda params body scope pos) X.env) Q E s := by
  obtain ⟨ps, hP, ht, ha⟩ := hT _ hm
  refine PySem.W.kla_eval hdef ?_
  have bP : s.heap.BuiltinsAt X.mg P := TB.bm.keeps I.bk
  have hP' : s.heap.get? P = some { cls := .none, data := .fields ps } := I.hok P _ hP
  cases hc : codeAmong pos ps.toList with
  | none =>
    refine PySem.W.kla_makeFunction (mg := X.mg) (c := c) (P := P) (ps := ps) (closure_ok hfree) I.ok.glob (I.mod.glob.keeps I.bk) hcode (TB.code.keeps I.bk) hP' ht hc TB.gP bP fun c' ctv h' tk hx hge hlt hrec htb => ?_
    obtain ⟨c2, oc, vs, t, e2, hoc, hd, hv⟩ := hrec
    cases e2
    have hsz : s.heap.objs.size ≤ h'.objs.size := Nat.le_trans hge (Nat.le_of_lt hlt)
    have nC : H c' = none := I.hok.fresh hge
    have I1 := inv_table (t' := tk) (more := #[rawInt pos.line, rawInt pos.col, .ref c']) (h' := h') I hP (fun b o hb e => hx b o hb e) htb hge ⟨oc, vs, t, hoc, hd, hv⟩
    have hE : ExtN H (upd (upd H P (.tbl (ps ++ #[rawInt pos.line, rawInt pos.col, .ref c']))) c' (CodeO c' (X.env.qual ++ "<lambda>"))) := fun b o e n => by
      rw [upd_ne (ne_of_none e nC), upd_ne (fun z => n ps (Option.some.inj (e.symm.trans (by rw [z]; exact hP))))]
      exact e
    have eL : (ps ++ #[rawInt pos.line, rawInt pos.col, .ref c']).toList = ps.toList ++ [rawInt pos.line, rawInt pos.col, .ref c'] := by simp
    have T1 : Tabs T (upd (upd H P (.tbl (ps ++ #[rawInt pos.line, rawInt pos.col, .ref c']))) c' (CodeO c' (X.env.qual ++ "<lambda>"))) := fun p hp => by
      by_cases hb : p.1 = P
      · rw [hu p hp hb, hb]
        refine ⟨_, by rw [upd_ne (ne_of_none hP nC), upd_same], by rw [eL]; exact PySem.TriplesOk_snoc _ _ _ _ ht, fun p' cv hcv => ?_⟩
        rw [eL] at hcv
        rcases among_app _ ht hcv with z | z
        · obtain ⟨c0, e1, e2⟩ := ha p' cv z
          exact ⟨c0, e1, hE _ _ e2 codeO_ne⟩
        · exact ⟨c', z, upd_same⟩
      · obtain ⟨ps', a1, a2, a3⟩ := hT p hp
        refine ⟨ps', by rw [upd_ne (ne_of_none a1 nC), upd_ne hb]; exact a1, a2, fun p' cv hcv => ?_⟩
        obtain ⟨c0, e1, e2⟩ := a3 p' cv hcv
        exact ⟨c0, e1, hE _ _ e2 codeO_ne⟩
    have nF := I1.hok.fresh (Nat.le_refl _)
    have I2 := inv_lam (F := ⟨X.env.qual ++ "<lambda>", params, body, scope, cloFrom X.env.cells scope.names [], c'⟩) (t' := tk) (pm := (X.mg "__name__").getD .none) (ctv := ctv) I1
    refine h h'.objs.size c' _ _ I2 (fun b o e n => ?_) (fun b e => NdefX.upd_none (NdefX.upd_none (NdefX.upd_none e))) (T1.ext fun b o e => ?_) (I.hok.fresh hsz) upd_same ?_
    · have e1 := hE b o e n
      exact (upd_ne (ne_of_none e1 nF)).trans e1
    · exact (upd_ne (ne_of_none e nF)).trans e
    · exact (upd_ne (Nat.ne_of_lt hlt)).trans upd_same
  | some cv =>
    obtain ⟨c', e, hco⟩ := ha pos cv hc
    subst e
    refine PySem.W.kla_makeFunctionHit (mg := X.mg) (c := c) (P := P) (ps := ps) (closure_ok hfree) I.ok.glob (I.mod.glob.keeps I.bk) hcode (TB.code.keeps I.bk) hP' ht hc bP fun ctv h' tk hx hsz => ?_
    have I1 : L2.Inv X pins σ H { s with heap := h', toks := tk } := I.kept hx
    have nF : H h'.objs.size = none := I1.hok.fresh (Nat.le_refl _)
    have I2 := inv_lam (F := ⟨X.env.qual ++ "<lambda>", params, body, scope, cloFrom X.env.cells scope.names [], c'⟩) (t' := tk) (pm := (X.mg "__name__").getD .none) (ctv := ctv) I1
    refine h h'.objs.size c' _ _ I2 (fun b o e n => ?_) (fun b e => NdefX.upd_none e) (hT.ext fun b o e => ?_) nF upd_same ?_
    · exact (upd_ne (ne_of_none e nF)).trans e
    · exact (upd_ne (ne_of_none e nF)).trans e
    · exact (upd_ne (ne_of_none hco nF)).trans hco
def tLamT (X : Cx) (T : List (Addr × Str)) (params : Arguments) (body : Expr) (scope : Scope) : TE := fun σ H Q => Tabs T H ∧ ∀ (f c' : Addr) (H1 : Hp), ExtN H H1 → (∀ b, H1 b = none → H b = none) → Tabs T H1 → H f = none →
  H1 f = some (LamO f ⟨X.env.qual ++ "<lambda>", params, body, scope, cloFrom X.env.cells scope.names [], c'⟩) → H1 c' = some (CodeO c' (X.env.qual ++ "<lambda>")) → Q (.ref f) H1
theorem pe_lamT {T : List (Addr × Str)} {c P : Addr} {params : Arguments} {body : Expr} {scope : Scope} {pos : Pos} (TB : TabB X.base X.mg c P) (hcode : X.env.code = .ref c) (hm : (P, X.env.qual ++ "<lambda>") ∈ T) (hu : ∀ p ∈ T, p.1 = P → p.2 = X.env.qual ++ "<lambda>")
    (hdef : defaultsOf params X.env = ([], [])) (L : LamS X.env.scope scope) : PE X (.Lambda params body scope pos) (tLamT X T params body scope) := by
  refine ⟨fun pins s σ H Q I h => ?_⟩
  obtain ⟨hT, h⟩ := h
  exact lam_makeT I TB hcode hm hu hT hdef (L.has I.ok) fun f c' H1 s' I1 e1 e2 e3 e4 e5 e6 => ⟨.ref f, H1, I1, rfl, h f c' H1 e1 e2 e3 e4 e5 e6⟩
/-- entered from below: the captured cells stand as they were -/
theorem lam_start3 {A : Around} {outer : List Env} {E : XK} {scope : Scope} {f c' : Addr} {h₁ : Heap} {tk : Nat} {s1 : Shared} {HZ : Hp} (I : L2.Inv X pins σ H s) (L : LamS X.env.scope scope) (e0 : Env0 X.prog X.w X.K X.mg X.base A outer s1 HZ) (hd : A.handled = none)
    (un : ∀ y c, X.env.cells.lookup y = some c → HZ c = none ∧ ∀ o, s.heap.get? c = some o → s1.heap.get? c = some o) (hns : h₁.Ns s1.heap.objs.size fun y => ([] : List (Str × Value)).reverse.lookup y) (kp : ∀ b o, s1.heap.get? b = some o → h₁.get? b = some o) :
    L2.Inv (lamCx X A outer s1 HZ E scope f c') [] σ HZ { s1 with heap := h₁, toks := tk } := by
  have hfree := L.has I.ok
  have cm : ∀ {y c}, (cloFrom X.env.cells scope.names []).lookup y = some c → X.env.cells.lookup y = some c := fun {y c} e => by
    rcases cloFrom_mem (PySem.mem_of_lookup e) with hm | ⟨h1, h2⟩
    · cases hm
    · obtain ⟨c1, hc⟩ := hfree _ h1 rfl
      have hc : X.env.cells.lookup y = some c1 := hc
      have e2 : c = c1 := by
        rw [h2, hc] <;> rfl
      rw [e2]
      exact hc
  have look : ∀ {y}, scope.names.lookup y = some .free → ∃ c, (cloFrom X.env.cells scope.names []).lookup y = some c := fun {y} hl => by
    have hy : (y, NameKind.free) ∈ scope.names := PySem.mem_of_lookup hl
    exact mem_lookup (cloFrom_has (cells := X.env.cells) (acc := []) hy)
  have cellK : ∀ {y : Str} {c : Addr} {v : Option Value}, X.env.cells.lookup y = some c → s.heap.IsCell c v → h₁.IsCell c v := fun {y c v} n ⟨o, ho, hd⟩ => ⟨o, kp _ _ ((un y c n).2 o ho), hd⟩
  have noA : ∀ b : Addr, b ∉ (lamCx X A outer s1 HZ E scope f c').ex := fun b z => absurd (show b ∈ ([] : List Addr) from z) (by simp)
  refine ⟨⟨e0.mod, L.kind, rfl, rfl, Nat.le_refl _, fun y z c e1 e2 => I.ok.inj y z c (cm e1) (cm e2), fun y hy => ?_, fun y c z _ => ?_, fun _ => hd, Around.frames_deeper e0.frames, .inr ⟨rfl, rfl⟩, fun b z => absurd z (noA b), e0.bs, e0.bsz, fun b _ _ => noA b,
      fun b z => absurd z (noA b), e0.funs, e0.frf⟩,
    rfl, e0.bare, Un.kept kp, ⟨_, hns, fun i y v e1 e2 e3 => ?_⟩, fun y c e => ?_, e0.hok.fresh (Nat.le_refl _), fun y c e => (un y c (cm e)).1, fun q hq => absurd (show q ∈ ([] : List (Addr × Obj)) ++ [] from hq) (by simp), e0.hok.kept kp, I.len⟩
  · have hy : scope.names.lookup y = some .cell ∨ scope.names.lookup y = some .free := hy
    rcases hy with hy | hy
    · exact absurd rfl (L.own _ (PySem.mem_of_lookup hy)).2
    · exact look hy
  · have z : false = true := z
    cases z
  · have e3 : Vis scope y := e3
    rcases e3 with k | k | k
    · exact absurd rfl (L.own _ (PySem.mem_of_lookup k)).1
    · exact absurd rfl (L.own _ (PySem.mem_of_lookup k)).2
    · obtain ⟨m, hn, hl⟩ := I.loc
      have hvis : Vis X.env.scope y := (L.free _ (PySem.mem_of_lookup k) rfl).elim (fun k => .inr (.inl k)) (fun k => .inr (.inr k))
      obtain ⟨w', r, q⟩ := hl i y v e1 e2 hvis
      obtain ⟨c2, h2⟩ := look k
      refine ⟨w', r, .inr ⟨.inr k, c2, h2, ?_⟩⟩
      have c1 := cm h2
      rcases q with ⟨k', _⟩ | ⟨_, c3, e', z⟩
      · have k' : X.env.scope.names.lookup y = some .local := k'
        rcases L.free _ (PySem.mem_of_lookup k) rfl with k2 | k2 <;> rw [show X.env.scope.names.lookup y = _ from k2] at k' <;> cases k'
      · rw [c1] at e'
        cases e'
        exact cellK c1 z
  · obtain ⟨w', z⟩ := I.cell y c (cm e)
    exact ⟨w', cellK (cm e) z⟩
end
/-- f, a callable without parameters, as it is at (s, H): what it does when it is called below -/
structure LamAt (P : Program) (w : World) (K : PySem.W.Frag) (mg : Str → Option Value) (base : Heap) (k : Nat) (fr : List Addr) (s : Shared) (H : Hp) (f : Addr) (tl : Hp → VK → XK → Prop) : Prop where
  fn : ∃ F, H f = some (LamO f F)
  ex : ∃ Fp : List Addr, (∀ b ∈ Fp, H b = none ∧ b ∉ fr ∧ ∃ o, s.heap.get? b = some o) ∧
    ∀ (A : Around) (outer : List Env) (s1 : Shared) (H1 : Hp) (Q : VK) (E : XK), Room k A → Env0 P w K mg base A outer s1 H1 → Evl.Ex H H1 → (∀ b ∈ Fp, H1 b = none ∧ ∀ o, s.heap.get? b = some o → s1.heap.get? b = some o) → tl H1 Q E →
      codeAny (model P w) A (.call (.ref f) ⟨[], []⟩) (CR (L2.CX P w) outer P w H1 s1 Q E) s1
section
variable {P : Program} {w : World} {K : PySem.W.Frag} {mg : Str → Option Value} {base : Heap} {k : Nat} {fr : List Addr} {s s1 : Shared} {H H1 : Hp} {f : Addr} {tl : Hp → VK → XK → Prop}
theorem LamAt.move (h : LamAt P w K mg base k fr s H f tl) (e : Evl.Ex H H1) (u : Un fr [] H H1 s.heap s1.heap) : LamAt P w K mg base k fr s1 H1 f tl := by
  obtain ⟨⟨F, hF⟩, Fp, h1, h2⟩ := h
  refine ⟨⟨F, e _ _ hF⟩, Fp, fun b hb => ?_, fun A outer s2 H2 Q E hr e0 ex kp ht => h2 A outer s2 H2 Q E hr e0 (e.trans ex) (fun b hb => ?_) ht⟩
  · obtain ⟨a1, a2, o, ho⟩ := h1 b hb
    exact ⟨u.free b o ho a1 (fun z => nomatch z), a2, o, u.keep b o ho a1 a2 (fun z => nomatch z)⟩
  · obtain ⟨a1, a2, o, ho⟩ := h1 b hb
    refine ⟨(kp b hb).1, fun o' ho' => (kp b hb).2 o' (u.keep b o' ho' a1 a2 (fun z => nomatch z))⟩
theorem LamAt.deeper (h : LamAt P w K mg base k fr s H f tl) {L : Addr} (hL : s.heap.get? L = none) : LamAt P w K mg base k (L :: fr) s H f tl := by
  obtain ⟨hF, Fp, h1, h2⟩ := h
  refine ⟨hF, Fp, fun b hb => ?_, h2⟩
  obtain ⟨a1, a2, o, ho⟩ := h1 b hb
  exact ⟨a1, fun z => (List.mem_cons.mp z).elim (fun e => by rw [← e, ho] at hL; cases hL) a2, o, ho⟩
end
section
variable {X : Cx} {pins : List (Addr × Obj)} {σ : L2.St} {H : Hp} {s : Shared}
/-- the lambda, handed down from its maker -/
theorem lamAt_of {f c' : Addr} {params : Arguments} {body : Expr} {scope : Scope} {k : Nat} {tb : XK → TE} (I : L2.Inv X pins σ H s) (hfn : ∀ x, X.fn x = true) (hst : X.stack = X.env :: X.outer) (hfrm : X.env.frame = some X.env.locals) (L : LamS X.env.scope scope)
    (hf : H f = some (LamO f ⟨X.env.qual ++ "<lambda>", params, body, scope, cloFrom X.env.cells scope.names [], c'⟩)) (hc : H c' = some (CodeO c' (X.env.qual ++ "<lambda>")))
    (hbind : ∀ (cl : List (Str × Addr)) (pm cv ctv : Value), bindArgs (PySem.W.kla_fn "<lambda>" (X.env.qual ++ "<lambda>") params body scope cl pm cv ctv) ⟨[], []⟩ = pure [])
    (hbody : ∀ (A : Around) (outer : List Env) (s : Shared) (H : Hp) (E : XK), Room k (A.deeper (lamEnv X scope s.heap.objs.size f c')) → PE (lamCx X A outer s H E scope f c') body (tb E)) :
    LamAt X.prog X.w X.K X.mg X.base (k + 1) (frs X.stack) s H f (fun H1 Q E => tb E σ H1 Q) := by
  refine ⟨⟨_, hf⟩, X.env.cells.filterMap (fun p => X.env.cells.lookup p.1), fun b hb => ?_, fun A outer s1 H1 Q E hr e0 ex kp ht => ?_⟩
  · obtain ⟨p, _, hp⟩ := List.mem_filterMap.mp hb
    obtain ⟨v, o, ho, hd⟩ := I.cell p.1 b hp
    refine ⟨I.freeC p.1 b hp, fun z => ?_, o, ho⟩
    rcases List.mem_cons.mp (I.stkSub b z) with e | e
    · exact I.cne p.1 b hp e
    · obtain ⟨_, o2, ho2, _⟩ := I.ok.funs.mem e
      exact absurd (Nat.lt_of_lt_of_le (Heap.lt_size ho2) (I.ok.cab p.1 b (hfn _) hp)) (Nat.lt_irrefl _)
  · obtain ⟨pm, ctv, of1⟩ := lamO_at e0.hok (ex _ _ hf)
    obtain ⟨⟨oc, vs, t, hoc, hdc, hvc⟩, _, _⟩ := e0.hok c' _ (ex _ _ hc)
    have lim : s1.heap.NoLimit := e0.mod.nolimit.keeps fun b o e => (e0.bs b o e).1
    refine PySem.W.kla_callFunE hr.depth of1 rfl L.co L.gen rfl ⟨c', oc, vs, t, rfl, hoc, hdc, hvc⟩ ?_
    rw [hbind]
    refine wpAny_pure (wpAny_newFunctionEnv (fun y hy => (L.own y hy).2) (fun y hy => absurd hy (by simp)) (fun h₁ hns hsb => ⟨lim.fresh _ hsb, ?_⟩) L.kind)
    show codeAny _ _ (.expr body (lamEnv X scope s1.heap.objs.size f c')) _ _
    have kp2 : ∀ b o, s1.heap.get? b = some o → h₁.get? b = some o := fun b o e => hsb.extBut b o (Nat.ne_of_lt (Heap.lt_size e)) (Heap.get?_push_of_some _ e)
    have J : L2.Inv (lamCx X A outer s1 H1 E scope f c') [] σ H1 { s1 with heap := h₁, toks := s1.toks + ([] : List (Str × Value)).length } :=
      lam_start3 I L e0 hr.hd (fun y c hy => kp c (List.mem_filterMap.mpr (by
        obtain ⟨c0, hc0⟩ : ∃ p ∈ X.env.cells, p.1 = y := ⟨_, PySem.mem_of_lookup hy, rfl⟩
        exact ⟨c0, hc0.1, by rw [hc0.2]; exact hy⟩))) hns kp2
    refine PySem.W.kla_codeExpr (wpAny_mono ((hbody _ _ s1 H1 E (hr.deeper _)).run [] _ _ H1 Q J ht) (fun v s' hq => ?_) fun e s' hq => hq)
    obtain ⟨w', H', J', rv, q⟩ := hq
    exact ⟨w', H', J'.os, J'.bare, J'.base, J'.hok, rv, q⟩
/-- x(), x a local that holds such a callable; told by what stood at the entry -/
def tActZ (P : Program) (w : World) (K : PySem.W.Frag) (mg : Str → Option Value) (base : Heap) (k i : Nat) (fr0 fr : List Addr) (s0 : Shared) (H0 : Hp) (E : L2.St → XK) : TE := fun σ H Q => ∃ (f : Addr) (tl : Hp → VK → XK → Prop), σ[i]? = some (some (.ref f)) ∧ (∀ s1 : Shared, Un fr0 [] H0 H s0.heap s1.heap → LamAt P w K mg base k fr s1 H f tl) ∧ tl H Q (E σ)
theorem pe_actZ {P : Program} {w : World} {K : PySem.W.Frag} {mg : Str → Option Value} {base : Heap} {fr0 fr : List Addr} {s0 : Shared} {H0 : Hp} {k i : Nat} {E : L2.St → XK} {a : Str} {p1 p2 : Pos} (hP : X.prog = P) (hw : X.w = w) (hK : X.K = K) (hmg : X.mg = mg) (hba : X.base = base) (hfs : X.fs = fr0) (hst : frs X.stack = fr) (hs0 : X.s_0 = s0) (hH0 : X.H_0 = H0) (hex : X.ex = [])
    (hx : ∀ σ, PassesAt (L2.CX X.prog X.w) X σ (E σ)) (hr : Room k X.A) (hN : X.N[i]? = some a) (hv : Vis X.env.scope a) (hd : (a == ("__debug__" : Str)) = false := by decide) (hcd : (a == ("__classdict__" : Str)) = false := by decide) :
    PE X (.Call (.Name a p1) [] [] p2) (tActZ P w K mg base k i fr0 fr s0 H0 E) := by
  subst hP hw hK hmg hba hfs hst hs0 hH0
  refine ⟨fun pins s σ H Q I h => ?_⟩
  obtain ⟨f, tl, hs, hl, ht⟩ := h
  refine wpAny_Call_Name_kw (thn ((pe_var (pos := p1) (i := i) hN hv hd hcd).run pins s σ H (fun v H1 => v = .ref f ∧ H1 = H) I ⟨.ref f, hs, rfl, rfl⟩) fun u s1 ⟨v, H1, I1, r1, q1⟩ => ?_)
  obtain ⟨ev, eH⟩ := q1
  subst ev
  rw [eH] at I1
  obtain rfl : u = Value.ref f := r1
  have ub := I1.base
  rw [hex] at ub
  obtain ⟨⟨F, hF⟩, Fp, h1, h2⟩ := hl s1 ub
  obtain ⟨pm, ctv, of1⟩ := lamO_at I1.hok hF
  refine PySem.W.callWith_F0 ⟨_, _, _, _, of1⟩ ?_
  refine wpAny_call (codeAny_mono (h2 X.A X.stack s1 H Q (E σ) hr I1.env0 (Evl.Ex.refl H) (fun b hb => ⟨(h1 b hb).1, fun o ho => ho⟩) ht) fun r s' hq => ?_)
  cases r with
  | error e => exact hx σ pins H s1 e s' I1 hq
  | ok fl =>
    cases fl with
    | ret u => exact I1.after hq
    | next => exact False.elim hq
    | brk => exact False.elim hq
    | cont => exact False.elim hq
end
end Kb
set_option Elab.async false
set_option linter.all false
set_option maxRecDepth 100000
set_option maxHeartbeats 4000000
namespace Kb
open PySem PySem.Spec PyProof.Rows L2 LamX
/-! ### promises that speak of the very state -/
abbrev SpZ := Shared → List Addr → List V → Hp → VK → Prop
structure FnZ (P : Program) (w : World) (K : PySem.W.Frag) (mg : Str → Option Value) (base : Heap) (k : Nat) (f : Addr) (fd : FuncData) (ps : List Str) (sp : SpZ) : Prop where
  len : ∀ s fr vs H Q, sp s fr vs H Q → vs.length = ps.length
  run : ∀ (A : Around) (outer : List Env) (s : Shared) (H : Hp) (args : Args) (us : List Value) (vs : List V) (Q : VK), Room k A → A.guards = some [] → Env0 P w K mg base A outer s H → BindsTo s fd args (ps.zip us) → Vals vs us → sp s (frs outer) vs H Q →
    codeAny (model P w) A (.call (.ref f) args) (CR C8.CX0 outer P w H s Q C8.E0) s
structure Gz (P : Program) (w : World) (K : PySem.W.Frag) (mg : Str → Option Value) (base : Heap) (k : Nat) (x : Str) (ps : List Str) (sp : SpZ) : Prop where
  ex : ∃ (f : Addr) (fd : FuncData), FnZ P w K mg base k f fd ps sp ∧ L2.Binds K fd ps [] ∧ PySem.W.keepIn K (.ref f) = true ∧ mg x = some (.ref f)
section
variable {P : Program} {w : World} {K : PySem.W.Frag} {mg : Str → Option Value} {base : Heap}
theorem Df.gz {x : Str} {st : Stmt} {N ps : List Str} {k : Nat} {sp : SpZ} (D : Df K mg x st ps) (S : FnScope N ps (defScope st)) (len : ∀ s fr vs H Q, sp s fr vs H Q → vs.length = ps.length)
    (hbody : ∀ (f : Addr) (cdv : Value) (A : Around) (outer : List Env) (s : Shared) (H : Hp) (vs : List V) (Q : VK), Room k (A.deeper (envOfC x (defScope st) s.heap.objs.size f cdv)) → A.guards = some [] → sp s (frs outer) vs H Q →
      ∃ t, PSs (cxOf C8.CX0 P w K mg base N x (defScope st) f cdv A outer s H C8.E0).nox (defBody st) t ∧ t { nx := fun _ H' => Q .non H', rt := Q } (L2.start N vs) H) : Gz P w K mg base (k + 1) x ps sp := by
  obtain ⟨f, fd, F, b, kp, g⟩ := D.ex
  obtain ⟨oc, od, kV, doc, pm, an, cdv, ct, osl, rfl, lk, hcd⟩ := F.ex
  refine ⟨f, _, ⟨len, fun A outer s H args us vs Q hr hgd e0 hb r hsp => ?_⟩, b, kp, g⟩
  refine run_ofS lk hcd S hr e0 hb r (len _ _ _ _ _ hsp) fun hr' => ?_
  obtain ⟨t, h, q⟩ := hbody f cdv A outer s H vs Q hr' hgd hsp
  exact ⟨t, h.nox, q⟩
end
section
variable {X : Cx} {j k : Nat} {ps : List Str} {sp : SpZ} {x : Str} {p pos : Pos} {e : Expr} {es : List Expr} {t : TA}
def tCallZ (X : Cx) (sp : SpZ) (t : TA) : TE := fun σ H Q => t σ H fun vs H1 => ∀ pins s1, L2.Inv X pins σ H1 s1 → sp s1 (frs X.stack) vs H1 Q
theorem pe_cz (G : Gz X.prog X.w X.K X.mg X.base j x ps sp) (hr : Room k X.A) (hgd : X.A.guards = some []) (hg : Gl X x) (ha : PA X (e :: es) t) (hj : j ≤ k := by first | decide | omega)
    (hdb : (x == ("__debug__" : Str)) = false := by decide) (he : starEach (e :: es) X.env = (false, eval e X.env) :: starEach es X.env := by rfl) (hpl : (backTo pos (starEach es X.env)).any (·.1) = false := by rfl) :
    PE X (.Call (.Name x p) (e :: es) [] pos) (tCallZ X sp t) := by
  obtain ⟨f, fd, F, b, kp, g⟩ := G.ex
  refine ⟨fun pins s σ H Q I h => ?_⟩
  refine wpAny_Call_Name_kw (ld_glob I hg g ?_ hdb)
  refine PySem.W.callWith_K (h₀ := X.base) I.ok.mod.kin kp (thn (ha.run pos pins s σ H _ I h) fun us s1 ⟨vs, H1, I1, r, q1⟩ => ⟨I1.kIn, ?_⟩) he hpl
  have q := q1 pins s1 I1
  have hl : us.length = ps.length := by rw [← r.length]; exact F.len _ _ _ _ _ q
  have bd := b s1 us I1.kIn (by rw [List.append_nil]; exact hl)
  rw [List.append_nil] at bd
  refine wpAny_call (codeAny_mono (F.run X.A X.stack s1 H1 ⟨us, []⟩ us vs Q (hr.mono hj) hgd I1.env0 bd r q) fun r' s' hq => ?_)
  cases r' with
  | error e => exact False.elim hq
  | ok fl =>
    cases fl with
    | ret u => exact I1.after hq
    | next => exact False.elim hq
    | brk => exact False.elim hq
    | cont => exact False.elim hq
end
end Kb
set_option Elab.async false
set_option linter.all false
set_option maxRecDepth 100000
set_option maxHeartbeats 4000000
namespace Kb
open PySem PySem.Spec PyProof.Rows L2 Evl
def lettersS : Str := "abcdefghijklmnopqrstuvwxyz"
def digitsS : Str := "0123456789"
def wordsL : List Str := ["nil", "new", "free", "if", "else", "while", "keep", "end", "call", "with", "needs", "gives", "routine"]
structure WT (K : PySem.W.Frag) (mg : Str → Option Value) : Prop where
  LETTERS : Gc mg "LETTERS" (.str lettersS)
  DIGITS : Gc mg "DIGITS" (.str digitsS)
  MOST_SIGNS : Gc mg "MOST_SIGNS" (.int 12)
  MOST_DIGITS : Gc mg "MOST_DIGITS" (.int 6)
  WORDS : Gc mg "WORDS" (.ref (He.ga K "WORDS"))
  words : ∀ H, SqT K H (He.ga K "WORDS") (wordsL.map V.str)
def digC (c : Nat) : Bool := decide (c ∈ digitsS.cps.toList)
def nameZ (z : Str) : Bool := (decide (1 ≤ (z.length : Int)) && decide ((z.length : Int) ≤ 12) && !inV (.str z) (wordsL.map V.str)) && (decide (((Txt.lstripChars z lettersS).length : Int) < z.length) && (Txt.lstripChars z lettersS).cps.toList.all digC)
def nameD : PyData → Bool
  | .str z => nameZ z
  | _ => false
section
variable {P : Program} {w : World} {K : PySem.W.Frag} {mg : Str → Option Value} {base : Heap}
theorem ok_is_plain_name (B : Bi mg) (W : WT K mg) (D : Df K mg "is_plain_name" s_is_plain_name ["value"]) : Gv P w K mg base CX0 1 "is_plain_name" ["value"] (spB K TxtOk nameD) := by
  have nd := sc_is_plain_name.nd
  refine D.gv sc_is_plain_name (fun vs H Q E h => ?_) (fun f cdv A outer s H vs Q E hr h => ?_)
  · obtain ⟨v, d, rfl, _⟩ := h
    rfl
  have hu64 := hu64_of hr
  refine ⟨_, (pss_cons (ps_if (PW.pt (pw_or (pt_not (pt_val (pe_callB (id := "isinstance") (r := rIsi K) call_isi rfl B.isi (by decide +kernel) (pa_cons (pv 0) (pa_cons (pe_bltn (v := .ty "str") rfl B.str (by decide +kernel) rfl) pa_nil))))) (pw_or (pt_not (pt_chain op_le op_le pe_int (pe_callB (r := rLen K) callA_len rfl B.len (by decide +kernel) (pa_cons (pv 0) pa_nil)) (pe_gc W.MOST_SIGNS rfl))) (pw_or1 (pt_cmpR (r := rInA K) (opA_in hu64) (pv 0) (pe_gc W.WORDS rfl) rfl))))) (pss_one (ps_ret pe_bl)) pss_nil)
    (pss_cons (ps_set (i := 1) nd rfl (.inl rfl) (pe_bmK (K := K) rfl PySem.F.plainAttrs_str PySem.F.slot_str_lstrip PySem.F.type_str_lstrip mt_lstripChars (pv 0) (pa_cons (pe_gc W.LETTERS rfl) pa_nil)))
    (pss_one (ps_ret (pe_and (pe_cmpR opA_lt (pe_callB (r := rLen K) callA_len rfl B.len (by decide +kernel) (pa_cons (pv 1) pa_nil)) (pe_callB (r := rLen K) callA_len rfl B.len (by decide +kernel) (pa_cons (pv 0) pa_nil)) (nomark _)) (pe_one (pe_callB (r := rAll K) (cr_all rfl) rfl B.all (by decide +kernel) (pa_cons (pe_lc (own := [("sign", 2)]) rfl nd (piA_seq (pv 1)) (blk_ok (by kernel_rfl)) (fun _ _ _ _ _ => (pg_name (i := 2) nd rfl (.inl rfl))) (fun _ _ _ _ _ => pts_nil) (fun _ _ _ _ _ => (pe_cmpR (r := rInA K) (opA_in hu64) (pv 2) (pe_gc W.DIGITS rfl) rfl))) pa_nil)))))))), ?_⟩
  obtain ⟨v, d, rfl, hd, hc, hQ⟩ := h
  cases hz : strD d with
  | none =>
    have hb : isB "str" d = false := by rw [isB_str, hz]; rfl
    have hm : nameD d = false := by cases d <;> first | rfl | cases hz
    rw [hm] at hQ
    refine q_when (b := true) (et_is (et_or (b := false) (et_not (et_B (ev_isiD (ev_var rfl) hd (kit_str d)))) (fun z => by rw [hb] at z; cases z)) (by rw [hb]; rfl)) (fun _ H1 e => s_ret ev_c fun H2 e2 => hQ H2 (e.trans e2)) (fun z => nomatch z)
  | some z =>
    obtain rfl : d = .str z := by cases d <;> first | (injection hz with hz; rw [hz]) | cases hz
    cases hd
    have hz4 : z.length ≤ 40000 := hc
    have hz2 : z.length ≤ 100000 := Nat.le_trans hz4 (by decide)
    have hlb : (Txt.lstripChars z lettersS).length ≤ z.length := len_lstripChars _ _
    refine q_when (b := (false || (!(decide (1 ≤ (z.length : Int)) && decide ((z.length : Int) ≤ 12)) || inV (.str z) (wordsL.map V.str))))
      (et_or (a := false) (et_not (et_B (ev_isiD (d := .str z) (ev_var rfl) (.str _) (kit_str _)))) (fun _ => et_or (et_not (et_test (ev_chain ev_c (ev_lenT (ev_var rfl) hz2) ev_c rv_I0 (fun _ => rv_I0)))) (fun _ => et_test (ev_op (ev_var rfl) ev_c (rv_inA (W.words _) rfl rfl)))))
      (fun b H1 e => s_ret ev_c fun H2 e2 => ?_) (fun b H1 e => ?_)
    · have key : ∀ A B W X : Bool, (false || (!(A && B) || W)) = true → ((A && B && !W) && X) = false := by decide
      have hm : nameD (.str z) = false := key _ _ _ _ b
      rw [hm] at hQ
      exact hQ H2 (e.trans e2)
    · have key : ∀ A B W X : Bool, (false || (!(A && B) || W)) = false → ((A && B && !W) && X) = X := by decide
      have hm : nameD (.str z) = _ := key _ _ _ _ b
      rw [hm] at hQ
      refine q_asg (ev_bm1 (ev_var rfl) ev_c (fun _ => rfl) fun H1 Q q => ⟨_, _, rfl, rfl, sz_of hz2, q⟩) fun H2 e2 => ?_
      refine s_ret (ev_andV (ev_op (ev_lenT (ev_var rfl) (Nat.le_trans hlb hz2)) (ev_lenT (ev_var rfl) hz2) rv_lt) (fun _ => ev_allN (el_is (el_lcS (fun _ => true) (fun i => .bl (digC ((Txt.lstripChars z lettersS).cps.getD i 0))) (ev_var rfl) (Nat.le_trans hlb hz4) (fun _ => rfl) (fun i c H1 e hc => fun H2 e2 Q q => q H2 (Ex.refl H2)) (fun i c H1 e hc _ => ev_is (ev_op (ev_var rfl) ev_c rv_inc) (by rw [getD_of hc]; rfl))) given_txt))) (fun H3 e3 => ?_)
      have q := hQ H3 ((e.trans e2).trans e3)
      rw [List.all_map]
      exact q
/-- the i-th sign as a text -/
def signAt (z : Str) (i : Nat) : V := .str ⟨#[z.cps.getD i 0]⟩
theorem sign_at {z : Str} {i : Nat} (h : i < z.length) : atI z.cps.toList (i : Int) = some (z.cps.getD i 0) := by
  have h2 : i < z.cps.size := h
  refine atI_nat (j := i) ?_
  rw [Array.getElem?_toList, Array.getElem?_eq_getElem h2]
  simp [Array.getD, h2]
def hiddenZ (z : Str) : Bool := (decide (2 ≤ (z.length : Int)) && decide ((z.length : Int) ≤ 7) && decide (signAt z 0 = .str ".")) && ((cutS z (some 1) none).cps.toList.all digC && (!decide (signAt z 1 = .str "0") || decide (V.int z.length = .int 2)))
def hiddenD : PyData → Bool
  | .str z => hiddenZ z
  | _ => false
theorem ok_is_hidden (B : Bi mg) (W : WT K mg) (D : Df K mg "is_hidden" s_is_hidden ["value"]) : Gv P w K mg base CX0 1 "is_hidden" ["value"] (spB K TxtOk hiddenD) := by
  have nd := sc_is_hidden.nd
  refine D.gv sc_is_hidden (fun vs H Q E h => ?_) (fun f cdv A outer s H vs Q E hr h => ?_)
  · obtain ⟨v, d, rfl, _⟩ := h
    rfl
  have hu64 := hu64_of hr
  refine ⟨_, (pss_cons (ps_if (PW.pt (pw_or (pt_not (pt_val (pe_callB (id := "isinstance") (r := rIsi K) call_isi rfl B.isi (by decide +kernel) (pa_cons (pv 0) (pa_cons (pe_bltn (v := .ty "str") rfl B.str (by decide +kernel) rfl) pa_nil))))) (pw_or (pt_not (pt_chain op_le op_le pe_int (pe_callB (r := rLen K) callA_len rfl B.len (by decide +kernel) (pa_cons (pv 0) pa_nil)) (pe_op (r := rAdd K) opA_add (pe_gc W.MOST_DIGITS rfl) pe_int))) (pw_or1 (pt_cmpR (r := rNeA K) (opA_ne hu64) (pe_ix (r := rIx K) ix_seq (pv 0) pe_int (fun _ _ => rfl)) pe_str (nomark _)))))) (pss_one (ps_ret pe_bl)) pss_nil)
    (pss_one (ps_ret (pe_and (pe_callB (r := rAll K) (cr_all rfl) rfl B.all (by decide +kernel) (pa_cons (pe_lc (own := [("sign", 1)]) rfl nd (piA_seq (pe_slice (r := rSl K) slA (pv 0) (po_some pe_int) po_none)) (blk_ok (by kernel_rfl)) (fun _ _ _ _ _ => (pg_name (i := 1) nd rfl (.inl rfl))) (fun _ _ _ _ _ => pts_nil) (fun _ _ _ _ _ => (pe_cmpR (r := rInA K) (opA_in hu64) (pv 1) (pe_gc W.DIGITS rfl) rfl))) pa_nil)) (pe_one (pe_or (pe_cmpR (r := rNeA K) (opA_ne hu64) (pe_ix (r := rIx K) ix_seq (pv 0) pe_int (fun _ _ => rfl)) pe_str (nomark _)) (pe_one (pe_cmpR (r := rEqA K) (opA_eq hu64) (pe_callB (r := rLen K) callA_len rfl B.len (by decide +kernel) (pa_cons (pv 0) pa_nil)) pe_int (nomark _))))))))), ?_⟩
  obtain ⟨v, d, rfl, hd, hc, hQ⟩ := h
  cases hz : strD d with
  | none =>
    have hb : isB "str" d = false := by rw [isB_str, hz]; rfl
    have hm : hiddenD d = false := by cases d <;> first | rfl | cases hz
    rw [hm] at hQ
    refine q_when (b := true) (et_is (et_or (b := false) (et_not (et_B (ev_isiD (ev_var rfl) hd (kit_str d)))) (fun z => by rw [hb] at z; cases z)) (by rw [hb]; rfl)) (fun _ H1 e => s_ret ev_c fun H2 e2 => hQ H2 (e.trans e2)) (fun z => nomatch z)
  | some z =>
    obtain rfl : d = .str z := by cases d <;> first | (injection hz with hz; rw [hz]) | cases hz
    cases hd
    have hz4 : z.length ≤ 40000 := hc
    have hz2 : z.length ≤ 100000 := Nat.le_trans hz4 (by decide)
    have hge : ∀ {b : Bool}, (!(decide (2 ≤ (z.length : Int)) && b)) = false → 2 ≤ z.length := fun {b} h => by
      have : decide (2 ≤ (z.length : Int)) = true := by cases b <;> simp_all
      have := of_decide_eq_true this
      omega
    refine q_when (b := (false || (!(decide (2 ≤ (z.length : Int)) && decide ((z.length : Int) ≤ 7)) || !decide (signAt z 0 = .str "."))))
      (et_or (a := false) (et_not (et_B (ev_isiD (d := .str z) (ev_var rfl) (.str _) (kit_str _)))) (fun _ => et_or (et_not (et_test (ev_chain ev_c (ev_lenT (ev_var rfl) hz2) (ev_op ev_c ev_c rv_add) rv_I0 (fun _ => rv_I0)))) (fun hb => et_test (ev_op (ev_op (ev_var rfl) ev_c (rv_iS hz2 (sign_at (i := 0) (by have := hge hb; omega)))) ev_c (rv_nes rfl)))))
      (fun b H1 e => s_ret ev_c fun H2 e2 => ?_) (fun b H1 e => ?_)
    · have key : ∀ A B W X : Bool, (false || (!(A && B) || !W)) = true → ((A && B && W) && X) = false := by decide
      have hm : hiddenD (.str z) = false := key _ _ _ _ b
      rw [hm] at hQ
      exact hQ H2 (e.trans e2)
    · have key : ∀ A B W X : Bool, (false || (!(A && B) || !W)) = false → ((A && B && W) && X) = X := by decide
      have hm : hiddenD (.str z) = _ := key _ _ _ _ b
      rw [hm] at hQ
      have h2 : 2 ≤ z.length := hge (b := decide ((z.length : Int) ≤ 7)) (by revert b; generalize (!(_ && _)) = A; cases A <;> simp)
      have hcl : (cutS z (some 1) none).cps.size ≤ 40000 := Nat.le_trans (cutS_length z _ _) hz4
      refine s_ret (ev_andV (ev_allN (el_is (el_lcS (fun _ => true) (fun i => .bl (digC ((cutS z (some 1) none).cps.getD i 0))) (ev_slS (ev_var rfl) (eo_some ev_c) eo_none hz2) hcl (fun _ => rfl) (fun i c H1 e hc => fun H2 e2 Q q => q H2 (Ex.refl H2)) (fun i c H1 e hc _ => ev_is (ev_op (ev_var rfl) ev_c rv_inc) (by rw [getD_of hc]; rfl))) given_txt))
        (fun _ => ev_orV (ev_op (ev_op (ev_var rfl) ev_c (rv_iS hz2 (sign_at (i := 1) (by omega)))) ev_c (rv_nes rfl)) (fun _ => ev_op (ev_lenT (ev_var rfl) hz2) ev_c (rv_eqs rfl)))) (fun H3 e3 => ?_)
      have q := hQ H3 (e.trans e3)
      rw [List.all_map]
      exact q
def plainD : PyData → Bool
  | .str z => decide (V.str z = .str "nil") || nameZ z
  | _ => false
def termD (d : PyData) : Bool := plainD d || hiddenD d
theorem ok_is_plain {k : Nat} (B : Bi mg) (g_is_plain_name : Gv P w K mg base CX0 1 "is_plain_name" ["value"] (spB K TxtOk nameD)) (D : Df K mg "is_plain" s_is_plain ["value"]) : Gv P w K mg base CX0 2 "is_plain" ["value"] (spB K TxtOk plainD) := by
  refine D.gv sc_is_plain (fun vs H Q E h => ?_) (fun f cdv A outer s H vs Q E hr h => ?_)
  · obtain ⟨v, d, rfl, _⟩ := h
    rfl
  have hu64 := hu64_of hr
  refine ⟨_, (pss_one (ps_ret (pe_and (pe_callB (id := "isinstance") (r := rIsi K) call_isi rfl B.isi (by decide +kernel) (pa_cons (pv 0) (pa_cons (pe_bltn (v := .ty "str") rfl B.str (by decide +kernel) rfl) pa_nil))) (pe_one (pe_or (pe_cmpR (r := rEqA K) (opA_eq hu64) (pv 0) pe_str (nomark _)) (pe_one (pe_cg g_is_plain_name hr rfl pass0 (pa_cons (pv 0) pa_nil)))))))), ?_⟩
  obtain ⟨v, d, rfl, hd, hc, hQ⟩ := h
  refine s_ret (v := .bl (plainD d)) (ev_is (ev_andV (b := plainD d) (ev_isiD (ev_var rfl) hd (kit_str d)) (fun e => ?_)) ?_) (fun H1 e1 => hQ H1 e1)
  · rw [isB_str] at e
    obtain ⟨z, hz⟩ := Option.isSome_iff_exists.mp e
    obtain rfl : d = .str z := by cases d <;> first | (injection hz with hz; rw [hz]) | cases hz
    cases hd
    exact ev_orV (ev_op (ev_var rfl) ev_c (rv_eqs rfl)) (fun _ => ev_call (ea_cons (ev_var rfl) ea_nil) (spB_v (.str z) hc))
  · rw [isB_str]
    cases d <;> rfl
theorem ok_is_term (B : Bi mg) (g_is_plain : Gv P w K mg base CX0 2 "is_plain" ["value"] (spB K TxtOk plainD)) (g_is_hidden : Gv P w K mg base CX0 1 "is_hidden" ["value"] (spB K TxtOk hiddenD)) (D : Df K mg "is_term" s_is_term ["value"]) : Gv P w K mg base CX0 3 "is_term" ["value"] (spB K TxtOk termD) := by
  refine D.gv sc_is_term (fun vs H Q E h => ?_) (fun f cdv A outer s H vs Q E hr h => ?_)
  · obtain ⟨v, d, rfl, _⟩ := h
    rfl
  refine ⟨_, (pss_one (ps_ret (pe_or (pe_cg g_is_plain hr rfl pass0 (pa_cons (pv 0) pa_nil)) (pe_one (pe_cg g_is_hidden hr rfl pass0 (pa_cons (pv 0) pa_nil)))))), ?_⟩
  obtain ⟨v, d, rfl, hd, hc, hQ⟩ := h
  exact s_ret (ev_orV (ev_call (ea_cons (ev_var rfl) ea_nil) (spB_v hd hc)) (fun _ => ev_call (ea_cons (ev_var rfl) ea_nil) (spB_v hd hc))) (fun H1 e1 => hQ H1 e1)
/-- is it less, of two texts or two numbers -/
def ltV : V → V → Bool
  | .int i, .int j => decide (i < j)
  | .str i, .str j => decide (i.cps.toList < j.cps.toList)
  | _, _ => false
def ltKind : List V → Prop := fun xs => (∀ x ∈ xs, ∃ i, x = V.int i) ∨ (∀ x ∈ xs, ∃ i, x = V.str i)
theorem rv_ltV {H : Hp} {x y : V} (h : (∃ i j, x = V.int i ∧ y = V.int j) ∨ (∃ i j, x = V.str i ∧ y = V.str j)) : RV rLt x y H (.bl (ltV x y)) := by
  rcases h with ⟨i, j, rfl, rfl⟩ | ⟨i, j, rfl, rfl⟩
  · exact rv_lt
  · exact rv_ltS
def risV (xs : List V) : Bool := ((List.range ((xs.length : Int) - 1).toNat).map fun i => ltV (xs.getD i .non) (xs.getD (i + 1) .non)).all id
def spRising (K : PySem.W.Frag) : Sp := fun vs H Q _ => ∃ (p : Addr) (xs : List V), vs = [.ref p] ∧ SqL K H p xs ∧ xs.length ≤ 40000 ∧ ltKind xs ∧ ∀ H', Ex H H' → Q (.bl (risV xs)) H'
theorem getD_at {xs : List V} {i : Nat} (h : i < xs.length) : atI xs (i : Int) = some (xs.getD i .non) := by
  refine atI_nat (j := i) ?_
  rw [List.getElem?_eq_getElem h]
  simp [h]
theorem getD_mem {xs : List V} {i : Nat} (h : i < xs.length) : xs.getD i .non ∈ xs := by
  simp [h]
theorem ok_rising (B : Bi mg) (D : Df K mg "rising" s_rising ["value"]) : Gv P w K mg base CX0 1 "rising" ["value"] (spRising K) := by
  have nd := sc_rising.nd
  refine D.gv sc_rising (fun vs H Q E h => ?_) (fun f cdv A outer s H vs Q E hr h => ⟨_, (pss_one (ps_ret (pe_callB (r := rAll K) (cr_all rfl) rfl B.all (by decide +kernel) (pa_cons (pe_lc (own := [("at", 1)]) rfl nd (pi_range1 rfl B.range (pa_cons (pe_op op_sub (pe_callB (r := rLen K) callA_len rfl B.len (by decide +kernel) (pa_cons (pv 0) pa_nil)) pe_int) pa_nil)) (blk_ok (by kernel_rfl)) (fun _ _ _ _ _ => (pg_name (i := 1) nd rfl (.inl rfl))) (fun _ _ _ _ _ => pts_nil) (fun _ _ _ _ _ => (pe_cmpR opA_lt (pe_ix (r := rIx K) ix_seq (pv 0) (pv 1) (fun _ _ => rfl)) (pe_ix (r := rIx K) ix_seq (pv 0) (pe_op (r := rAdd K) opA_add (pv 1) pe_int) (fun _ _ => rfl)) (nomark _)))) pa_nil)))), ?_⟩)
  · obtain ⟨v, d, rfl, _⟩ := h
    rfl
  obtain ⟨p, xs, rfl, hx, hl, hk, hQ⟩ := h
  refine s_ret (ev_allN (el_is (el_lcR (n := (xs.length : Int) - 1) (fun _ => true) (fun i => .bl (ltV (xs.getD i .non) (xs.getD (i + 1) .non))) (ea_cons (ev_op (ev_lenL (ev_var rfl) hx) ev_c rv_I0) ea_nil) (by omega) (fun _ => rfl) (fun i H1 e hi H2 e2 Q q => q H2 (Ex.refl H2)) (fun i H1 e hi _ => ?_) (by omega)) (given_bl _))) (fun H1 e1 => hQ H1 e1)
  have e2 : ((i : Int) + 1) = ((i + 1 : Nat) : Int) := by omega
  have h1 : i < xs.length := by omega
  have h2 : i + 1 < xs.length := by omega
  have m1 := getD_mem h1
  have m2 := getD_mem h2
  refine ev_op (ev_op (ev_var rfl) (ev_var rfl) (rv_iL (ex_l e hx) (getD_at h1))) (ev_op (ev_var rfl) (ev_op (ev_var rfl) ev_c rv_add) (rv_iL (ex_l e hx) (by rw [e2]; exact getD_at h2))) (rv_ltV ?_)
  rcases hk with hk | hk
  · obtain ⟨a, ha⟩ := hk _ m1
    obtain ⟨b, hb⟩ := hk _ m2
    exact .inl ⟨a, b, ha, hb⟩
  · obtain ⟨a, ha⟩ := hk _ m1
    obtain ⟨b, hb⟩ := hk _ m2
    exact .inr ⟨a, b, ha, hb⟩
end
end Kb
set_option Elab.async false
set_option linter.all false
set_option maxRecDepth 100000
set_option maxHeartbeats 4000000
namespace Kb
open PySem PySem.Spec PyProof.Rows L2 Evl
structure WS (K : PySem.W.Frag) (mg : Str → Option Value) : Prop extends WT K mg where
  MOST_VALUE : Gc mg "MOST_VALUE" (.int 1000000)
  MOST_NAMES : Gc mg "MOST_NAMES" (.int 60)
  MOST_CELLS : Gc mg "MOST_CELLS" (.int 40)
def noC (_ : PyData) : Prop := True
def numD : PyData → Bool
  | .int i => decide (i ≥ 0)
  | _ => false
def valueD : PyData → Bool
  | .int i => decide (i ≥ 0) && decide (i ≤ 1000000)
  | _ => false
def addrD : PyData → Bool
  | .int i => decide (1 ≤ i) && decide (i ≤ 1000000)
  | _ => false
/-- the value of a number or text -/
def dV : PyData → V
  | .int i => .int i
  | .str s => .str s
  | .bool b => .bl b
  | _ => .non
def storeD : PyData → Bool
  | .tuple ds => !decide ((ds.length : Int) > 60) && (ds.all pairD && (ds.all (fun r => nameD (pr1 r) && valueD (pr2 r)) && risV (ds.map fun r => dV (pr1 r))))
  | _ => false
def heapD : PyData → Bool
  | .tuple ds => !decide ((ds.length : Int) > 40) && (ds.all pairD && (ds.all (fun r => addrD (pr1 r) && valueD (pr2 r)) && risV (ds.map fun r => dV (pr1 r))))
  | _ => false
theorem storeD_t (ds : List PyData) : storeD (.tuple ds) = (!decide ((ds.length : Int) > 60) && (ds.all pairD && (ds.all (fun r => nameD (pr1 r) && valueD (pr2 r)) && risV (ds.map fun r => dV (pr1 r))))) := rfl
theorem heapD_t (ds : List PyData) : heapD (.tuple ds) = (!decide ((ds.length : Int) > 40) && (ds.all pairD && (ds.all (fun r => addrD (pr1 r) && valueD (pr2 r)) && risV (ds.map fun r => dV (pr1 r))))) := rfl
def RowsTxt (d : PyData) : Prop := ∀ ds, d = .tuple ds → ∀ r ∈ ds, TxtOk (pr1 r)
section
variable {P : Program} {w : World} {K : PySem.W.Frag} {mg : Str → Option Value} {base : Heap} {H : Hp} {v : V} {d : PyData} {σ : L2.St} {te : TE}
theorem ok_is_whole (B : Bi mg) (D : Df K mg "is_whole" s_is_whole ["value"]) : Gv P w K mg base CX0 1 "is_whole" ["value"] (spB K noC wholeD) := by
  refine D.gv sc_is_whole (fun vs H Q E h => ?_) (fun f cdv A outer s H vs Q E hr h => ⟨_, (pss_one (ps_ret (pe_and (pe_callB (id := "isinstance") (r := rIsi K) call_isi rfl B.isi (by decide +kernel) (pa_cons (pv 0) (pa_cons (pe_bltn (v := .ty "int") rfl B.int (by decide +kernel) rfl) pa_nil))) (pe_one (pe_not (pe_callB (id := "isinstance") (r := rIsi K) call_isi rfl B.isi (by decide +kernel) (pa_cons (pv 0) (pa_cons (pe_bltn (v := .ty "bool") rfl B.bool (by decide +kernel) rfl) pa_nil)))))))), ?_⟩)
  · obtain ⟨v, d, rfl, _⟩ := h
    rfl
  obtain ⟨v, d, rfl, hd, hc, hQ⟩ := h
  exact s_ret (ev_is (ev_andV (ev_isiD (ev_var rfl) hd (kit_int d)) (fun _ => ev_notV (ev_isiD (ev_var rfl) hd (kit_bool d)))) (by rw [isB_whole])) (fun H1 e1 => hQ H1 e1)
theorem ok_is_number (B : Bi mg) (g_is_whole : Gv P w K mg base CX0 1 "is_whole" ["value"] (spB K noC wholeD)) (D : Df K mg "is_number" s_is_number ["value"]) : Gv P w K mg base CX0 2 "is_number" ["value"] (spB K noC numD) := by
  refine D.gv sc_is_number (fun vs H Q E h => ?_) (fun f cdv A outer s H vs Q E hr h => ⟨_, (pss_one (ps_ret (pe_and (pe_cg g_is_whole hr rfl pass0 (pa_cons (pv 0) pa_nil)) (pe_one (pe_cmpR op_ge (pv 0) pe_int (nomark _)))))), ?_⟩)
  · obtain ⟨v, d, rfl, _⟩ := h
    rfl
  obtain ⟨v, d, rfl, hd, hc, hQ⟩ := h
  refine s_ret (v := .bl (numD d)) ?_ (fun H1 e1 => hQ H1 e1)
  refine ev_is (ev_andV (b := numD d) (ev_call (ea_cons (ev_var rfl) ea_nil) (spB_v hd trivial)) (fun e => ?_)) ?_
  · cases d <;> first | cases e | skip
    cases hd
    exact ev_op (ev_var rfl) ev_c rv_I0
  · cases d <;> rfl
theorem ok_is_value (B : Bi mg) (W : WS K mg) (g_is_number : Gv P w K mg base CX0 2 "is_number" ["value"] (spB K noC numD)) (D : Df K mg "is_value" s_is_value ["value"]) : Gv P w K mg base CX0 3 "is_value" ["value"] (spB K noC valueD) := by
  refine D.gv sc_is_value (fun vs H Q E h => ?_) (fun f cdv A outer s H vs Q E hr h => ⟨_, (pss_one (ps_ret (pe_and (pe_cg g_is_number hr rfl pass0 (pa_cons (pv 0) pa_nil)) (pe_one (pe_cmpR op_le (pv 0) (pe_gc W.MOST_VALUE rfl) (nomark _)))))), ?_⟩)
  · obtain ⟨v, d, rfl, _⟩ := h
    rfl
  obtain ⟨v, d, rfl, hd, hc, hQ⟩ := h
  refine s_ret (v := .bl (valueD d)) ?_ (fun H1 e1 => hQ H1 e1)
  cases d with
  | int i =>
    cases hd
    exact ev_andV (ev_call (ea_cons (ev_var rfl) ea_nil) (spB_v (.int i) trivial)) (fun e => ev_op (ev_var rfl) ev_c rv_I0)
  | _ => exact ev_is (ev_andV (b := false) (ev_call (ea_cons (ev_var rfl) ea_nil) (spB_v hd trivial)) (fun e => nomatch e)) rfl
theorem ok_is_address (B : Bi mg) (W : WS K mg) (g_is_whole : Gv P w K mg base CX0 1 "is_whole" ["value"] (spB K noC wholeD)) (D : Df K mg "is_address" s_is_address ["value"]) : Gv P w K mg base CX0 2 "is_address" ["value"] (spB K noC addrD) := by
  refine D.gv sc_is_address (fun vs H Q E h => ?_) (fun f cdv A outer s H vs Q E hr h => ⟨_, (pss_one (ps_ret (pe_and (pe_cg g_is_whole hr rfl pass0 (pa_cons (pv 0) pa_nil)) (pe_one (pe_chain op_le op_le pe_int (pv 0) (pe_gc W.MOST_VALUE rfl)))))), ?_⟩)
  · obtain ⟨v, d, rfl, _⟩ := h
    rfl
  obtain ⟨v, d, rfl, hd, hc, hQ⟩ := h
  refine s_ret (v := .bl (addrD d)) ?_ (fun H1 e1 => hQ H1 e1)
  cases d with
  | int i =>
    cases hd
    exact ev_andV (a := true) (ev_call (ea_cons (ev_var rfl) ea_nil) (spB_v (.int i) trivial)) (fun e => ev_chain ev_c (ev_var rfl) ev_c rv_I0 (fun _ => rv_I0))
  | _ => exact ev_is (ev_andV (b := false) (ev_call (ea_cons (ev_var rfl) ea_nil) (spB_v hd trivial)) (fun e => nomatch e)) rfl
/-- is it a pair: the words of a comprehension -/
theorem ev_pair {i : Nat} (hv : σ[i]? = some (some v)) (hd : Dp K H v d) : Ev (tAndV (tCB (rIsi K) (tCons (tVar i) (tCons (tC (.ty "tuple")) tNil))) (tOp (rEqA K) (tCB (rLen K) (tCons (tVar i) tNil)) (tC (.int 2)))) σ H (.bl (pairD d)) := by
  refine ev_is (ev_andV (b := pairD d) (ev_isiD (ev_var hv) hd (kit_tuple d)) (fun e => ?_)) ?_
  · rw [isB_tup] at e
    obtain ⟨ds, hz⟩ := Option.isSome_iff_exists.mp e
    obtain rfl := tupD_some hz
    cases hd with
    | @tup a xs _ hx ha =>
      refine ev_is (ev_op (ev_lenU (ev_var hv) hx) ev_c (rv_eqs rfl)) ?_
      have hl := dpAll_len ha
      rw [hl]
      match ds with
      | [] => rfl
      | [_] => rfl
      | [_, _] => rfl
      | _ :: _ :: _ :: _ =>
        simp [pairD]
        omega
  · rw [isB_tup]
    cases d <;> rfl
theorem dp_dV {d : PyData} (h : Dp K H v d) (e : (wholeD d || (strD d).isSome) = true) : v = dV d := by
  cases h <;> first | rfl | cases e
theorem ris_rows {us : List (V × V)} {ds : List PyData} {xs : List V} (q : Prt K H xs us ds) (h : ∀ r ∈ ds, (wholeD (pr1 r) || (strD (pr1 r)).isSome) = true) : us.map Prod.fst = ds.map fun r => dV (pr1 r) := by
  apply List.ext_getElem?
  intro i
  rw [List.getElem?_map, List.getElem?_map]
  cases hu : us[i]? with
  | none =>
    have : ds[i]? = none := by
      rw [List.getElem?_eq_none_iff] at hu ⊢
      rw [← prt_len q]
      exact hu
    rw [this]
    rfl
  | some u =>
    obtain ⟨d, h0, h1, _⟩ := prt_get q hu
    rw [h0]
    show some u.1 = some (dV (pr1 d))
    rw [dp_dV h1 (h d (List.mem_of_getElem? h0))]
theorem nameD_str {d : PyData} (h : nameD d = true) : ∃ z, d = .str z := by cases d <;> first | exact ⟨_, rfl⟩ | cases h
theorem addrD_int {d : PyData} (h : addrD d = true) : ∃ z, d = .int z := by cases d <;> first | exact ⟨_, rfl⟩ | cases h
theorem valueD_int {d : PyData} (h : valueD d = true) : ∃ z, d = .int z := by cases d <;> first | exact ⟨_, rfl⟩ | cases h
theorem ok_is_store (B : Bi mg) (W : WS K mg) (g_is_plain_name : Gv P w K mg base CX0 1 "is_plain_name" ["value"] (spB K TxtOk nameD)) (g_is_value : Gv P w K mg base CX0 3 "is_value" ["value"] (spB K noC valueD)) (g_rising : Gv P w K mg base CX0 1 "rising" ["value"] (spRising K))
    (D : Df K mg "is_store" s_is_store ["value"]) : Gv P w K mg base CX0 4 "is_store" ["value"] (spB K RowsTxt storeD) := by
  have nd := sc_is_store.nd
  refine D.gv sc_is_store (fun vs H Q E h => ?_) (fun f cdv A outer s H vs Q E hr h => ?_)
  · obtain ⟨v, d, rfl, _⟩ := h
    rfl
  have hu64 := hu64_of hr
  refine ⟨_, (pss_cons (ps_if (PW.pt (pw_or (pt_not (pt_val (pe_callB (id := "isinstance") (r := rIsi K) call_isi rfl B.isi (by decide +kernel) (pa_cons (pv 0) (pa_cons (pe_bltn (v := .ty "tuple") rfl B.tuple (by decide +kernel) rfl) pa_nil))))) (pw_or1 (pt_cmpR op_gt (pe_callB (r := rLen K) callA_len rfl B.len (by decide +kernel) (pa_cons (pv 0) pa_nil)) (pe_gc W.MOST_NAMES rfl) (nomark _))))) (pss_one (ps_ret pe_bl)) pss_nil)
    (pss_cons (ps_if (pt_not (pt_val (pe_callB (r := rAll K) (cr_all rfl) rfl B.all (by decide +kernel) (pa_cons (pe_lc (own := [("row", 1)]) rfl nd (piA_seq (pv 0)) (blk_ok (by kernel_rfl)) (fun _ _ _ _ _ => (pg_name (i := 1) nd rfl (.inl rfl))) (fun _ _ _ _ _ => pts_nil) (fun _ _ _ _ _ => (pe_and (pe_callB (id := "isinstance") (r := rIsi K) call_isi rfl B.isi (by decide +kernel) (pa_cons (pv 1) (pa_cons (pe_bltn (v := .ty "tuple") rfl B.tuple (by decide +kernel) rfl) pa_nil))) (pe_one (pe_cmpR (r := rEqA K) (opA_eq hu64) (pe_callB (r := rLen K) callA_len rfl B.len (by decide +kernel) (pa_cons (pv 1) pa_nil)) pe_int (nomark _)))))) pa_nil)))) (pss_one (ps_ret pe_bl)) pss_nil)
    (pss_cons (ps_if (pt_not (pt_val (pe_callB (r := rAll K) (cr_all rfl) rfl B.all (by decide +kernel) (pa_cons (pe_lc (own := [("name", 2), ("number", 3)]) rfl nd (piA_seq (pv 0)) (blk_ok (by kernel_rfl)) (fun _ _ _ _ _ => (pgK_tup (K := K) (n := 2) rfl rfl (pgs_cons (pg_name (i := 2) nd rfl (.inl rfl)) (pgs_cons (pg_name (i := 3) nd rfl (.inl rfl)) pgs_nil)))) (fun _ _ _ _ _ => pts_nil) (fun _ _ _ _ _ => (by exact (pe_and (pe_cg g_is_plain_name hr rfl pass0 (pa_cons (pv 2) pa_nil)) (pe_one (pe_cg g_is_value hr rfl pass0 (pa_cons (pv 3) pa_nil))))))) pa_nil)))) (pss_one (ps_ret pe_bl)) pss_nil)
    (pss_one (ps_ret (pe_cg g_rising hr rfl pass0 (pa_cons (pe_lc (own := [("name", 2), ("number", 3)]) rfl nd (piA_seq (pv 0)) (blk_ok (by kernel_rfl)) (fun _ _ _ _ _ => (pgK_tup (K := K) (n := 2) rfl rfl (pgs_cons (pg_name (i := 2) nd rfl (.inl rfl)) (pgs_cons (pg_name (i := 3) nd rfl (.inl rfl)) pgs_nil)))) (fun _ _ _ _ _ => pts_nil) (fun _ _ _ _ _ => (pv 2))) pa_nil))))))), ?_⟩
  obtain ⟨v, d, rfl, hd, hc, hQ⟩ := h
  cases hz : tupD d with
  | none =>
    have hb : isB "tuple" d = false := by rw [isB_tup, hz]; rfl
    have hm : storeD d = false := by cases d <;> first | rfl | cases hz
    rw [hm] at hQ
    refine q_when (b := true) (et_is (et_or (b := false) (et_not (et_B (ev_isiD (ev_var rfl) hd (kit_tuple d)))) (fun z => by rw [hb] at z; cases z)) (by rw [hb]; rfl)) (fun _ H1 e => s_ret ev_c fun H2 e2 => hQ H2 (e.trans e2)) (fun z => nomatch z)
  | some ds =>
    obtain rfl := tupD_some hz
    cases id hd with
    | @tup a xs _ hx ha =>
    have hl := dpAll_len ha
    refine q_when (b := (false || decide ((ds.length : Int) > 60))) (et_or (a := false) (et_is (et_not (et_B (ev_isiD (ev_var rfl) hd (kit_tuple _)))) (by rw [isB_tup]; rfl)) (fun _ => et_test (ev_is (ev_op (ev_lenU (ev_var rfl) hx) ev_c rv_I0) (by rw [hl])))) (fun b H1 e => s_ret ev_c fun H2 e2 => ?_) (fun b H1 e => ?_)
    · have hm : storeD (.tuple ds) = false := by
        rw [storeD_t, show decide ((ds.length : Int) > 60) = true by simpa using b]
        rfl
      rw [hm] at hQ
      exact hQ H2 (e.trans e2)
    have b1 : decide ((ds.length : Int) > 60) = false := by simpa using b
    have hz : xs.length ≤ 40000 := by
      have := of_decide_eq_false b1
      omega
    refine q_when (b := !(ds.map pairD).all id) (et_not (et_B (ev_allN (el_tests pairD (ev_var rfl) (ex_t e hx) (DpAll.ext e ha) hz (fun _ => rfl) (fun _ _ => et_true fun _ _ _ q => q) (fun i v d H1 e _ hd => ev_pair rfl hd))))) (fun b H2 e2 => s_ret ev_c fun H3 e3 => ?_) (fun b H2 e2 => ?_)
    · have hm : storeD (.tuple ds) = false := by
        rw [List.all_map] at b
        rw [storeD_t, show ds.all pairD = false by simpa using b]
        simp
      rw [hm] at hQ
      exact hQ H3 ((e.trans e2).trans e3)
    rw [List.all_map] at b
    have b2 : ds.all pairD = true := by
      have z : (!ds.all pairD) = false := b
      simpa using z
    obtain ⟨us, hp⟩ := prt_of (DpAll.ext (e.trans e2) ha) b2
    have hx2 := ex_t (e.trans e2) hx
    refine q_when (b := !(ds.map fun r => nameD (pr1 r) && valueD (pr2 r)).all id) (et_not (et_B (ev_allN (el_prtT (fun r => nameD (pr1 r) && valueD (pr2 r)) (ev_var rfl) hx2 hp hz (fun _ _ => rfl) (fun _ _ => et_true fun _ _ _ q => q) (fun i u d H1 e hd h1 h2 =>
      ev_andV (ev_call (ea_cons (ev_var rfl) ea_nil) (spB_v h1 (hc ds rfl d (List.mem_of_getElem? hd)))) (fun _ => ev_call (ea_cons (ev_var rfl) ea_nil) (spB_v h2 trivial))))))) (fun b H3 e3 => s_ret ev_c fun H4 e4 => ?_) (fun b H3 e3 => ?_)
    · have hm : storeD (.tuple ds) = false := by
        rw [List.all_map] at b
        rw [storeD_t, show (ds.all fun r => nameD (pr1 r) && valueD (pr2 r)) = false by simpa using b]
        simp
      rw [hm] at hQ
      exact hQ H4 (((e.trans e2).trans e3).trans e4)
    rw [List.all_map] at b
    have b3 : (ds.all fun r => nameD (pr1 r) && valueD (pr2 r)) = true := by
      have z : (!ds.all fun r => nameD (pr1 r) && valueD (pr2 r)) = false := b
      simpa using z
    have hs : ∀ r ∈ ds, ∃ z, pr1 r = .str z := fun r hr => nameD_str (by have := List.all_eq_true.mp b3 r hr; simp only [Bool.and_eq_true] at this; exact this.1)
    have hr1 := ris_rows hp (fun r hr => by obtain ⟨z, hz⟩ := hs r hr; rw [hz]; rfl)
    have hm : storeD (.tuple ds) = risV (ds.map fun r => dV (pr1 r)) := by
      rw [storeD_t, b1, b2, b3]
      rfl
    rw [hm] at hQ
    refine s_ret ?_ (fun H4 e4 => hQ H4 (((e.trans e2).trans e3).trans e4))
    refine ev_callL (el_prt1 (ev_var rfl) (ex_t e3 hx2) (hp.ext e3) hz (fun _ _ => rfl) (fun _ _ => et_true fun _ _ _ q => q) (fun u H1 => ev_var rfl)) (fun p H4 hp4 H5 e5 Q q E => ?_)
    refine ⟨p, _, rfl, ex_l e5 (sq_of hp4), ?_, ?_, fun H6 e6 => ?_⟩
    · rw [List.length_map, prt_len hp, ← hl]
      exact hz
    · rw [hr1]
      refine .inr fun x hx => ?_
      obtain ⟨r, hr, rfl⟩ := List.mem_map.mp hx
      obtain ⟨z, hz⟩ := hs r hr
      exact ⟨z, by rw [hz]; rfl⟩
    · rw [hr1]
      exact q H6 e6
theorem ok_is_heap (B : Bi mg) (W : WS K mg) (g_is_address : Gv P w K mg base CX0 2 "is_address" ["value"] (spB K noC addrD)) (g_is_value : Gv P w K mg base CX0 3 "is_value" ["value"] (spB K noC valueD)) (g_rising : Gv P w K mg base CX0 1 "rising" ["value"] (spRising K))
    (D : Df K mg "is_heap" s_is_heap ["value"]) : Gv P w K mg base CX0 4 "is_heap" ["value"] (spB K noC heapD) := by
  have nd := sc_is_heap.nd
  refine D.gv sc_is_heap (fun vs H Q E h => ?_) (fun f cdv A outer s H vs Q E hr h => ?_)
  · obtain ⟨v, d, rfl, _⟩ := h
    rfl
  have hu64 := hu64_of hr
  refine ⟨_, (pss_cons (ps_if (PW.pt (pw_or (pt_not (pt_val (pe_callB (id := "isinstance") (r := rIsi K) call_isi rfl B.isi (by decide +kernel) (pa_cons (pv 0) (pa_cons (pe_bltn (v := .ty "tuple") rfl B.tuple (by decide +kernel) rfl) pa_nil))))) (pw_or1 (pt_cmpR op_gt (pe_callB (r := rLen K) callA_len rfl B.len (by decide +kernel) (pa_cons (pv 0) pa_nil)) (pe_gc W.MOST_CELLS rfl) (nomark _))))) (pss_one (ps_ret pe_bl)) pss_nil)
    (pss_cons (ps_if (pt_not (pt_val (pe_callB (r := rAll K) (cr_all rfl) rfl B.all (by decide +kernel) (pa_cons (pe_lc (own := [("row", 1)]) rfl nd (piA_seq (pv 0)) (blk_ok (by kernel_rfl)) (fun _ _ _ _ _ => (pg_name (i := 1) nd rfl (.inl rfl))) (fun _ _ _ _ _ => pts_nil) (fun _ _ _ _ _ => (pe_and (pe_callB (id := "isinstance") (r := rIsi K) call_isi rfl B.isi (by decide +kernel) (pa_cons (pv 1) (pa_cons (pe_bltn (v := .ty "tuple") rfl B.tuple (by decide +kernel) rfl) pa_nil))) (pe_one (pe_cmpR (r := rEqA K) (opA_eq hu64) (pe_callB (r := rLen K) callA_len rfl B.len (by decide +kernel) (pa_cons (pv 1) pa_nil)) pe_int (nomark _)))))) pa_nil)))) (pss_one (ps_ret pe_bl)) pss_nil)
    (pss_cons (ps_if (pt_not (pt_val (pe_callB (r := rAll K) (cr_all rfl) rfl B.all (by decide +kernel) (pa_cons (pe_lc (own := [("address", 2), ("number", 3)]) rfl nd (piA_seq (pv 0)) (blk_ok (by kernel_rfl)) (fun _ _ _ _ _ => (pgK_tup (K := K) (n := 2) rfl rfl (pgs_cons (pg_name (i := 2) nd rfl (.inl rfl)) (pgs_cons (pg_name (i := 3) nd rfl (.inl rfl)) pgs_nil)))) (fun _ _ _ _ _ => pts_nil) (fun _ _ _ _ _ => (by exact (pe_and (pe_cg g_is_address hr rfl pass0 (pa_cons (pv 2) pa_nil)) (pe_one (pe_cg g_is_value hr rfl pass0 (pa_cons (pv 3) pa_nil))))))) pa_nil)))) (pss_one (ps_ret pe_bl)) pss_nil)
    (pss_one (ps_ret (pe_cg g_rising hr rfl pass0 (pa_cons (pe_lc (own := [("address", 2), ("number", 3)]) rfl nd (piA_seq (pv 0)) (blk_ok (by kernel_rfl)) (fun _ _ _ _ _ => (pgK_tup (K := K) (n := 2) rfl rfl (pgs_cons (pg_name (i := 2) nd rfl (.inl rfl)) (pgs_cons (pg_name (i := 3) nd rfl (.inl rfl)) pgs_nil)))) (fun _ _ _ _ _ => pts_nil) (fun _ _ _ _ _ => (pv 2))) pa_nil))))))), ?_⟩
  obtain ⟨v, d, rfl, hd, hc, hQ⟩ := h
  cases hz : tupD d with
  | none =>
    have hb : isB "tuple" d = false := by rw [isB_tup, hz]; rfl
    have hm : heapD d = false := by cases d <;> first | rfl | cases hz
    rw [hm] at hQ
    refine q_when (b := true) (et_is (et_or (b := false) (et_not (et_B (ev_isiD (ev_var rfl) hd (kit_tuple d)))) (fun z => by rw [hb] at z; cases z)) (by rw [hb]; rfl)) (fun _ H1 e => s_ret ev_c fun H2 e2 => hQ H2 (e.trans e2)) (fun z => nomatch z)
  | some ds =>
    obtain rfl := tupD_some hz
    cases id hd with
    | @tup a xs _ hx ha =>
    have hl := dpAll_len ha
    refine q_when (b := (false || decide ((ds.length : Int) > 40))) (et_or (a := false) (et_is (et_not (et_B (ev_isiD (ev_var rfl) hd (kit_tuple _)))) (by rw [isB_tup]; rfl)) (fun _ => et_test (ev_is (ev_op (ev_lenU (ev_var rfl) hx) ev_c rv_I0) (by rw [hl])))) (fun b H1 e => s_ret ev_c fun H2 e2 => ?_) (fun b H1 e => ?_)
    · have hm : heapD (.tuple ds) = false := by
        rw [heapD_t, show decide ((ds.length : Int) > 40) = true by simpa using b]
        rfl
      rw [hm] at hQ
      exact hQ H2 (e.trans e2)
    have b1 : decide ((ds.length : Int) > 40) = false := by simpa using b
    have hz : xs.length ≤ 40000 := by
      have := of_decide_eq_false b1
      omega
    refine q_when (b := !(ds.map pairD).all id) (et_not (et_B (ev_allN (el_tests pairD (ev_var rfl) (ex_t e hx) (DpAll.ext e ha) hz (fun _ => rfl) (fun _ _ => et_true fun _ _ _ q => q) (fun i v d H1 e _ hd => ev_pair rfl hd))))) (fun b H2 e2 => s_ret ev_c fun H3 e3 => ?_) (fun b H2 e2 => ?_)
    · have hm : heapD (.tuple ds) = false := by
        rw [List.all_map] at b
        rw [heapD_t, show ds.all pairD = false by simpa using b]
        simp
      rw [hm] at hQ
      exact hQ H3 ((e.trans e2).trans e3)
    rw [List.all_map] at b
    have b2 : ds.all pairD = true := by
      have z : (!ds.all pairD) = false := b
      simpa using z
    obtain ⟨us, hp⟩ := prt_of (DpAll.ext (e.trans e2) ha) b2
    have hx2 := ex_t (e.trans e2) hx
    refine q_when (b := !(ds.map fun r => addrD (pr1 r) && valueD (pr2 r)).all id) (et_not (et_B (ev_allN (el_prtT (fun r => addrD (pr1 r) && valueD (pr2 r)) (ev_var rfl) hx2 hp hz (fun _ _ => rfl) (fun _ _ => et_true fun _ _ _ q => q) (fun i u d H1 e hd h1 h2 =>
      ev_andV (ev_call (ea_cons (ev_var rfl) ea_nil) (spB_v h1 trivial)) (fun _ => ev_call (ea_cons (ev_var rfl) ea_nil) (spB_v h2 trivial))))))) (fun b H3 e3 => s_ret ev_c fun H4 e4 => ?_) (fun b H3 e3 => ?_)
    · have hm : heapD (.tuple ds) = false := by
        rw [List.all_map] at b
        rw [heapD_t, show (ds.all fun r => addrD (pr1 r) && valueD (pr2 r)) = false by simpa using b]
        simp
      rw [hm] at hQ
      exact hQ H4 (((e.trans e2).trans e3).trans e4)
    rw [List.all_map] at b
    have b3 : (ds.all fun r => addrD (pr1 r) && valueD (pr2 r)) = true := by
      have z : (!ds.all fun r => addrD (pr1 r) && valueD (pr2 r)) = false := b
      simpa using z
    have hs : ∀ r ∈ ds, ∃ z, pr1 r = .int z := fun r hr => addrD_int (by have := List.all_eq_true.mp b3 r hr; simp only [Bool.and_eq_true] at this; exact this.1)
    have hr1 := ris_rows hp (fun r hr => by obtain ⟨z, hz⟩ := hs r hr; rw [hz]; rfl)
    have hm : heapD (.tuple ds) = risV (ds.map fun r => dV (pr1 r)) := by
      rw [heapD_t, b1, b2, b3]
      rfl
    rw [hm] at hQ
    refine s_ret ?_ (fun H4 e4 => hQ H4 (((e.trans e2).trans e3).trans e4))
    refine ev_callL (el_prt1 (ev_var rfl) (ex_t e3 hx2) (hp.ext e3) hz (fun _ _ => rfl) (fun _ _ => et_true fun _ _ _ q => q) (fun u H1 => ev_var rfl)) (fun p H4 hp4 H5 e5 Q q E => ?_)
    refine ⟨p, _, rfl, ex_l e5 (sq_of hp4), ?_, ?_, fun H6 e6 => ?_⟩
    · rw [List.length_map, prt_len hp, ← hl]
      exact hz
    · rw [hr1]
      refine .inl fun x hx => ?_
      obtain ⟨r, hr, rfl⟩ := List.mem_map.mp hx
      obtain ⟨z, hz⟩ := hs r hr
      exact ⟨z, by rw [hz]; rfl⟩
    · rw [hr1]
      exact q H6 e6
end
end Kb
set_option Elab.async false
set_option linter.all false
set_option maxRecDepth 100000
set_option maxHeartbeats 4000000
namespace Kb
open PySem PySem.Spec PyProof.Rows L2 Evl
def SF : List Str := ["store", "heap"]
/-- what State.__init__ promises -/
def spSInit (K : PySem.W.Frag) (C BR : Addr) : Sp := fun vs H Q E => ∃ a dx v1 v2 d1 d2, vs = [.ref a, v1, v2] ∧ H a = some (.ins C dx []) ∧ Dp K H v1 d1 ∧ Dp K H v2 d2 ∧ RowsTxt (asTup d1) ∧
  (storeD (asTup d1) = false → Rs E H BR [("row", v1), ("what", .str "store")]) ∧ (storeD (asTup d1) = true → heapD (asTup d2) = false → Rs E H BR [("row", v2), ("what", .str "heap")]) ∧
  (storeD (asTup d1) = true → heapD (asTup d2) = true → ∀ w1 w2 H', Kp a H H' → Dp K H' w1 (asTup d1) → Dp K H' w2 (asTup d2) → (((tupD d1).isSome = true → Pd K H v1 d1) → Pd K H' w1 (asTup d1)) → (((tupD d2).isSome = true → Pd K H v2 d2) → Pd K H' w2 (asTup d2)) →
    H' a = some (.ins C dx [("store", w1), ("heap", w2)]) → Q .non H')
section
variable {P : Program} {w : World} {K : PySem.W.Frag} {mg : Str → Option Value} {base : Heap} {H : Hp} {v : V} {d : PyData} {σ : L2.St} {te : TE} {C BR : Addr} {f : Addr} {fd : FuncData}
/-- known = tuple(x) if isinstance(x, list) else x -/
theorem evd_known {i : Nat} (hv : σ[i]? = some (some v)) (hd : Dp K H v d) : EvD (tIf (tB (tCB (rIsi K) (tCons (tVar i) (tCons (tC (.ty "list")) tNil)))) (tCB (rTupP K) (tCons (tVar i) tNil)) (tVar i)) σ H
    (fun w H1 => Dp K H1 w (asTup d) ∧ (((tupD d).isSome = true → Pd K H v d) → Pd K H1 w (asTup d) ∨ (tupD (asTup d)) = none)) := by
  refine evd_if (et_B (ev_isiD (ev_var hv) hd (kit_list d))) (fun e => ?_) (fun e => ?_)
  · rw [isB_lst] at e
    obtain ⟨ds, hz⟩ := Option.isSome_iff_exists.mp e
    obtain rfl := lstD_some hz
    cases hd with
    | lst hx ha => exact (evd_tupP (ev_var hv) hx ha).imp fun w H1 e1 h => ⟨h.dp, fun _ => .inl h⟩
  · rw [isB_lst] at e
    have ea : asTup d = d := by cases d <;> first | rfl | cases e
    refine ev_EvD (ev_var hv) fun H1 e1 => ?_
    rw [ea]
    refine ⟨Dp.ext e1 hd, fun hp => ?_⟩
    cases ht : tupD d with
    | none => exact .inr rfl
    | some ds => exact .inl ((hp (by rw [ht]; rfl)).ext e1)
theorem storeD_tup {d : PyData} (h : storeD d = true) : (tupD d).isSome = true := by cases d <;> first | rfl | cases h
theorem heapD_tup {d : PyData} (h : heapD d = true) : (tupD d).isSome = true := by cases d <;> first | rfl | cases h
theorem ok_State_init (B : Bi mg) (g_is_store : Gv P w K mg base CX0 4 "is_store" ["value"] (spB K RowsTxt storeD)) (g_is_heap : Gv P w K mg base CX0 4 "is_heap" ["value"] (spB K noC heapD)) (k_State : Kl K mg "State" C SF) (x_BadRow : XC P w K mg base "BadRow" BR ["self", "what", "row"] (spI2 BR "what" "row"))
    (F : Fun K "__init__" "State.__init__" s_State_init f fd) : FnOk P w K mg base (L2.CX P w) 5 f fd ["self", "store", "heap"] (spSInit K C BR) := by
  have nd := sc_State_init.nd
  refine F.okX sc_State_init (fun vs H Q E h => ?_) (fun cdv A outer s H vs Q E hr h => ⟨_, (pss_cons (ps_set (i := 3) nd rfl (.inl rfl) (pe_ifExp (pt_val (pe_callB (id := "isinstance") (r := rIsi K) call_isi rfl B.isi (by decide +kernel) (pa_cons (pv 1) (pa_cons (pe_bltn (v := .ty "list") rfl B.list (by decide +kernel) rfl) pa_nil)))) (pe_callTy (r := rTupP K) call_tupleP rfl B.tuple (by decide +kernel) (pa_cons (pv 1) pa_nil)) (pv 1)))
    (pss_cons (ps_if (pt_not (pt_val (pe_cg g_is_store hr rfl pass0 (pa_cons (pv 3) pa_nil)))) (pss_one (ps_raise rfl (takes_of rfl rfl rfl rfl) (pmk_xc x_BadRow hr rfl (pa_cons pe_str (pa_cons (pv 1) pa_nil))))) pss_nil)
    (pss_cons (ps_set (i := 4) nd rfl (.inl rfl) (pe_ifExp (pt_val (pe_callB (id := "isinstance") (r := rIsi K) call_isi rfl B.isi (by decide +kernel) (pa_cons (pv 2) (pa_cons (pe_bltn (v := .ty "list") rfl B.list (by decide +kernel) rfl) pa_nil)))) (pe_callTy (r := rTupP K) call_tupleP rfl B.tuple (by decide +kernel) (pa_cons (pv 2) pa_nil)) (pv 2)))
    (pss_cons (ps_if (pt_not (pt_val (pe_cg g_is_heap hr rfl pass0 (pa_cons (pv 4) pa_nil)))) (pss_one (ps_raise rfl (takes_of rfl rfl rfl rfl) (pmk_xc x_BadRow hr rfl (pa_cons pe_str (pa_cons (pv 2) pa_nil))))) pss_nil)
    (pss_cons (ps_fld (pv 0) (pv 3) rfl)
    (pss_one (ps_fld (pv 0) (pv 4) rfl))))))), ?_⟩)
  · obtain ⟨a, dx, v1, v2, d1, d2, rfl, _⟩ := h
    rfl
  obtain ⟨a, dx, v1, v2, d1, d2, rfl, ha, h1, h2, ht, r1, r2, q⟩ := h
  refine qd_asg (evd_known rfl h1) (fun w1 H1 e1 p1 => ?_)
  refine q_when (b := !storeD (asTup d1)) (et_not (et_B (ev_call (ea_cons (ev_var rfl) ea_nil) (spB_v p1.1 ht)))) (fun b H2 e2 => ?_) (fun b H2 e2 => ?_)
  · exact rs_2 (ea_cons ev_c (ea_cons (ev_var rfl) ea_nil)) ((r1 (by simpa using b)).ext (e1.trans e2))
  have b1 : storeD (asTup d1) = true := by simpa using b
  refine qd_asg (evd_known (v := v2) rfl (Dp.ext (e1.trans e2) h2)) (fun w2 H3 e3 p2 => ?_)
  refine q_when (b := !heapD (asTup d2)) (et_not (et_B (ev_call (ea_cons (ev_var rfl) ea_nil) (spB_v p2.1 trivial)))) (fun b H4 e4 => ?_) (fun b H4 e4 => ?_)
  · exact rs_2 (ea_cons ev_c (ea_cons (ev_var rfl) ea_nil)) ((r2 b1 (by simpa using b)).ext ((e1.trans e2).trans (e3.trans e4)))
  have b2 : heapD (asTup d2) = true := by simpa using b
  have e14 := (e1.trans e2).trans (e3.trans e4)
  have ha4 := e14 _ _ ha
  refine q_fld k_State (by decide) (ev_var rfl) (ev_var rfl) ha4 (by decide) (fun H5 e5 => ?_)
  refine s_fld (fs := [("store", w1)]) k_State (by decide) (ev_var rfl) (ev_var rfl) upd_same (show 1 < 1000 by decide) (fun H6 e6 => ?_)
  have kp5 : Kp a H5 H6 := fun b o hb ne => e6 _ _ (by rw [upd_ne ne]; exact hb)
  have ha5 := e5 _ _ ha4
  have k45 : Kp a H4 (upd H6 a (.ins C dx [("store", w1), ("heap", w2)])) := ((Kp.of e5).trans kp5).trans Kp.upd
  refine q b1 b2 w1 w2 _ ((Kp.of e14).trans k45) (dp_kp k45 ha4 rfl (Dp.ext (e2.trans (e3.trans e4)) p1.1)) (dp_kp k45 ha4 rfl (Dp.ext e4 p2.1)) (fun hp => ?_) (fun hp => ?_) upd_same
  · rcases p1.2 hp with z | z
    · exact (z.ext (e2.trans (e3.trans e4))).kp k45 ha4 rfl
    · have := storeD_tup b1
      rw [z] at this
      cases this
  · rcases p2.2 (fun t => (hp t).ext (e1.trans e2)) with z | z
    · exact (z.ext e4).kp k45 ha4 rfl
    · have := heapD_tup b2
      rw [z] at this
      cases this
end
end Kb
set_option Elab.async false
set_option linter.all false
set_option maxRecDepth 100000
set_option maxHeartbeats 4000000
namespace Kb
open PySem PySem.Spec PyProof.Rows L2 Evl
/-- a State whatever its parts -/
def StAt (K : PySem.W.Frag) (H : Hp) (C : Addr) (a : Addr) (s h : PyData) : Prop := ∃ dx v1 v2, H a = some (.ins C dx [("store", v1), ("heap", v2)]) ∧ Dp K H v1 s ∧ Dp K H v2 h
structure StM (K : PySem.W.Frag) (H : Hp) (C : Addr) (a : Addr) (ns cs : List (Key × Int)) : Prop where
  ex : ∃ dx v1 v2, H a = some (.ins C dx [("store", v1), ("heap", v2)]) ∧ Pd K H v1 (rowsD ns) ∧ Pd K H v2 (rowsD cs)
  n1 : (ns.map (·.1)).Nodup
  n2 : (cs.map (·.1)).Nodup
theorem StM.ext {K : PySem.W.Frag} {H H' : Hp} {C a : Addr} {ns cs : List (Key × Int)} (h : StM K H C a ns cs) (e : Ex H H') : StM K H' C a ns cs := by
  obtain ⟨dx, v1, v2, h1, h2, h3⟩ := h.ex
  exact ⟨⟨dx, v1, v2, e _ _ h1, h2.ext e, h3.ext e⟩, h.n1, h.n2⟩
theorem StAt.ext {K : PySem.W.Frag} {H H' : Hp} {C a : Addr} {s h : PyData} (q : StAt K H C a s h) (e : Ex H H') : StAt K H' C a s h := by
  obtain ⟨dx, v1, v2, h1, h2, h3⟩ := q
  exact ⟨dx, v1, v2, e _ _ h1, Dp.ext e h2, Dp.ext e h3⟩
theorem StM.at_ {K : PySem.W.Frag} {H : Hp} {C a : Addr} {ns cs : List (Key × Int)} (h : StM K H C a ns cs) : StAt K H C a (rowsD ns) (rowsD cs) := by
  obtain ⟨dx, v1, v2, h1, h2, h3⟩ := h.ex
  exact ⟨dx, v1, v2, h1, h2.dp, h3.dp⟩
def lookI (kvs : List (Key × Int)) (k : Key) : Option Int := (kvs.find? fun p => decide (p.1 = k)).map (·.2)
theorem valV_kvI (kvs : List (Key × Int)) (k : Key) : valV (kvs.map kvI) k = (lookI kvs k).map V.int := by
  unfold valV lookI
  rw [List.find?_map]
  simp only [Option.map_map]
  rfl
/-- what == of two States promises -/
def spSEq (K : PySem.W.Frag) (C : Addr) : Sp := fun vs H Q _ => ∃ a y s h, vs = [.ref a, y] ∧ StAt K H C a s h ∧ ((∃ d, Dp K H y d ∧ ∀ H', Ex H H' → Q (.bl false) H') ∨
  ∃ b s2 h2, y = .ref b ∧ StAt K H C b s2 h2 ∧ SeqAt.shaped (.tuple [s, h]) = true ∧ SeqAt.shaped (.tuple [s2, h2]) = true ∧ ∀ H', Ex H H' → Q (.bl (PyData.eqv (.tuple [s, h]) (.tuple [s2, h2]))) H')
def spSNe (K : PySem.W.Frag) (C : Addr) : Sp := fun vs H Q _ => ∃ a y s h, vs = [.ref a, y] ∧ StAt K H C a s h ∧ ((∃ d, Dp K H y d ∧ ∀ H', Ex H H' → Q (.bl true) H') ∨
  ∃ b s2 h2, y = .ref b ∧ StAt K H C b s2 h2 ∧ SeqAt.shaped (.tuple [s, h]) = true ∧ SeqAt.shaped (.tuple [s2, h2]) = true ∧ ∀ H', Ex H H' → Q (.bl (!PyData.eqv (.tuple [s, h]) (.tuple [s2, h2]))) H')
/-- == and != by own defs -/
structure Oe (P : Program) (w : World) (K : PySem.W.Frag) (mg : Str → Option Value) (base : Heap) (n : Nat) (C : Addr) (m : Str) (sp : Sp) : Prop where
  ex : ∃ (g : Addr) (fd : FuncData) (ps : List Str), PySem.W.findIn K (.ref C) m = some (some (.ref g)) ∧ PySem.W.isFn K (.ref g) = true ∧ FnOk P w K mg base CX0 n g fd ps sp ∧ L2.Binds K fd ps []
def rEqO (K : PySem.W.Frag) (C : Addr) (sp : Sp) : R2 := fun x y H Q => rEqA K x y H Q ∨ rOwnI K C sp E0 x y H Q
def rNeO (K : PySem.W.Frag) (C : Addr) (sp : Sp) : R2 := fun x y H Q => rNeA K x y H Q ∨ rOwnI K C sp E0 x y H Q
theorem opO_eq {X : Cx} {C : Addr} {sp : Sp} {n k : Nat} (O : Oe X.prog X.w X.K X.mg X.base n C "__eq__" sp) (hr : Room k X.A) (hu : X.A.units + 64 < cLine) (hj : n ≤ k := by decide) : OpR X (compareOp .Eq) (rEqO X.K C sp) := by
  obtain ⟨g, fd, ps, h1, h2, F, b⟩ := O.ex
  exact or2 (opA_eq hu) (op_ownI (op := .Eq) (fun _ _ => rfl) h1 h2 F b (hr.mono hj) pass0)
theorem opO_ne {X : Cx} {C : Addr} {sp : Sp} {n k : Nat} (O : Oe X.prog X.w X.K X.mg X.base n C "__ne__" sp) (hr : Room k X.A) (hu : X.A.units + 64 < cLine) (hj : n ≤ k := by decide) : OpR X (compareOp .NotEq) (rNeO X.K C sp) := by
  obtain ⟨g, fd, ps, h1, h2, F, b⟩ := O.ex
  exact or2 (opA_ne hu) (op_ownI (op := .NotEq) (fun _ _ => rfl) h1 h2 F b (hr.mono hj) pass0)
section
variable {P : Program} {w : World} {K : PySem.W.Frag} {mg : Str → Option Value} {base : Heap} {H : Hp} {v : V} {d : PyData} {σ : L2.St} {te : TE} {C BR BN : Addr} {f : Addr} {fd : FuncData}
theorem rv_eqD {x y : V} {d e : PyData} (h1 : Dp K H x d) (h2 : Dp K H y e) (s1 : SeqAt.shaped d = true) (s2 : SeqAt.shaped e = true) : RV (rEqA K) x y H (.bl (PyData.eqv d e)) := fun H1 e1 Q q => .inr ⟨d, e, Dp.ext e1 h1, Dp.ext e1 h2, s1, s2, q H1 (Ex.refl H1)⟩
theorem ok_State_eq (B : Bi mg) (k_State : Kl K mg "State" C SF) (F : Fun K "__eq__" "State.__eq__" s_State_eq f fd) : FnOk P w K mg base CX0 1 f fd ["self", "other"] (spSEq K C) := by
  have nd := sc_State_eq.nd
  refine F.ok sc_State_eq (fun vs H Q E h => ?_) (fun cdv A outer s H vs Q E hr h => ?_)
  · obtain ⟨a, y, s, h, rfl, _⟩ := h
    rfl
  have hu64 := hu64_of hr
  refine ⟨_, (pss_one (ps_ret (pe_and (pe_callB (id := "isinstance") (r := rIsi K) call_isi rfl B.isi (by decide +kernel) (pa_cons (pv 1) (pa_cons (pe_glob (v := .ref _) rfl k_State.g rfl) pa_nil))) (pe_one (pe_cmpR (r := rEqA K) (opA_eq hu64) (pe_tup (pa_cons (pe_fld (pv 0) rfl) (pa_cons (pe_fld (pv 0) rfl) pa_nil))) (pe_tup (pa_cons (pe_fld (pv 1) rfl) (pa_cons (pe_fld (pv 1) rfl) pa_nil))) (nomark _)))))), ?_⟩
  obtain ⟨a, y, s, h, rfl, hst, hy⟩ := h
  rcases hy with ⟨d, hd, hQ⟩ | ⟨b, s2, h2, rfl, hst2, sh1, sh2, hQ⟩
  · exact s_ret (ev_andV (a := false) (b := false) (ev_isiN k_State (ev_var rfl) hd) (fun z => nomatch z)) (fun H1 e1 => hQ H1 e1)
  · obtain ⟨dx, v1, v2, ha, hd1, hd2⟩ := hst
    obtain ⟨dy, u1, u2, hb, hd3, hd4⟩ := hst2
    refine s_ret (ev_andV (a := true) (ev_isiS k_State (ev_var rfl) hb) (fun _ => ev_opUU (eu_tup (ea_cons (ev_fld k_State (by decide) (ev_var rfl) ha rfl) (ea_cons (ev_fld k_State (by decide) (ev_var rfl) ha rfl) ea_nil)) (show 2 ≤ 100000 by decide))
      (eu_tup (ea_cons (ev_fld k_State (by decide) (ev_var rfl) hb rfl) (ea_cons (ev_fld k_State (by decide) (ev_var rfl) hb rfl) ea_nil)) (show 2 ≤ 100000 by decide)) (fun p q H1 hp hq e => rv_eqD (d := .tuple [s, h]) (e := .tuple [s2, h2]) (.tup (st_of hp) (.cons (Dp.ext e hd1) (.cons (Dp.ext e hd2) .nil))) (.tup (st_of hq) (.cons (Dp.ext e hd3) (.cons (Dp.ext e hd4) .nil))) sh1 sh2))) (fun H1 e1 => hQ H1 e1)
theorem ok_State_ne (B : Bi mg) (k_State : Kl K mg "State" C SF) (o_eq : Oe P w K mg base 1 C "__eq__" (spSEq K C)) (F : Fun K "__ne__" "State.__ne__" s_State_ne f fd) : FnOk P w K mg base CX0 2 f fd ["self", "other"] (spSNe K C) := by
  have nd := sc_State_ne.nd
  refine F.ok sc_State_ne (fun vs H Q E h => ?_) (fun cdv A outer s H vs Q E hr h => ?_)
  · obtain ⟨a, y, s, h, rfl, _⟩ := h
    rfl
  have hu64 := hu64_of hr
  refine ⟨_, (pss_one (ps_ret (pe_not (pe_cmpR (r := rEqO K C (spSEq K C)) (opO_eq o_eq hr hu64) (pv 0) (pv 1) (nomark _))))), ?_⟩
  obtain ⟨a, y, s, h, rfl, hst, hy⟩ := h
  obtain ⟨dx, v1, v2, ha, hd1, hd2⟩ := id hst
  rcases hy with ⟨d, hd, hQ⟩ | ⟨b, s2, h2, rfl, hst2, sh1, sh2, hQ⟩
  · exact s_ret (ev_notV (a := false) (ev_op (ev_var rfl) (ev_var rfl) (fun H1 e Q q => .inr ⟨a, dx, _, _, rfl, e _ _ ha, dp_ty (Dp.ext e hd), k_State.nf _ (tyOf_mem d), a, y, s, h, rfl, hst.ext e, .inl ⟨d, Dp.ext e hd, fun H2 e2 => q H2 e2⟩⟩))) (fun H1 e1 => hQ H1 e1)
  · obtain ⟨dy, u1, u2, hb, hd3, hd4⟩ := id hst2
    exact s_ret (ev_notV (ev_op (ev_var rfl) (ev_var rfl) (fun H1 e Q q => .inr ⟨a, dx, _, _, rfl, e _ _ ha, k_State.tyx (e _ _ hb), by unfold PySem.W.notFirst; rw [beq_self_eq_true]; rfl, a, _, s, h, rfl, hst.ext e, .inr ⟨b, s2, h2, rfl, hst2.ext e, sh1, sh2, fun H2 e2 => q H2 e2⟩⟩))) (fun H1 e1 => hQ H1 e1)
def spNeed (K : PySem.W.Frag) (C BR : Addr) : Sp := fun vs H Q E => ∃ z v, vs = [.str z, v] ∧ ((∃ a dx fs, v = .ref a ∧ H a = some (.ins C dx fs) ∧ ∀ H', Ex H H' → Q v H') ∨ ∃ d, Dp K H v d ∧ Rs E H BR [("row", v), ("what", .str z)])
theorem ok_need_state (B : Bi mg) (k_State : Kl K mg "State" C SF) (x_BadRow : XC P w K mg base "BadRow" BR ["self", "what", "row"] (spI2 BR "what" "row")) (D : Df K mg "need_state" s_need_state ["what", "value"]) :
    Gv P w K mg base (L2.CX P w) 3 "need_state" ["what", "value"] (spNeed K C BR) := by
  refine D.gvX sc_need_state (fun vs H Q E h => ?_) (fun f cdv A outer s H vs Q E hr h => ⟨_, (pss_cons (ps_if (pt_not (pt_val (pe_callB (id := "isinstance") (r := rIsi K) call_isi rfl B.isi (by decide +kernel) (pa_cons (pv 1) (pa_cons (pe_glob (v := .ref _) rfl k_State.g rfl) pa_nil))))) (pss_one (ps_raise rfl (takes_of rfl rfl rfl rfl) (pmk_xc x_BadRow hr rfl (pa_cons (pv 0) (pa_cons (pv 1) pa_nil))))) pss_nil)
    (pss_one (ps_ret (pv 1)))), ?_⟩)
  · obtain ⟨z, v, rfl, _⟩ := h
    rfl
  obtain ⟨z, v, rfl, h⟩ := h
  rcases h with ⟨a, dx, fs, rfl, ha, hQ⟩ | ⟨d, hd, hR⟩
  · exact q_when (b := false) (et_is (et_not (et_B (ev_isiS k_State (ev_var rfl) ha))) rfl) (fun z => nomatch z) (fun _ H1 e1 => s_ret (ev_var rfl) fun H2 e2 => hQ H2 (e1.trans e2))
  · exact q_when (b := true) (et_is (et_not (et_B (ev_isiN k_State (ev_var rfl) hd))) rfl) (fun _ H1 e1 => rs_2 (ea_cons (ev_var rfl) (ea_cons (ev_var rfl) ea_nil)) (hR.ext e1)) (fun z => nomatch z)
def spValueBy (K : PySem.W.Frag) (C : Addr) : Sp := fun vs H Q _ => ∃ a z ns cs, vs = [.ref a, .str z] ∧ StM K H C a ns cs ∧ ∀ H', Ex H H' → Q (.int ((lookI ns (.inr z)).getD 0)) H'
theorem ok_value_by (B : Bi mg) (k_State : Kl K mg "State" C SF) (D : Df K mg "value_by" s_value_by ["state", "term"]) : Gv P w K mg base CX0 1 "value_by" ["state", "term"] (spValueBy K C) := by
  refine D.gv sc_value_by (fun vs H Q E h => ?_) (fun f cdv A outer s H vs Q E hr h => ?_)
  · obtain ⟨a, z, ns, cs, rfl, _⟩ := h
    rfl
  have hu := Nat.lt_of_le_of_lt (Nat.add_le_add_left (show 1 ≤ 64 by decide) _) (hu64_of hr)
  refine ⟨_, (pss_one (ps_ret (pe_dget2 hu (pe_callTy (r := rDictT K) (call_dictT rfl) rfl B.dict (by decide +kernel) (pa_cons (pe_fld (pv 0) rfl) pa_nil)) (pv 1) pe_int ⟨rfl, rfl, rfl, rfl⟩))), ?_⟩
  obtain ⟨a, z, ns, cs, rfl, hs, hQ⟩ := h
  obtain ⟨dx, v1, v2, h1, h2, h3⟩ := hs.ex
  refine s_ret (ev_is (ev_dget2 (k := .inr z) (evd_dictT (ev_fld k_State (by decide) (ev_var rfl) h1 rfl) h2 hs.n1) (ev_var rfl) ev_c) ?_) (fun H1 e1 => hQ H1 e1)
  rw [valV_kvI]
  cases lookI ns (.inr z) <;> rfl
def spValueOf (K : PySem.W.Frag) (C BR : Addr) : Sp := fun vs H Q E => ∃ v t, vs = [v, t] ∧ ((∃ d, Dp K H v d ∧ Rs E H BR [("row", v), ("what", .str "state")]) ∨
  ∃ a ns cs d, v = .ref a ∧ StM K H C a ns cs ∧ Dp K H t d ∧ TxtOk d ∧ (plainD d = false → Rs E H BR [("row", t), ("what", .str "term")]) ∧ (plainD d = true → ∀ z, d = .str z → ∀ H', Ex H H' → Q (.int ((lookI ns (.inr z)).getD 0)) H'))
theorem plainD_str {d : PyData} (h : plainD d = true) : ∃ z, d = .str z := by cases d <;> first | exact ⟨_, rfl⟩ | cases h
theorem ok_value_of (B : Bi mg) (g_need_state : Gv P w K mg base (L2.CX P w) 3 "need_state" ["what", "value"] (spNeed K C BR)) (g_is_plain : Gv P w K mg base CX0 2 "is_plain" ["value"] (spB K TxtOk plainD)) (g_value_by : Gv P w K mg base CX0 1 "value_by" ["state", "term"] (spValueBy K C))
    (x_BadRow : XC P w K mg base "BadRow" BR ["self", "what", "row"] (spI2 BR "what" "row")) (D : Df K mg "value_of" s_value_of ["state", "term"]) : Gv P w K mg base (L2.CX P w) 4 "value_of" ["state", "term"] (spValueOf K C BR) := by
  refine D.gvX sc_value_of (fun vs H Q E h => ?_) (fun f cdv A outer s H vs Q E hr h => ⟨_, (pss_cons (ps_expr (pe_cg g_need_state hr rfl (passes_call (takes_of rfl rfl rfl rfl) (fun _ _ _ _ h => h)) (pa_cons pe_str (pa_cons (pv 0) pa_nil))))
    (pss_cons (ps_if (pt_not (pt_val (pe_cg g_is_plain hr rfl pass0 (pa_cons (pv 1) pa_nil)))) (pss_one (ps_raise rfl (takes_of rfl rfl rfl rfl) (pmk_xc x_BadRow hr rfl (pa_cons pe_str (pa_cons (pv 1) pa_nil))))) pss_nil)
    (pss_one (ps_ret (pe_cg g_value_by hr rfl pass0 (pa_cons (pv 0) (pa_cons (pv 1) pa_nil))))))), ?_⟩)
  · obtain ⟨v, t, rfl, _⟩ := h
    rfl
  obtain ⟨v, t, rfl, h⟩ := h
  rcases h with ⟨d, hd, hR⟩ | ⟨a, ns, cs, d, rfl, hs, hd, ht, hR, hQ⟩
  · exact r_seq fun _ => r_drop (rx_call (ea_cons ev_c (ea_cons (ev_var rfl) ea_nil)) fun H1 e1 Q => ⟨_, _, rfl, .inr ⟨d, Dp.ext e1 hd, hR.ext e1⟩⟩)
  · obtain ⟨dx, v1, v2, h1, h2, h3⟩ := hs.ex
    refine q_drop (v := .ref a) (ev_call (ea_cons ev_c (ea_cons (ev_var rfl) ea_nil)) fun H1 e1 Q q E => ⟨_, _, rfl, .inl ⟨a, dx, _, rfl, e1 _ _ h1, q⟩⟩) (fun H1 e1 => ?_)
    refine q_when (b := !plainD d) (et_not (et_B (ev_call (ea_cons (ev_var rfl) ea_nil) (spB_v (Dp.ext e1 hd) ht)))) (fun b H2 e2 => rs_2 (ea_cons ev_c (ea_cons (ev_var rfl) ea_nil)) ((hR (by simpa using b)).ext (e1.trans e2))) (fun b H2 e2 => ?_)
    have b1 : plainD d = true := by simpa using b
    obtain ⟨z, rfl⟩ := plainD_str b1
    cases hd
    exact s_ret (ev_call (ea_cons (ev_var rfl) (ea_cons (ev_var rfl) ea_nil)) fun H3 e3 Q q E => ⟨a, z, ns, cs, rfl, hs.ext ((e1.trans e2).trans e3), q⟩) (fun H3 e3 => hQ b1 z rfl H3 ((e1.trans e2).trans e3))
def spNeedA (K : PySem.W.Frag) (BN : Addr) : Sp := fun vs H Q E => ∃ v d, vs = [v] ∧ Dp K H v d ∧ (addrD d = false → Rs E H BN [("number", v), ("what", .str "address")]) ∧ (addrD d = true → ∀ H', Ex H H' → Q .non H')
theorem ok_need_address (B : Bi mg) (g_is_address : Gv P w K mg base CX0 2 "is_address" ["value"] (spB K noC addrD)) (x_BadNumber : XC P w K mg base "BadNumber" BN ["self", "what", "number"] (spI2 BN "what" "number")) (D : Df K mg "need_address" s_need_address ["address"]) :
    Gv P w K mg base (L2.CX P w) 3 "need_address" ["address"] (spNeedA K BN) := by
  refine D.gvX sc_need_address (fun vs H Q E h => ?_) (fun f cdv A outer s H vs Q E hr h => ⟨_, (pss_one (ps_if (pt_not (pt_val (pe_cg g_is_address hr rfl pass0 (pa_cons (pv 0) pa_nil)))) (pss_one (ps_raise rfl (takes_of rfl rfl rfl rfl) (pmk_xc x_BadNumber hr rfl (pa_cons pe_str (pa_cons (pv 0) pa_nil))))) pss_nil)), ?_⟩)
  · obtain ⟨v, d, rfl, _⟩ := h
    rfl
  obtain ⟨v, d, rfl, hd, hR, hQ⟩ := h
  exact s_when (b := !addrD d) (et_not (et_B (ev_call (ea_cons (ev_var rfl) ea_nil) (spB_v hd trivial)))) (fun b H1 e1 => rs_2 (ea_cons ev_c (ea_cons (ev_var rfl) ea_nil)) ((hR (by simpa using b)).ext e1)) (fun b H1 e1 => hQ (by simpa using b) H1 e1)
def spContent (K : PySem.W.Frag) (C BR BN : Addr) : Sp := fun vs H Q E => ∃ v t, vs = [v, t] ∧ ((∃ d, Dp K H v d ∧ Rs E H BR [("row", v), ("what", .str "state")]) ∨
  ∃ a ns cs d, v = .ref a ∧ StM K H C a ns cs ∧ Dp K H t d ∧ (addrD d = false → Rs E H BN [("number", t), ("what", .str "address")]) ∧ (addrD d = true → ∀ i, d = .int i → ∀ H', Ex H H' → Q (((lookI cs (.inl i)).map V.int).getD .non) H'))
theorem ok_content_at (B : Bi mg) (k_State : Kl K mg "State" C SF) (g_need_state : Gv P w K mg base (L2.CX P w) 3 "need_state" ["what", "value"] (spNeed K C BR)) (g_need_address : Gv P w K mg base (L2.CX P w) 3 "need_address" ["address"] (spNeedA K BN))
    (D : Df K mg "content_at" s_content_at ["state", "address"]) : Gv P w K mg base (L2.CX P w) 4 "content_at" ["state", "address"] (spContent K C BR BN) := by
  refine D.gvX sc_content_at (fun vs H Q E h => ?_) (fun f cdv A outer s H vs Q E hr h => ?_)
  · obtain ⟨v, t, rfl, _⟩ := h
    rfl
  have hu := Nat.lt_of_le_of_lt (Nat.add_le_add_left (show 1 ≤ 64 by decide) _) (hu64_of hr)
  refine ⟨_, (pss_cons (ps_expr (pe_cg g_need_state hr rfl (passes_call (takes_of rfl rfl rfl rfl) (fun _ _ _ _ h => h)) (pa_cons pe_str (pa_cons (pv 0) pa_nil))))
    (pss_cons (ps_expr (pe_cg g_need_address hr rfl (passes_call (takes_of rfl rfl rfl rfl) (fun _ _ _ _ h => h)) (pa_cons (pv 1) pa_nil)))
    (pss_one (ps_ret (pe_dget1 hu (pe_callTy (r := rDictT K) (call_dictT rfl) rfl B.dict (by decide +kernel) (pa_cons (pe_fld (pv 0) rfl) pa_nil)) (pv 1) ⟨rfl, rfl, rfl, rfl⟩))))), ?_⟩
  obtain ⟨v, t, rfl, h⟩ := h
  rcases h with ⟨d, hd, hR⟩ | ⟨a, ns, cs, d, rfl, hs, hd, hR, hQ⟩
  · exact r_seq fun _ => r_drop (rx_call (ea_cons ev_c (ea_cons (ev_var rfl) ea_nil)) fun H1 e1 Q => ⟨_, _, rfl, .inr ⟨d, Dp.ext e1 hd, hR.ext e1⟩⟩)
  · obtain ⟨dx, v1, v2, h1, h2, h3⟩ := hs.ex
    refine q_drop (v := .ref a) (ev_call (ea_cons ev_c (ea_cons (ev_var rfl) ea_nil)) fun H1 e1 Q q E => ⟨_, _, rfl, .inl ⟨a, dx, _, rfl, e1 _ _ h1, q⟩⟩) (fun H1 e1 => ?_)
    cases b : addrD d with
    | false => exact r_seq fun _ => r_drop (rx_call (ea_cons (ev_var rfl) ea_nil) fun H2 e2 Q => ⟨_, d, rfl, Dp.ext (e1.trans e2) hd, fun _ => (hR b).ext (e1.trans e2), fun z => by rw [b] at z; cases z⟩)
    | true =>
      obtain ⟨i, rfl⟩ := addrD_int b
      cases hd
      refine q_drop (v := .non) (ev_call (ea_cons (ev_var rfl) ea_nil) fun H2 e2 Q q E => ⟨_, .int i, rfl, .int i, (fun z => by rw [b] at z; cases z), fun _ H3 e3 => q H3 e3⟩) (fun H2 e2 => ?_)
      refine s_ret (ev_is (ev_dget1 (k := .inl i) (evd_dictT (ev_fld k_State (by decide) (ev_var rfl) (e2 _ _ (e1 _ _ h1)) rfl) (h3.ext (e1.trans e2)) hs.n2) (ev_var rfl)) ?_) (fun H3 e3 => hQ b i rfl H3 ((e1.trans e2).trans e3))
      rw [valV_kvI]
end
end Kb
set_option Elab.async false
set_option linter.all false
set_option maxRecDepth 100000
set_option maxHeartbeats 4000000
namespace Kb
open PySem PySem.Spec PyProof.Rows L2 Evl
def cI (p : Int × Int) : Key × Int := (.inl p.1, p.2)
def intsOf (ns : List (Key × Int)) (cells : List (Int × Int)) : List Int := ns.map (·.2) ++ cells.flatMap fun p => [p.1, p.2]
theorem intsOf_len (ns : List (Key × Int)) (cells : List (Int × Int)) : (intsOf ns cells).length = ns.length + 2 * cells.length := by
  unfold intsOf
  rw [List.length_append, List.length_map]
  induction cells with
  | nil => rfl
  | cons p r ih =>
    rw [List.flatMap_cons, List.length_append, List.length_cons]
    simp only [List.length_cons, List.length_nil]
    omega
def spVals (K : PySem.W.Frag) (C : Addr) : Sp := fun vs H Q _ => ∃ a ns cells, vs = [.ref a] ∧ StM K H C a ns (cells.map cI) ∧ ns.length + 2 * cells.length < 64 ∧
  ∀ p H', H p = none → Ex H H' → H' p = some (.lst ((valsI (intsOf ns cells)).map V.int)) → Q (.ref p) H'
section
variable {P : Program} {w : World} {K : PySem.W.Frag} {mg : Str → Option Value} {base : Heap} {H : Hp} {v : V} {d : PyData} {σ : L2.St} {te : TE} {C BR BN : Addr} {f : Addr} {fd : FuncData}
theorem sp_vals {a : Addr} {ns : List (Key × Int)} {cells : List (Int × Int)} (h : StM K H C a ns (cells.map cI)) (h64 : ns.length + 2 * cells.length < 64) : SpL (spVals K C) [.ref a] H ((valsI (intsOf ns cells)).map V.int) := fun H1 e Q q E => ⟨a, ns, cells, rfl, h.ext e, h64, q⟩
theorem tv_part (ns : List (Key × Int)) (cells : List (Int × Int)) : (intsOf ns cells).map tvK = ns.map (fun p => tvK p.2) ++ cells.flatMap fun p => [tvK p.1, tvK p.2] := by
  unfold intsOf
  rw [List.map_append, List.map_map, List.map_flatMap]
  rfl
theorem ok_values_by (B : Bi mg) (k_State : Kl K mg "State" C SF) (D : Df K mg "values_by" s_values_by ["state"]) : Gv P w K mg base CX0 1 "values_by" ["state"] (spVals K C) := by
  have nd := sc_values_by.nd
  refine D.gv sc_values_by (fun vs H Q E h => ?_) (fun f cdv A outer s H vs Q E hr h => ?_)
  · obtain ⟨a, ns, cells, rfl, _⟩ := h
    rfl
  have hu := Nat.lt_of_le_of_lt (Nat.add_le_add_left (show 1 ≤ 64 by decide) _) (hu64_of hr)
  refine ⟨_, (pss_cons (ps_setDc (i := 1) (own := [("name", 4), ("value", 3)]) rfl nd rfl rfl (sw_trueD rfl rfl rfl (by decide +kernel)) (piA_seq (pe_fld (pv 0) rfl)) (blk_ok (by kernel_rfl)) (fun _ _ _ _ _ => (pgK_tup (K := K) (n := 2) rfl rfl (pgs_cons (pg_name (i := 4) nd rfl (.inl rfl)) (pgs_cons (pg_name (i := 3) nd rfl (.inl rfl)) pgs_nil)))) (fun _ _ _ _ _ => pts_nil) (fun _ _ _ _ _ => (pv 3)) (fun _ _ _ _ _ => pe_bl))
    (pss_cons (ps_for PassesOwn.never rfl (piA_seq (pe_fld (pv 0) rfl)) (pgK_tup (K := K) (n := 2) rfl rfl (pgs_cons (pg_name (i := 2) nd rfl (.inl rfl)) (pgs_cons (pg_name (i := 3) nd rfl (.inl rfl)) pgs_nil))) (pss_cons (ps_dput hu (pv 1) (pv 2) pe_bl rfl)
    (pss_one (ps_dput hu (pv 1) (pv 3) pe_bl rfl))))
    (pss_one (ps_ret (pe_lc (own := [("value", 3)]) rfl nd (piA_seq (pe_callB (r := rSortA K) (callA_sorted rfl) rfl B.sorted (by decide +kernel) (pa_cons (pv 1) pa_nil))) (blk_ok (by kernel_rfl)) (fun _ _ _ _ _ => (pg_name (i := 3) nd rfl (.inl rfl))) (fun _ _ _ _ _ => (pts_one (pt_cmpR op_gt (pv 3) pe_int (nomark _)))) (fun _ _ _ _ _ => (pv 3))))))), ?_⟩
  obtain ⟨a, ns, cells, rfl, hs, h64, hQ⟩ := h
  obtain ⟨dx, v1, v2, h1, ⟨p1, xs1, ds1, rfl, e1, hx1, hd1⟩, ⟨p2, xs2, ds2, rfl, e2, hx2, hd2⟩⟩ := hs.ex
  have e1 := PyData.tuple.inj e1
  have e2 := PyData.tuple.inj e2
  subst e1 e2
  have q1 := rows_prt hd1
  have q2 := rows_prt hd2
  have l1 : xs1.length = ns.length := by rw [q1.len, List.length_map]
  have l2 : xs2.length = cells.length := by rw [q2.len, List.length_map, List.length_map]
  refine qd_asg (ed_dcP (ns.map fun p => tvK p.2) (ev_fld k_State (by decide) (ev_var rfl) h1 rfl) hx1.t q1 (by simp) (by omega) (fun _ _ => rfl) (fun _ _ => et_true fun _ _ _ q => q) (fun i u p H1 e hu hp => ?_) (fun i u p H1 e hu hp => ?_)) (fun w H1 e1 p1 => ?_)
  · rw [List.getElem?_map] at hu hp
    cases hn : ns[i]? with
    | none => rw [hn] at hu; cases hu
    | some n =>
      rw [hn] at hu hp
      cases hu
      cases hp
      exact ev_var rfl
  · rw [List.getElem?_map] at hp
    cases hn : ns[i]? with
    | none => rw [hn] at hp; cases hp
    | some n =>
      rw [hn] at hp
      cases hp
      exact ev_c
  obtain ⟨fa, rfl, hf, hf0⟩ := p1
  refine q_forPr (us := (cells.map cI).map fun p : Key × Int => (kV p.1, V.int p.2)) (ds := (cells.map cI).map rowD) (ev_fld k_State (by decide) (ev_var rfl) (e1 _ _ h1) rfl) (ex_t e1 hx2.t) q2.len
    (fun i σ' H' => (∃ x y z, σ' = [some (.ref a), some (.ref fa), x, y, z]) ∧ Ex H H' ∧ H' fa = some (.dK (mergeK [] (ns.map (fun p => tvK p.2) ++ (cells.take i).flatMap fun p => [tvK p.1, tvK p.2]))))
    (fun H2 e2 => ⟨⟨_, _, _, rfl⟩, e1.trans e2, by rw [List.take_zero, List.flatMap_nil, List.append_nil]; exact e2 _ _ hf⟩) (fun i σ' H' _ p => ⟨ex_t p.2.1 hx2.t, Prt.ext p.2.1 q2⟩) (fun i u σ' H' hu p => ?_) (fun σ' H' p => ?_)
  · obtain ⟨⟨x, y, z, rfl⟩, ex, hk⟩ := p
    obtain ⟨c, hc⟩ : ∃ c, cells[i]? = some c := by
      cases hn : cells[i]? with
      | none =>
        rw [List.getElem?_map, List.getElem?_map, hn] at hu
        cases hu
      | some c => exact ⟨c, rfl⟩
    rw [List.getElem?_map, List.getElem?_map, hc] at hu
    cases hu
    have hlen : ∀ j, (mergeK [] (ns.map (fun p => tvK p.2) ++ (cells.take j).flatMap fun p => [tvK p.1, tvK p.2])).length ≤ 64 := fun j => by
      refine Nat.le_trans (length_mergeK _ []) ?_
      have z1 : ∀ l : List (Int × Int), (l.flatMap fun p => [tvK p.1, tvK p.2]).length = 2 * l.length := fun l => by
        induction l with
        | nil => rfl
        | cons p r ih =>
          rw [List.flatMap_cons, List.length_append, ih, List.length_cons]
          simp only [List.length_cons, List.length_nil]
          omega
      rw [List.length_append, List.length_map, z1]
      have : (cells.take j).length ≤ cells.length := by simp; omega
      simp only [List.length_nil]
      omega
    refine q_dput (k := .inl c.1) ev_c (ev_var rfl) (ev_var rfl) hk (by have := hlen i; omega) (fun H2 e2 => ?_)
    refine s_dput (k := .inl c.2) ev_c (ev_var rfl) (ev_var rfl) upd_same ?_ (fun H3 e3 => ?_)
    · have z := length_mergeK [tvK c.1] (mergeK [] (ns.map (fun p => tvK p.2) ++ (cells.take i).flatMap fun p => [tvK p.1, tvK p.2]))
      have z2 := hlen i
      have z3 : (putK (mergeK [] (ns.map (fun p => tvK p.2) ++ (cells.take i).flatMap fun p => [tvK p.1, tvK p.2])) (.inl c.1) (.bl true)).length ≤ _ + 1 := z
      omega
    · have x2 : Ex H (upd H2 fa (.dK (putK (mergeK [] (ns.map (fun p => tvK p.2) ++ (cells.take i).flatMap fun p => [tvK p.1, tvK p.2])) (.inl c.1) (.bl true)))) := (ex.trans e2).mut hf0
      refine ⟨⟨_, _, _, rfl⟩, (x2.trans e3).mut hf0, ?_⟩
      rw [upd_same, List.take_succ, hc, Option.toList_some, List.flatMap_append, ← List.append_assoc, mergeK_app []  _ (List.flatMap _ [c])]
      rfl
  · obtain ⟨⟨x, y, z, rfl⟩, ex, hk⟩ := p
    have hlc : ((cells.map cI).map fun p => (kV p.1, V.int p.2)).length = cells.length := by simp
    rw [hlc, List.take_length, ← tv_part] at hk
    have hkd := keys_dd (intsOf ns cells) [] [] rfl
    have hdl := dd_len (intsOf ns cells) []
    rw [intsOf_len, List.length_nil] at hdl
    refine s_retL (el_sieveN (ns := srtI (ddI [] (intsOf ns cells))) (fun i => decide (i > 0)) (el_sortD (ev_var rfl) hk hkd (by omega) (srt_perm _) (srt_le _)) (by rw [(srt_perm _).length_eq]; omega) (fun _ => rfl) (fun n H1 e => et_test (ev_op (ev_var rfl) ev_c rv_I0)) (fun n H1 => ev_var rfl)) (fun p H4 hp e4 h4 => ?_)
    exact hQ p H4 (fresh_back ex hp) (ex.trans e4) h4
def spValsIn (K : PySem.W.Frag) (C BR : Addr) : Sp := fun vs H Q E => ∃ v, vs = [v] ∧ ((∃ d, Dp K H v d ∧ Rs E H BR [("row", v), ("what", .str "state")]) ∨
  ∃ a ns cells, v = .ref a ∧ StM K H C a ns (cells.map cI) ∧ ns.length + 2 * cells.length < 64 ∧ ∀ p H', Ex H H' → SqP H' p ((valsI (intsOf ns cells)).map V.int) → Q (.ref p) H')
theorem sp_need_ok {a dx : Addr} {fs : List (Str × V)} {z : Str} (h : H a = some (.ins C dx fs)) : SpV (spNeed K C BR) [.str z, .ref a] H (.ref a) := fun H1 e1 Q q E => ⟨_, _, rfl, .inl ⟨a, dx, _, rfl, e1 _ _ h, q⟩⟩
theorem ok_values_in (B : Bi mg) (g_need_state : Gv P w K mg base (L2.CX P w) 3 "need_state" ["what", "value"] (spNeed K C BR)) (g_values_by : Gv P w K mg base CX0 1 "values_by" ["state"] (spVals K C)) (D : Df K mg "values_in" s_values_in ["state"]) :
    Gv P w K mg base (L2.CX P w) 4 "values_in" ["state"] (spValsIn K C BR) := by
  refine D.gvX sc_values_in (fun vs H Q E h => ?_) (fun f cdv A outer s H vs Q E hr h => ⟨_, (pss_one (ps_ret (pe_callTy (r := rTupP K) call_tupleP rfl B.tuple (by decide +kernel) (pa_cons (pe_cg g_values_by hr rfl pass0 (pa_cons (pe_cg g_need_state hr rfl (passes_call (takes_of rfl rfl rfl rfl) (fun _ _ _ _ h => h)) (pa_cons pe_str (pa_cons (pv 0) pa_nil))) pa_nil)) pa_nil)))), ?_⟩)
  · obtain ⟨v, rfl, _⟩ := h
    rfl
  obtain ⟨v, rfl, h⟩ := h
  rcases h with ⟨d, hd, hR⟩ | ⟨a, ns, cells, rfl, hs, h64, hQ⟩
  · exact r_ret (rx_cb (rxa_hd (rx_callA (rxa_hd (rx_call (ea_cons ev_c (ea_cons (ev_var rfl) ea_nil)) fun H1 e1 Q => ⟨_, _, rfl, .inr ⟨d, Dp.ext e1 hd, hR.ext e1⟩⟩)))))
  · obtain ⟨dx, v1, v2, h1, h2, h3⟩ := hs.ex
    exact sd_ret (evd_tupPL (el_call (ea_cons (ev_call (ea_cons ev_c (ea_cons (ev_var rfl) ea_nil)) (sp_need_ok h1)) ea_nil) (sp_vals hs h64)) (fun w H1 e h => h)) (fun w H1 e1 ⟨p, hw, hp⟩ => by rw [hw]; exact hQ p H1 e1 hp)
/-- the values that are no address -/
def looseI (ns : List (Key × Int)) (cells : List (Int × Int)) : List Int := (valsI (intsOf ns cells)).filter fun i => !decide (i ∈ cells.map (·.1))
def spLoose (K : PySem.W.Frag) (C : Addr) : Sp := fun vs H Q _ => ∃ a ns cells, vs = [.ref a] ∧ StM K H C a ns (cells.map cI) ∧ ns.length + 2 * cells.length < 64 ∧
  ∀ p H', H p = none → Ex H H' → H' p = some (.lst ((looseI ns cells).map V.int)) → Q (.ref p) H'
theorem sp_loose {a : Addr} {ns : List (Key × Int)} {cells : List (Int × Int)} (h : StM K H C a ns (cells.map cI)) (h64 : ns.length + 2 * cells.length < 64) : SpL (spLoose K C) [.ref a] H ((looseI ns cells).map V.int) := fun H1 e Q q E => ⟨a, ns, cells, rfl, h.ext e, h64, q⟩
theorem look_cI (cells : List (Int × Int)) (i : Int) : (valV ((cells.map cI).map kvI) (.inl i)).isSome = decide (i ∈ cells.map (·.1)) := by
  rw [valV_kvI]
  unfold lookI
  rw [Option.isSome_map, Option.isSome_map, List.find?_map, Option.isSome_map]
  rw [Bool.eq_iff_iff, List.find?_isSome, decide_eq_true_iff, List.mem_map]
  constructor
  · rintro ⟨p, hp, e⟩
    have e2 : (Sum.inl p.1 : Key) = .inl i := of_decide_eq_true e
    cases e2
    exact ⟨p, hp, rfl⟩
  · rintro ⟨p, hp, rfl⟩
    exact ⟨p, hp, decide_eq_true rfl⟩
theorem ok_loose_by (B : Bi mg) (k_State : Kl K mg "State" C SF) (g_values_by : Gv P w K mg base CX0 1 "values_by" ["state"] (spVals K C)) (D : Df K mg "loose_by" s_loose_by ["state"]) : Gv P w K mg base CX0 2 "loose_by" ["state"] (spLoose K C) := by
  have nd := sc_loose_by.nd
  refine D.gv sc_loose_by (fun vs H Q E h => ?_) (fun f cdv A outer s H vs Q E hr h => ?_)
  · obtain ⟨a, ns, cells, rfl, _⟩ := h
    rfl
  have hu64 := hu64_of hr
  refine ⟨_, (pss_cons (ps_set (i := 1) nd rfl (.inr rfl) (pe_callTy (r := rDictT K) (call_dictT rfl) rfl B.dict (by decide +kernel) (pa_cons (pe_fld (pv 0) rfl) pa_nil)))
    (pss_one (ps_ret (pe_lc (own := [("value", 2)]) rfl nd (piA_seq (pe_cg g_values_by hr rfl pass0 (pa_cons (pv 0) pa_nil))) (blk_ok (by kernel_rfl)) (fun _ _ _ _ _ => (pg_name (i := 2) nd rfl (.inl rfl))) (fun _ _ _ _ _ => (pts_one (pt_cmpR (r := rNotInA K) (opA_notIn hu64) (pv 2) (pv 1) rfl))) (fun _ _ _ _ _ => (pv 2)))))), ?_⟩
  obtain ⟨a, ns, cells, rfl, hs, h64, hQ⟩ := h
  obtain ⟨dx, v1, v2, h1, h2, h3⟩ := hs.ex
  refine qd_asg (evd_dictT (ev_fld k_State (by decide) (ev_var rfl) h1 rfl) h3 hs.n2) (fun w H1 e1 ⟨p, hw, hp⟩ => ?_)
  subst hw
  refine s_retL (el_sieveN (fun i => !decide (i ∈ cells.map (fun p : Int × Int => p.1))) (el_call (ea_cons (ev_var rfl) ea_nil) (sp_vals (hs.ext e1) h64)) ?_ (fun _ => rfl) (fun n H2 e2 => et_test (ev_is (ev_op (ev_var rfl) (ev_var rfl) (rv_niDk (k := .inl n) (e2 _ _ hp))) (by rw [look_cI]))) (fun n H1 => ev_var rfl)) (fun q H4 hq e4 h4 => hQ q H4 (fresh_back e1 hq) (e1.trans e4) h4)
  have := vals_len (intsOf ns cells)
  rw [intsOf_len] at this
  omega
def spLooseIn (K : PySem.W.Frag) (C BR : Addr) : Sp := fun vs H Q E => ∃ v, vs = [v] ∧ ((∃ d, Dp K H v d ∧ Rs E H BR [("row", v), ("what", .str "state")]) ∨
  ∃ a ns cells, v = .ref a ∧ StM K H C a ns (cells.map cI) ∧ ns.length + 2 * cells.length < 64 ∧ ∀ p H', Ex H H' → SqP H' p ((looseI ns cells).map V.int) → Q (.ref p) H')
theorem ok_loose_in (B : Bi mg) (g_need_state : Gv P w K mg base (L2.CX P w) 3 "need_state" ["what", "value"] (spNeed K C BR)) (g_loose_by : Gv P w K mg base CX0 2 "loose_by" ["state"] (spLoose K C)) (D : Df K mg "loose_in" s_loose_in ["state"]) :
    Gv P w K mg base (L2.CX P w) 4 "loose_in" ["state"] (spLooseIn K C BR) := by
  refine D.gvX sc_loose_in (fun vs H Q E h => ?_) (fun f cdv A outer s H vs Q E hr h => ⟨_, (pss_one (ps_ret (pe_callTy (r := rTupP K) call_tupleP rfl B.tuple (by decide +kernel) (pa_cons (pe_cg g_loose_by hr rfl pass0 (pa_cons (pe_cg g_need_state hr rfl (passes_call (takes_of rfl rfl rfl rfl) (fun _ _ _ _ h => h)) (pa_cons pe_str (pa_cons (pv 0) pa_nil))) pa_nil)) pa_nil)))), ?_⟩)
  · obtain ⟨v, rfl, _⟩ := h
    rfl
  obtain ⟨v, rfl, h⟩ := h
  rcases h with ⟨d, hd, hR⟩ | ⟨a, ns, cells, rfl, hs, h64, hQ⟩
  · exact r_ret (rx_cb (rxa_hd (rx_callA (rxa_hd (rx_call (ea_cons ev_c (ea_cons (ev_var rfl) ea_nil)) fun H1 e1 Q => ⟨_, _, rfl, .inr ⟨d, Dp.ext e1 hd, hR.ext e1⟩⟩)))))
  · obtain ⟨dx, v1, v2, h1, h2, h3⟩ := hs.ex
    exact sd_ret (evd_tupPL (el_call (ea_cons (ev_call (ea_cons ev_c (ea_cons (ev_var rfl) ea_nil)) (sp_need_ok h1)) ea_nil) (sp_loose hs h64)) (fun w H1 e h => h)) (fun w H1 e1 ⟨p, hw, hp⟩ => by rw [hw]; exact hQ p H1 e1 hp)
end
end Kb
set_option Elab.async false
set_option linter.all false
set_option maxRecDepth 100000
set_option maxHeartbeats 4000000
namespace Kb
open PySem PySem.Spec PyProof.Rows L2 Evl
def spLeast (K : PySem.W.Frag) : Sp := fun vs H Q _ => ∃ p ys m, vs = [.ref p, .int (m : Nat)] ∧ SqL K H p (ys.map V.int) ∧ m ≤ 1000 ∧ ∀ i l H', (oth ys i).length = m → H l = none → Ex H H' → H' l = some (.lst ((oth ys i).map V.int)) → Q (.ref l) H'
section
variable {P : Program} {w : World} {K : PySem.W.Frag} {mg : Str → Option Value} {base : Heap} {H : Hp} {v : V} {d : PyData} {σ : L2.St} {te : TE} {C BR BN : Addr} {f : Addr} {fd : FuncData}
theorem ok_least_others (B : Bi mg) (D : Df K mg "least_others" s_least_others ["values", "many"]) : Gv P w K mg base CX0 1 "least_others" ["values", "many"] (spLeast K) := by
  have nd := sc_least_others.nd
  refine D.gv sc_least_others (fun vs H Q E h => ?_) (fun f cdv A outer s H vs Q E hr h => ?_)
  · obtain ⟨p, ys, m, rfl, _⟩ := h
    rfl
  have hu64 := hu64_of hr
  refine ⟨_, (pss_cons (ps_par (i := 2) (j := 3) rfl nd rfl rfl (by decide) rfl rfl (pa_cons (pe_lst pa_nil) (pa_cons pe_int pa_nil)) rfl)
    (pss_cons (ps_while PassesOwn.never (pt_cmpR opA_lt (pe_callB (r := rLen K) callA_len rfl B.len (by decide +kernel) (pa_cons (pv 2) pa_nil)) (pv 1) (nomark _)) (pss_cons (ps_if (pt_cmpR (r := rNotInA K) (opA_notIn hu64) (pv 3) (pv 0) rfl) (pss_one (ps_expr (pe_bmK (K := K) rfl PySem.F.plainAttrs_list PySem.F.slot_list_append PySem.F.type_list_append mt_append (pv 2) (pa_cons (pv 3) pa_nil)))) pss_nil)
    (pss_one (ps_set (i := 3) nd rfl (.inl rfl) (pe_op (r := rAdd K) opA_add (pv 3) pe_int)))))
    (pss_one (ps_ret (pv 2))))), ?_⟩
  obtain ⟨p, ys, m, rfl, hp, hm, hQ⟩ := h
  obtain ⟨B0, hB⟩ := oth_bound ys
  refine q_parL (el_lst ea_nil (Nat.zero_le _)) (fun _ _ => ev_c) (fun l H1 hl e1 h1 => ?_)
  refine q_while (fun k σ' H' => ∃ i : Nat, k = B0 + m + 1 - i ∧ σ' = [some (.ref p), some (.int m), some (.ref l), some (.int ((i : Int) + 1))] ∧ Ex H H' ∧ H' l = some (.lst ((oth ys i).map V.int)) ∧ (oth ys i).length ≤ m) _ ⟨0, rfl, rfl, e1, h1, Nat.zero_le _⟩ ?_
  rintro k σ' H' ⟨i, rfl, rfl, ex, hk, hlen⟩
  refine ⟨decide ((((oth ys i).map V.int).length : Int) < m), et_test (ev_op (ev_lenL (ev_var rfl) (sq_of hk)) (ev_var rfl) rv_lt), fun b H2 e2 => ?_, fun b H2 e2 => ?_⟩
  · have b1 : (oth ys i).length < m := by
      have := of_decide_eq_true b
      rw [List.length_map] at this
      omega
    have hi := oth_len ys B0 hB i
    refine ⟨fun σ2 H3 => ∃ j : Nat, j = i + 1 ∧ σ2 = [some (.ref p), some (.int m), some (.ref l), some (.int ((j : Int) + 1))] ∧ Ex H H3 ∧ H3 l = some (.lst ((oth ys j).map V.int)) ∧ (oth ys j).length ≤ m, fun σ2 H3 ⟨j, hj, h2, h3, h4, h5⟩ => ⟨_, by omega, j, rfl, h2, h3, h4, h5⟩, ?_⟩
    have fin : ∀ H3, Ex H H3 → H3 l = some (.lst ((oth ys (i + 1)).map V.int)) → (oth ys (i + 1)).length ≤ m → tAsg (tOp (rAdd K) (tVar 3) (tC (.int 1))) (gName 3) { nx := fun σ2 H3 => ∃ j : Nat, j = i + 1 ∧ σ2 = [some (.ref p), some (.int m), some (.ref l), some (.int ((j : Int) + 1))] ∧ Ex H H3 ∧ H3 l = some (.lst ((oth ys j).map V.int)) ∧ (oth ys j).length ≤ m, rt := Q } [some (.ref p), some (.int m), some (.ref l), some (.int ((i : Int) + 1))] H3 := fun H3 x3 k3 n3 =>
      s_asg (ev_op (ev_var rfl) ev_c rv_add) fun H4 e4 => ⟨i + 1, rfl, by rw [show ((i + 1 : Nat) : Int) = (i : Int) + 1 by omega]; rfl, x3.trans e4, e4 _ _ k3, n3⟩
    refine q_when (b := !decide (((i : Int) + 1) ∈ ys)) (et_test (ev_is (ev_op (ev_var rfl) (ev_var rfl) (rv_l (rv_niL (ex_l (ex.trans e2) hp) rfl (flat_ints ys)))) (by rw [inV_int]))) (fun c H3 e3 => ?_) (fun c H3 e3 => ?_)
    · have c1 : ((i : Int) + 1) ∉ ys := by simpa using c
      have eo : oth ys (i + 1) = oth ys i ++ [(i : Int) + 1] := by
        show oth ys i ++ (if ((i : Int) + 1) ∈ ys then [] else [(i : Int) + 1]) = _
        rw [if_neg c1]
      refine s_app (e3 _ _ (e2 _ _ hk)) (ev_var rfl) (ev_var rfl) (by rw [List.length_map]; omega) (fun H4 e4 => ?_)
      refine fin _ (((ex.trans e2).trans (e3.trans e4)).mut hl) ?_ ?_
      · rw [upd_same, eo, List.map_append]
        rfl
      · rw [eo, List.length_append]
        exact b1
    · have c1 : ((i : Int) + 1) ∈ ys := by simpa using c
      have eo : oth ys (i + 1) = oth ys i := by
        show oth ys i ++ (if ((i : Int) + 1) ∈ ys then [] else [(i : Int) + 1]) = _
        rw [if_pos c1, List.append_nil]
      refine fin _ ((ex.trans e2).trans e3) ?_ ?_
      · rw [eo]
        exact e3 _ _ (e2 _ _ hk)
      · rw [eo]
        exact hlen
  · have b1 : (oth ys i).length = m := by
      have := of_decide_eq_false b
      rw [List.length_map] at this
      omega
    exact s_ret (ev_var rfl) fun H3 e3 => hQ i l H3 b1 hl ((ex.trans e2).trans e3) (e3 _ _ (e2 _ _ hk))
/-- the least number from 1 on that is not among ys -/
def leastI (ys : List Int) (x : Int) : Prop := 1 ≤ x ∧ x ∉ ys ∧ ∀ y, 1 ≤ y → y < x → y ∈ ys
theorem oth_asc (ys : List Int) : ∀ i : Nat, (oth ys i).Pairwise (· < ·)
  | 0 => .nil
  | i + 1 => by
    unfold oth
    split
    · rw [List.append_nil]
      exact oth_asc ys i
    · rw [List.pairwise_append]
      refine ⟨oth_asc ys i, List.pairwise_singleton _ _, fun a ha b hb => ?_⟩
      rw [List.mem_singleton] at hb
      have := (oth_mem ys i a).mp ha
      omega
theorem oth_one {ys : List Int} {i : Nat} (h : (oth ys i).length = 1) : ∃ x, oth ys i = [x] ∧ leastI ys x := by
  match hx : oth ys i, h with
  | [x], _ =>
    have hm : x ∈ oth ys i := by rw [hx]; exact List.mem_singleton.mpr rfl
    obtain ⟨a, b, c⟩ := (oth_mem ys i x).mp hm
    refine ⟨x, rfl, a, c, fun y hy hyx => ?_⟩
    refine Classical.byContradiction fun hn => ?_
    have : y ∈ oth ys i := (oth_mem ys i y).mpr ⟨hy, by omega, hn⟩
    rw [hx, List.mem_singleton] at this
    omega
def spNew (K : PySem.W.Frag) (C BR : Addr) : Sp := fun vs H Q E => ∃ v, vs = [v] ∧ ((∃ d, Dp K H v d ∧ Rs E H BR [("row", v), ("what", .str "state")]) ∨
  ∃ a ns cells, v = .ref a ∧ StM K H C a ns (cells.map cI) ∧ ns.length + 2 * cells.length < 64 ∧ ∀ x H', leastI (valsI (intsOf ns cells)) x → Ex H H' → Q (.int x) H')
theorem ok_new_address (B : Bi mg) (g_need_state : Gv P w K mg base (L2.CX P w) 3 "need_state" ["what", "value"] (spNeed K C BR)) (g_values_by : Gv P w K mg base CX0 1 "values_by" ["state"] (spVals K C)) (g_least_others : Gv P w K mg base CX0 1 "least_others" ["values", "many"] (spLeast K)) (D : Df K mg "new_address" s_new_address ["state"]) :
    Gv P w K mg base (L2.CX P w) 4 "new_address" ["state"] (spNew K C BR) := by
  refine D.gvX sc_new_address (fun vs H Q E h => ?_) (fun f cdv A outer s H vs Q E hr h => ⟨_, (pss_one (ps_ret (pe_ix (r := rIx K) ix_seq (pe_cg g_least_others hr rfl pass0 (pa_cons (pe_cg g_values_by hr rfl pass0 (pa_cons (pe_cg g_need_state hr rfl (passes_call (takes_of rfl rfl rfl rfl) (fun _ _ _ _ h => h)) (pa_cons pe_str (pa_cons (pv 0) pa_nil))) pa_nil)) (pa_cons pe_int pa_nil))) pe_int (fun _ _ => rfl)))), ?_⟩)
  · obtain ⟨v, rfl, _⟩ := h
    rfl
  obtain ⟨v, rfl, h⟩ := h
  rcases h with ⟨d, hd, hR⟩ | ⟨a, ns, cells, rfl, hs, h64, hQ⟩
  · exact r_ret (rx_opL (rx_callA (rxa_hd (rx_callA (rxa_hd (rx_call (ea_cons ev_c (ea_cons (ev_var rfl) ea_nil)) fun H1 e1 Q => ⟨_, _, rfl, .inr ⟨d, Dp.ext e1 hd, hR.ext e1⟩⟩))))))
  · obtain ⟨dx, v1, v2, h1, h2, h3⟩ := hs.ex
    refine el_call (ea_cons (ev_call (ea_cons ev_c (ea_cons (ev_var rfl) ea_nil)) (sp_need_ok h1)) ea_nil) (sp_vals hs h64) H (Ex.refl H) _ fun p H1 hp e1 hl => ?_
    refine ⟨p, valsI (intsOf ns cells), 1, rfl, sq_of hl, by decide, fun i l H2 hi hl0 e2 h2 => ?_⟩
    obtain ⟨x, hx, hlx⟩ := oth_one hi
    rw [hx] at h2
    exact rv_iL (K := K) (sq_of h2) (i := 0) rfl H2 (Ex.refl H2) _ fun H3 e3 => hQ x H3 hlx ((e1.trans e2).trans e3)
end
end Kb
set_option Elab.async false
set_option linter.all false
set_option maxRecDepth 100000
set_option maxHeartbeats 4000000
namespace Kb
open PySem PySem.Spec PyProof.Rows L2 Evl
/-! ### the plain law: names by two ways -/
theorem lstrip_list (z y : Str) : (Txt.lstripChars z y).cps.toList = z.cps.toList.dropWhile y.cps.contains := by
  unfold Txt.lstripChars
  rw [PyProof.Rows.stripBy_eq]
  have h1 : stripLo y.cps.contains true z = (z.cps.toList.takeWhile y.cps.contains).length := rfl
  have h2 : ∀ k, stripHi y.cps.contains false z k = z.length := fun _ => rfl
  rw [h2, h1]
  show (z.cps.extract _ z.cps.size).toList = _
  rw [Array.toList_extract]
  simp only [List.extract, Array.length_toList]
  rw [List.take_of_length_le (by simp)]
  generalize z.cps.toList = cs
  induction cs with
  | nil => rfl
  | cons c r ih =>
    by_cases hc : y.cps.contains c = true
    · rw [List.takeWhile_cons_of_pos hc, List.dropWhile_cons_of_pos hc, List.length_cons, List.drop_succ_cons]
      exact ih
    · rw [List.takeWhile_cons_of_neg hc, List.dropWhile_cons_of_neg hc]
      rfl
theorem sIx_nat (L d n : Nat) : HT.sIx L d (some (n : Int)) = min n L := by
  simp only [HT.sIx]
  rw [if_neg (by omega)]
  simp
theorem cut_from (z : Str) (n : Nat) : (cutS z (some (n : Int)) none).cps.toList = z.cps.toList.drop n := by
  have hlen : z.cps.toList.length = z.length := Array.length_toList
  unfold cutS
  show List.take _ _ = _
  have h2 : HT.sIx z.length z.length none = z.length := rfl
  rw [sIx_nat, h2, List.take_of_length_le (by rw [List.length_drop, hlen]; exact Nat.le_refl _)]
  by_cases h : n ≤ z.length
  · rw [Nat.min_eq_left h]
  · rw [Nat.min_eq_right (by omega), List.drop_of_length_le (by omega), List.drop_of_length_le (by omega)]
theorem cut_to (z : Str) (n : Nat) : (cutS z none (some (n : Int))).cps.toList = z.cps.toList.take n := by
  have hlen : z.cps.toList.length = z.length := Array.length_toList
  unfold cutS
  show List.take _ _ = _
  have h1 : HT.sIx z.length 0 none = 0 := rfl
  rw [h1, List.drop_zero, Nat.sub_zero, sIx_nat]
  by_cases h : n ≤ z.length
  · rw [Nat.min_eq_left h]
  · rw [Nat.min_eq_right (by omega), List.take_of_length_le (by omega), List.take_of_length_le (by omega)]
def sg (c : Nat) : Str := ⟨#[c]⟩
theorem join_signs (cs : List Nat) : Txt.join "" (cs.map sg) = ⟨cs.toArray⟩ := by
  show Builtin.Str.glued "" (cs.map sg) = _
  unfold Builtin.Str.glued
  cases cs with
  | nil => rfl
  | cons c r =>
    have key : ∀ (r : List Nat) (acc : Array Nat), (r.map sg).foldl (fun acc p => acc ++ ("" : Str).cps ++ p.cps) acc = acc ++ r.toArray := by
      intro r
      induction r with
      | nil => intro acc; simp
      | cons d r ih =>
        intro acc
        rw [List.map_cons, List.foldl_cons, ih]
        have : ("" : Str).cps = #[] := rfl
        rw [this]
        simp [sg]
    show (⟨((c :: r).map sg).drop 1 |>.foldl (fun acc p => acc ++ ("" : Str).cps ++ p.cps) (sg c).cps⟩ : Str) = _
    rw [List.map_cons, List.drop_succ_cons, List.drop_zero, key]
    simp [sg]
def letC (c : Nat) : Bool := decide (c ∈ lettersS.cps.toList)
theorem letC_eq (c : Nat) : lettersS.cps.contains c = letC c := by
  unfold letC
  rw [Bool.eq_iff_iff, Array.contains_iff_mem, decide_eq_true_iff, Array.mem_toList_iff]
theorem let_dig (c : Nat) (h : digC c = true) : letC c = false := by
  have key : ∀ c ∈ digitsS.cps.toList, letC c = false := by decide +kernel
  exact key c (of_decide_eq_true h)
/-- the law's test of a name's signs -/
def nameL (cs : List Nat) : Bool := !decide (cs.filter letC = []) && (decide (cs.take (cs.filter letC).length = cs.filter letC) && decide ((cs.drop (cs.filter letC).length).filter (fun c => !digC c) = []))
theorem dropW_len (f : Nat → Bool) : ∀ cs : List Nat, (cs.dropWhile f).length ≤ cs.length
  | [] => Nat.le_refl _
  | c :: r => by
    by_cases h : f c = true
    · rw [List.dropWhile_cons_of_pos h, List.length_cons]
      have := dropW_len f r
      omega
    · rw [List.dropWhile_cons_of_neg h]
      exact Nat.le_refl _
theorem dropW_app : ∀ (L Dd : List Nat), (∀ c ∈ L, letC c = true) → (∀ c ∈ Dd, digC c = true) → (L ++ Dd).dropWhile letC = Dd
  | [], [], _, _ => rfl
  | [], d :: r, _, hd => by
    rw [List.nil_append, List.dropWhile_cons_of_neg]
    rw [let_dig d (hd d List.mem_cons_self)]
    exact Bool.false_ne_true
  | c :: r, Dd, hl, hd => by
    rw [List.cons_append, List.dropWhile_cons_of_pos (hl c List.mem_cons_self)]
    exact dropW_app r Dd (fun c hc => hl c (List.mem_cons_of_mem _ hc)) hd
theorem nameL_eq (cs : List Nat) : nameL cs = (decide ((cs.dropWhile letC).length < cs.length) && (cs.dropWhile letC).all digC) := by
  obtain ⟨T, hT⟩ : ∃ T, T = cs.takeWhile letC := ⟨_, rfl⟩
  obtain ⟨Rr, hR⟩ : ∃ R, R = cs.dropWhile letC := ⟨_, rfl⟩
  have split : cs = T ++ Rr := by rw [hT, hR, List.takeWhile_append_dropWhile]
  have ft : T.filter letC = T := by
    rw [hT]
    exact List.filter_eq_self.mpr fun c hc => (List.all_eq_true.mp (List.all_takeWhile (p := letC) (l := cs))) c hc
  have hlen : cs.length = T.length + Rr.length := by rw [split, List.length_append]
  rw [← hR, Bool.eq_iff_iff]
  unfold nameL
  simp only [Bool.and_eq_true, Bool.not_eq_true', decide_eq_false_iff_not, decide_eq_true_eq, List.all_eq_true]
  constructor
  · rintro ⟨h1, h2, h3⟩
    have hd : ∀ c ∈ cs.drop (cs.filter letC).length, digC c = true := fun c hc => by
      have := List.filter_eq_nil_iff.mp h3 c hc
      simpa using this
    have hcs : cs = cs.filter letC ++ cs.drop (cs.filter letC).length := by
      conv => lhs; rw [← List.take_append_drop (cs.filter letC).length cs, h2]
    have hl : ∀ c ∈ cs.filter letC, letC c = true := fun c hc => (List.mem_filter.mp hc).2
    have hdw : cs.dropWhile letC = cs.drop (cs.filter letC).length := by
      conv => lhs; rw [hcs]
      exact dropW_app _ _ hl hd
    rw [← hR] at hdw
    refine ⟨?_, fun c hc => hd c (hdw ▸ hc)⟩
    rw [hdw, List.length_drop]
    have h0 : 0 < (cs.filter letC).length := List.length_pos_iff.mpr h1
    have h4 : (cs.filter letC).length ≤ cs.length := List.length_filter_le _ _
    omega
  · rintro ⟨h1, h2⟩
    have fd : Rr.filter letC = [] := List.filter_eq_nil_iff.mpr fun c hc => by
      rw [let_dig c (h2 c hc)]
      exact Bool.false_ne_true
    have hf : cs.filter letC = T := by rw [split, List.filter_append, ft, fd, List.append_nil]
    rw [hf]
    refine ⟨fun z => ?_, ?_, ?_⟩
    · rw [z] at hlen
      simp only [List.length_nil] at hlen
      omega
    · rw [split, List.take_left]
    · rw [split, List.drop_left]
      exact List.filter_eq_nil_iff.mpr fun c hc => by rw [h2 c hc]; decide
def nameT (z : Str) : Bool := !(!(decide (1 ≤ (z.length : Int)) && decide ((z.length : Int) ≤ 12)) || decide (z ∈ wordsL)) && nameL z.cps.toList
theorem nameT_eq (z : Str) : nameT z = nameZ z := by
  unfold nameT nameZ
  rw [nameL_eq, inV_str, lstrip_list]
  have e : lettersS.cps.contains = letC := funext letC_eq
  rw [e]
  have l1 : ((Txt.lstripChars z lettersS).length : Int) = ((z.cps.toList.dropWhile letC).length : Int) := by
    rw [← e, ← lstrip_list]
    rfl
  have l2 : (z.length : Int) = (z.cps.toList.length : Int) := rfl
  rw [l1]
  have l3 : decide (((z.cps.toList.dropWhile letC).length : Int) < (z.length : Int)) = decide ((z.cps.toList.dropWhile letC).length < z.cps.toList.length) := by
    rw [l2]
    exact decide_eq_decide.mpr Int.ofNat_lt
  rw [l3]
  generalize decide (1 ≤ (z.length : Int)) = A
  generalize decide ((z.length : Int) ≤ 12) = B
  generalize decide (z ∈ wordsL) = W
  generalize (decide ((z.cps.toList.dropWhile letC).length < z.cps.toList.length) && (z.cps.toList.dropWhile letC).all digC) = X
  revert A B W X
  decide
/-- the law's test of a hidden name -/
def hiddenT (z : Str) : Bool := !(!decide (V.str (cutS z none (some 1)) = .str ".") || (!(decide (1 ≤ ((cutS z (some 1) none).length : Int)) && decide (((cutS z (some 1) none).length : Int) ≤ 6)) || !decide ((cutS z (some 1) none).cps.toList.filter (fun c => !digC c) = []))) &&
  (decide (V.str (cutS z (some 1) none) = .str "0") || !decide (V.str (sg ((cutS z (some 1) none).cps.toList.getD 0 0)) = .str "0"))
theorem str_of_list {a b : Str} (h : a.cps.toList = b.cps.toList) : a = b := by
  cases a
  cases b
  have := congrArg List.toArray h
  simpa using this
theorem hiddenT_eq (z : Str) : hiddenT z = hiddenZ z := by
  have c1 : (cutS z (some 1) none).cps.toList = z.cps.toList.drop 1 := cut_from z 1
  have c2 : (cutS z none (some 1)).cps.toList = z.cps.toList.take 1 := cut_to z 1
  have gd : ∀ i, z.cps.getD i 0 = z.cps.toList.getD i 0 := fun i => (PyProof.Rows.getD_list z i).symm
  have len1 : ((cutS z (some 1) none).length : Int) = ((z.cps.toList.drop 1).length : Int) := by rw [← c1]; rfl
  have lenz : (z.length : Int) = (z.cps.toList.length : Int) := rfl
  unfold hiddenT hiddenZ signAt
  rw [c1, gd 0, gd 1, len1, lenz]
  have e1 : decide (V.str (cutS z none (some 1)) = .str ".") = decide (z.cps.toList.take 1 = [46]) := by
    refine decide_eq_decide.mpr ⟨fun h => ?_, fun h => ?_⟩
    · have := congrArg (fun a : Str => a.cps.toList) (V.str.inj h)
      rw [← c2]
      exact this
    · have : (cutS z none (some 1)) = (".": Str) := str_of_list (by rw [c2, h]; rfl)
      rw [this]
  have e2 : decide (V.str (cutS z (some 1) none) = .str "0") = decide (z.cps.toList.drop 1 = [48]) := by
    refine decide_eq_decide.mpr ⟨fun h => ?_, fun h => ?_⟩
    · have := congrArg (fun a : Str => a.cps.toList) (V.str.inj h)
      rw [← c1]
      exact this
    · have : (cutS z (some 1) none) = ("0": Str) := str_of_list (by rw [c1, h]; rfl)
      rw [this]
  have e3 : ∀ (c d : Nat) (s : Str), s = sg d → decide (V.str ⟨#[c]⟩ = .str s) = decide (c = d) := fun c d s hs => by
    subst hs
    refine decide_eq_decide.mpr ⟨fun h => ?_, fun h => by rw [h]; rfl⟩
    have := congrArg (fun a : Str => a.cps.toList) (V.str.inj h)
    simpa [sg] using this
  rw [e1, e2, e3 _ 46 "." rfl, e3 _ 48 "0" rfl]
  show _ = _
  have e4 : decide (V.str (sg ((z.cps.toList.drop 1).getD 0 0)) = .str "0") = decide ((z.cps.toList.drop 1).getD 0 0 = 48) := e3 _ 48 "0" rfl
  rw [e4]
  have e5 : decide (V.int (z.cps.toList.length : Int) = .int 2) = decide (z.cps.toList.length = 2) := decide_eq_decide.mpr ⟨fun h => by have := V.int.inj h; omega, fun h => by rw [h]; rfl⟩
  rw [e5]
  generalize z.cps.toList = cs
  match cs with
  | [] => rfl
  | [a] => simp
  | a :: b :: r =>
    have f1 : (decide ((b :: r).filter (fun c => !digC c) = [])) = (b :: r).all digC := by
      rw [Bool.eq_iff_iff]
      simp only [decide_eq_true_eq, List.filter_eq_nil_iff, List.all_eq_true, Bool.not_eq_true', Bool.not_eq_false]
    have g1 : (a :: b :: r).drop 1 = b :: r := rfl
    have g2 : (a :: b :: r).take 1 = [a] := rfl
    have g3 : (a :: b :: r).getD 0 0 = a := rfl
    have g4 : (a :: b :: r).getD 1 0 = b := rfl
    have g5 : (b :: r).getD 0 0 = b := rfl
    rw [g1, g2, g3, g4, g5, f1]
    have h1 : decide ([a] = [46]) = decide (a = 46) := decide_eq_decide.mpr ⟨fun h => by injection h, fun h => by rw [h]⟩
    have h2 : decide (1 ≤ (((b :: r).length : Nat) : Int)) = true := decide_eq_true (by simp only [List.length_cons]; omega)
    have h3 : decide ((((b :: r).length : Nat) : Int) ≤ 6) = decide ((((a :: b :: r).length : Nat) : Int) ≤ 7) := decide_eq_decide.mpr (by simp only [List.length_cons]; omega)
    have h4 : decide (2 ≤ (((a :: b :: r).length : Nat) : Int)) = true := decide_eq_true (by simp only [List.length_cons]; omega)
    have h5 : decide (b :: r = [48]) = (decide (b = 48) && decide ((a :: b :: r).length = 2)) := by
      rw [Bool.eq_iff_iff]
      simp only [decide_eq_true_eq, Bool.and_eq_true]
      constructor
      · intro h
        injection h with h h'
        rw [h, h']
        exact ⟨rfl, rfl⟩
      · rintro ⟨rfl, h⟩
        cases r with
        | nil => rfl
        | cons c r => simp at h
    rw [h1, h2, h3, h4, h5]
    generalize decide (a = 46) = A
    generalize decide ((((a :: b :: r).length : Nat) : Int) ≤ 7) = B
    generalize (b :: r).all digC = C
    generalize decide (b = 48) = D
    generalize decide ((a :: b :: r).length = 2) = E
    revert A B C D E
    decide
end Kb
set_option Elab.async false
set_option linter.all false
set_option maxRecDepth 100000
set_option maxHeartbeats 4000000
namespace Kb
open PySem PySem.Spec PyProof.Rows L2 Evl
/-- a text of plain signs, not long -/
structure Txt8 (z : Str) : Prop where
  len : z.length ≤ 40000
  ok : ∀ c ∈ z.cps.toList, c < 0x110000
def spWords (K : PySem.W.Frag) : Sp := fun vs H Q _ => vs = [] ∧ ∀ p H', H p = none → Ex H H' → H' p = some (.lst (wordsL.map V.str)) → Q (.ref p) H'
def spTxt (m : Str → Bool) : Sp := fun vs H Q _ => ∃ z, vs = [.str z] ∧ Txt8 z ∧ ∀ H', Ex H H' → Q (.bl (m z)) H'
theorem spTxt_v {m : Str → Bool} {z : Str} {H : Hp} (h : Txt8 z) : SpV (spTxt m) [.str z] H (.bl (m z)) := fun H1 e Q q E => ⟨z, rfl, h, q⟩
section
variable {P : Program} {w : World} {K : PySem.W.Frag} {mg : Str → Option Value} {base : Heap} {H : Hp} {v : V} {d : PyData} {σ : L2.St} {te ta tb : TE} {C BR BN : Addr} {f : Addr} {fd : FuncData}
theorem ok_law_words (B : Bi mg) (D : Df K mg "_law_words" s__law_words []) : Gv P w K mg base CX0 1 "_law_words" [] (spWords K) := by
  refine D.gv sc__law_words (fun vs H Q E h => ?_) (fun f cdv A outer s H vs Q E hr h => ⟨_, (pss_one (ps_ret (pe_lst (pa_cons pe_str (pa_cons pe_str (pa_cons pe_str (pa_cons pe_str (pa_cons pe_str (pa_cons pe_str (pa_cons pe_str (pa_cons pe_str (pa_cons pe_str (pa_cons pe_str (pa_cons pe_str (pa_cons pe_str (pa_cons pe_str pa_nil)))))))))))))))), ?_⟩)
  · obtain ⟨rfl, _⟩ := h
    rfl
  obtain ⟨rfl, hQ⟩ := h
  exact s_retL (el_lst (ea_cons ev_c (ea_cons ev_c (ea_cons ev_c (ea_cons ev_c (ea_cons ev_c (ea_cons ev_c (ea_cons ev_c (ea_cons ev_c (ea_cons ev_c (ea_cons ev_c (ea_cons ev_c (ea_cons ev_c (ea_cons ev_c ea_nil))))))))))))) (show 13 ≤ 100000 by decide)) (fun p H1 hp e1 h1 => hQ p H1 hp e1 h1)
theorem cut_txt {z : Str} (h : Txt8 z) (lo hi : Option Int) : Txt8 (cutS z lo hi) := by
  refine ⟨Nat.le_trans (cutS_length z lo hi) h.len, fun c hc => h.ok c ?_⟩
  unfold cutS at hc
  simp only at hc
  exact List.mem_of_mem_drop (List.mem_of_mem_take hc)
theorem ok_name_text (B : Bi mg) (g__law_words : Gv P w K mg base CX0 1 "_law_words" [] (spWords K)) (D : Df K mg "_law_is_name_text" s__law_is_name_text ["value"]) : Gv P w K mg base CX0 2 "_law_is_name_text" ["value"] (spTxt nameT) := by
  have nd := sc__law_is_name_text.nd
  refine D.gv sc__law_is_name_text (fun vs H Q E h => ?_) (fun f cdv A outer s H vs Q E hr h => ?_)
  · obtain ⟨z, rfl, _⟩ := h
    rfl
  have hu64 := hu64_of hr
  refine ⟨_, (pss_cons (ps_if (PW.pt (pw_or (pt_not (pt_chain op_le op_le pe_int (pe_callB (r := rLen K) callA_len rfl B.len (by decide +kernel) (pa_cons (pv 0) pa_nil)) pe_int)) (pw_or1 (pt_cmpR (r := rInA K) (opA_in hu64) (pv 0) (pe_cg0 g__law_words hr rfl pass0) rfl)))) (pss_one (ps_ret pe_bl)) pss_nil)
    (pss_cons (ps_setLc (i := 1) (own := [("sign", 3)]) rfl nd rfl rfl (sw_true rfl rfl rfl (by decide +kernel)) (piA_seq (pv 0)) (blk_ok (by kernel_rfl)) (fun _ _ _ _ _ => (pg_name (i := 3) nd rfl (.inl rfl))) (fun _ _ _ _ _ => (pts_one (pt_cmpR (r := rInA K) (opA_in hu64) (pv 3) pe_str rfl))) (fun _ _ _ _ _ => (pv 3)))
    (pss_cons (ps_set (i := 2) nd rfl (.inl rfl) (pe_slice (r := rSl K) slA (pv 0) (po_some (pe_callB (r := rLen K) callA_len rfl B.len (by decide +kernel) (pa_cons (pv 1) pa_nil))) po_none))
    (pss_one (ps_ret (pe_and (pe_cmpR (r := rNeA K) (opA_ne hu64) (pv 1) (pe_lst pa_nil) (nomark _)) (pe_and (pe_cmpR (r := rEqA K) (opA_eq hu64) (pe_slice (r := rSl K) slA (pv 0) po_none (po_some (pe_callB (r := rLen K) callA_len rfl B.len (by decide +kernel) (pa_cons (pv 1) pa_nil)))) (pe_bmK (K := K) rfl PySem.F.plainAttrs_str PySem.F.slot_str_join PySem.F.type_str_join (r := rJoin K) mt_joinA pe_str (pa_cons (pv 1) pa_nil)) (nomark _)) (pe_one (pe_cmpR (r := rEqA K) (opA_eq hu64) (pe_lc (own := [("sign", 3)]) rfl nd (piA_seq (pv 2)) (blk_ok (by kernel_rfl)) (fun _ _ _ _ _ => (pg_name (i := 3) nd rfl (.inl rfl))) (fun _ _ _ _ _ => (pts_one (pt_cmpR (r := rNotInA K) (opA_notIn hu64) (pv 3) pe_str rfl))) (fun _ _ _ _ _ => (pv 3))) (pe_lst pa_nil) (nomark _)))))))))), ?_⟩
  obtain ⟨z, rfl, hz, hQ⟩ := h
  have hz2 : z.length ≤ 100000 := Nat.le_trans hz.len (by decide)
  refine q_when (b := !(decide (1 ≤ (z.length : Int)) && decide ((z.length : Int) ≤ 12)) || decide (z ∈ wordsL)) (et_or (et_not (et_test (ev_chain ev_c (ev_lenT (ev_var rfl) hz2) ev_c rv_I0 (fun _ => rv_I0))))
    (fun _ => et_test (ev_is (ev_opL (ev_var rfl) (el_call ea_nil (fun H1 e Q q E => ⟨rfl, q⟩)) (fun p H1 h1 e => rv_l (rv_isL (sq_of h1) rfl (flat_strs wordsL)))) (by rw [inV_str])))) (fun b H1 e1 => s_ret ev_c fun H2 e2 => ?_) (fun b H1 e1 => ?_)
  · have hm : nameT z = false := by
      unfold nameT
      rw [b]
      rfl
    rw [hm] at hQ
    exact hQ H2 (e1.trans e2)
  have hm : nameT z = nameL z.cps.toList := by
    unfold nameT
    rw [b]
    rfl
  rw [hm] at hQ
  refine q_asgL (xs := (z.cps.toList.filter letC).map fun c => .str ⟨#[c]⟩) (el_lcSf letC (fun c => .str ⟨#[c]⟩) (ev_var rfl) hz.len (fun _ => rfl) (fun c H2 e => et_test (ev_op (ev_var rfl) ev_c rv_inc)) (fun c H2 e => ev_var rfl)) (fun l H2 hl e2 h2 => ?_)
  have hlen : ((z.cps.toList.filter letC).map fun c => V.str ⟨#[c]⟩).length = (z.cps.toList.filter letC).length := List.length_map ..
  have hfl : (z.cps.toList.filter letC).length ≤ z.length := by
    exact Nat.le_trans (List.length_filter_le letC z.cps.toList) (Nat.le_of_eq Array.length_toList)
  refine q_asg (v := .str (cutS z (some ((z.cps.toList.filter letC).length : Int)) none)) (ev_slS (ev_var rfl) (eo_some (by rw [← hlen]; exact ev_lenL (ev_var rfl) (sq_of h2))) eo_none hz2) (fun H3 e3 => ?_)
  have h3 := e3 _ _ h2
  have hsig : ∀ {cs : List Nat}, (∀ c ∈ cs, c ∈ z.cps.toList) → SeqAt.shaped (.list (cs.map fun c => PyData.str ⟨#[c]⟩)) = true := fun h => shaped_signs fun c hc => hz.ok c (h c hc)
  have hdp : ∀ (cs : List Nat) (H : Hp), DpAll K H (cs.map fun c => V.str ⟨#[c]⟩) (cs.map fun c => PyData.str ⟨#[c]⟩) := fun cs H => by
    have z := dpAll_strs (K := K) (H := H) (ns := cs.map sg)
    rw [List.map_map, List.map_map] at z
    exact z
  have hjoin : (z.cps.toList.filter letC).map sg = (z.cps.toList.filter letC).map fun c => (⟨#[c]⟩ : Str) := rfl
  refine s_ret (v := .bl (nameL z.cps.toList)) (ev_is (ev_andV (ev_neNilH (ev_var rfl) (sq_of h3) (fun H1 e => el_lst ea_nil (Nat.zero_le _)) (hdp _ H3) (hsig fun c hc => (List.mem_filter.mp hc).1)) (fun _ => ev_andV (ev_op (ev_slS (hi := some ((z.cps.toList.filter letC).length : Int)) (ev_var rfl) eo_none (eo_some (by rw [← hlen]; exact ev_lenL (ev_var rfl) (sq_of h3))) hz2)
    (ev_joinH (ys := (z.cps.toList.filter letC).map sg) ev_c (ev_var rfl) (sq_of (by rw [List.map_map]; exact h3)) ?_) (rv_eqs rfl))
    (fun _ => ev_eqNil (el_lcSf (fun c => !digC c) (fun c => .str ⟨#[c]⟩) (ev_var rfl) (cut_txt hz _ _).len (fun _ => rfl) (fun c H2 e => et_test (ev_op (ev_var rfl) ev_c rv_nic)) (fun c H2 e => ev_var rfl)) (fun H1 e => el_lst ea_nil (Nat.zero_le _)) (fun H1 e => hdp _ H1) (hsig fun c hc => (cut_sub _ _ _ (List.mem_filter.mp hc).1)))))
    ?_) (fun H4 e4 => hQ H4 (((e1.trans e2).trans e3).trans e4))
  · have h1 : (((z.cps.toList.filter letC).map sg).map (·.length)).sum = (z.cps.toList.filter letC).length := by
      generalize z.cps.toList.filter letC = cs
      induction cs with
      | nil => rfl
      | cons c r ih =>
        rw [List.map_cons, List.map_cons, List.sum_cons, ih, List.length_cons]
        show 1 + _ = _
        omega
    rw [h1]
    have h0 : ("" : Str).length = 0 := by decide
    rw [h0]
    omega
  · rw [join_signs]
    unfold nameL
    have e1 : decide (((z.cps.toList.filter letC).map fun c => PyData.str ⟨#[c]⟩) = []) = decide (z.cps.toList.filter letC = []) := decide_eq_decide.mpr List.map_eq_nil_iff
    have e2 : decide (V.str (cutS z none (some ((z.cps.toList.filter letC).length : Int))) = .str ⟨(z.cps.toList.filter letC).toArray⟩) = decide (z.cps.toList.take (z.cps.toList.filter letC).length = z.cps.toList.filter letC) := by
      refine decide_eq_decide.mpr ⟨fun h => ?_, fun h => ?_⟩
      · have := congrArg (fun a : Str => a.cps.toList) (V.str.inj h)
        rw [← cut_to]
        exact this
      · have : cutS z none (some ((z.cps.toList.filter letC).length : Int)) = ⟨(z.cps.toList.filter letC).toArray⟩ := str_of_list (by rw [cut_to, h])
        rw [this]
    have e3 : decide ((((cutS z (some ((z.cps.toList.filter letC).length : Int)) none).cps.toList.filter fun c => !digC c).map fun c => PyData.str ⟨#[c]⟩) = []) = decide ((z.cps.toList.drop (z.cps.toList.filter letC).length).filter (fun c => !digC c) = []) := by
      rw [cut_from]
      exact decide_eq_decide.mpr List.map_eq_nil_iff
    rw [e1, e2, e3]
theorem ok_hidden_text (B : Bi mg) (D : Df K mg "_law_is_hidden_text" s__law_is_hidden_text ["value"]) : Gv P w K mg base CX0 1 "_law_is_hidden_text" ["value"] (spTxt hiddenT) := by
  have nd := sc__law_is_hidden_text.nd
  refine D.gv sc__law_is_hidden_text (fun vs H Q E h => ?_) (fun f cdv A outer s H vs Q E hr h => ?_)
  · obtain ⟨z, rfl, _⟩ := h
    rfl
  have hu64 := hu64_of hr
  refine ⟨_, (pss_cons (ps_set (i := 1) nd rfl (.inl rfl) (pe_slice (r := rSl K) slA (pv 0) (po_some pe_int) po_none))
    (pss_cons (ps_if (PW.pt (pw_or (pt_cmpR (r := rNeA K) (opA_ne hu64) (pe_slice (r := rSl K) slA (pv 0) po_none (po_some pe_int)) pe_str (nomark _)) (pw_or (pt_not (pt_chain op_le op_le pe_int (pe_callB (r := rLen K) callA_len rfl B.len (by decide +kernel) (pa_cons (pv 1) pa_nil)) pe_int)) (pw_or1 (pt_cmpR (r := rNeA K) (opA_ne hu64) (pe_lc (own := [("sign", 2)]) rfl nd (piA_seq (pv 1)) (blk_ok (by kernel_rfl)) (fun _ _ _ _ _ => (pg_name (i := 2) nd rfl (.inl rfl))) (fun _ _ _ _ _ => (pts_one (pt_cmpR (r := rNotInA K) (opA_notIn hu64) (pv 2) pe_str rfl))) (fun _ _ _ _ _ => (pv 2))) (pe_lst pa_nil) (nomark _)))))) (pss_one (ps_ret pe_bl)) pss_nil)
    (pss_one (ps_ret (pe_or (pe_cmpR (r := rEqA K) (opA_eq hu64) (pv 1) pe_str (nomark _)) (pe_one (pe_cmpR (r := rNeA K) (opA_ne hu64) (pe_ix (r := rIx K) ix_seq (pv 1) pe_int (fun _ _ => rfl)) pe_str (nomark _)))))))), ?_⟩
  obtain ⟨z, rfl, hz, hQ⟩ := h
  have hz2 : z.length ≤ 100000 := Nat.le_trans hz.len (by decide)
  have hd8 := cut_txt hz (some 1) none
  have hd2 : (cutS z (some 1) none).length ≤ 100000 := Nat.le_trans hd8.len (by decide)
  have hsig : ∀ {cs : List Nat}, (∀ c ∈ cs, c ∈ z.cps.toList) → SeqAt.shaped (.list (cs.map fun c => PyData.str ⟨#[c]⟩)) = true := fun h => shaped_signs fun c hc => hz.ok c (h c hc)
  have hdp : ∀ (cs : List Nat) (H : Hp), DpAll K H (cs.map fun c => V.str ⟨#[c]⟩) (cs.map fun c => PyData.str ⟨#[c]⟩) := fun cs H => by
    have z := dpAll_strs (K := K) (H := H) (ns := cs.map sg)
    rw [List.map_map, List.map_map] at z
    exact z
  have en : decide (((cutS z (some 1) none).cps.toList.filter (fun c => !digC c)).map (fun c => PyData.str ⟨#[c]⟩) = []) = decide ((cutS z (some 1) none).cps.toList.filter (fun c => !digC c) = []) := decide_eq_decide.mpr List.map_eq_nil_iff
  refine q_asg (v := .str (cutS z (some 1) none)) (ev_slS (ev_var rfl) (eo_some ev_c) eo_none hz2) (fun H1 e1 => ?_)
  refine q_when (b := (!decide (V.str (cutS z none (some 1)) = .str ".") || (!(decide (1 ≤ ((cutS z (some 1) none).length : Int)) && decide (((cutS z (some 1) none).length : Int) ≤ 6)) || !decide ((cutS z (some 1) none).cps.toList.filter (fun c => !digC c) = []))))
    (et_or (et_test (ev_op (ev_slS (ev_var rfl) eo_none (eo_some ev_c) hz2) ev_c (rv_nes rfl))) (fun _ => et_or (et_not (et_test (ev_chain ev_c (ev_lenT (ev_var rfl) hd2) ev_c rv_I0 (fun _ => rv_I0)))) (fun _ => et_test (ev_is (ev_neNil (el_lcSf (fun c => !digC c) (fun c => .str ⟨#[c]⟩) (ev_var rfl) hd8.len (fun _ => rfl) (fun c H2 e => et_test (ev_op (ev_var rfl) ev_c rv_nic)) (fun c H2 e => ev_var rfl)) (fun H1 e => el_lst ea_nil (Nat.zero_le _)) (fun H1 e => hdp _ H1) (hsig fun c hc => cut_sub _ _ _ (List.mem_filter.mp hc).1)) (by rw [en])))))
    (fun b H2 e2 => s_ret ev_c fun H3 e3 => ?_) (fun b H2 e2 => ?_)
  · have hm : hiddenT z = false := by
      unfold hiddenT
      rw [b]
      rfl
    rw [hm] at hQ
    exact hQ H3 ((e1.trans e2).trans e3)
  have hm : hiddenT z = (decide (V.str (cutS z (some 1) none) = .str "0") || !decide (V.str (sg ((cutS z (some 1) none).cps.toList.getD 0 0)) = .str "0")) := by
    unfold hiddenT
    rw [b]
    rfl
  rw [hm] at hQ
  have hl1 : 1 ≤ (cutS z (some 1) none).length := by
    have : (decide (1 ≤ ((cutS z (some 1) none).length : Int))) = true := by
      revert b
      generalize decide (1 ≤ ((cutS z (some 1) none).length : Int)) = X
      generalize decide (((cutS z (some 1) none).length : Int) ≤ 6) = Y
      generalize decide (V.str (cutS z none (some 1)) = .str ".") = A
      generalize decide ((cutS z (some 1) none).cps.toList.filter (fun c => !digC c) = []) = Z
      revert X Y A Z
      decide
    have := of_decide_eq_true this
    omega
  refine s_ret (ev_orV (ev_op (ev_var rfl) ev_c (rv_eqs rfl)) (fun _ => ev_is (ev_op (ev_op (ev_var rfl) ev_c (rv_iS hd2 (sign_at (i := 0) hl1))) ev_c (rv_nes rfl)) ?_)) (fun H3 e3 => hQ H3 ((e1.trans e2).trans e3))
  rw [PyProof.Rows.getD_list]
  rfl
/-- each once, ascending: of numbers, of texts -/
def spUnlike (K : PySem.W.Frag) : Sp := fun vs H Q _ => ∃ p, vs = [.ref p] ∧ ((∃ ns : List Int, SqL K H p (ns.map V.int) ∧ ns.length ≤ 30000 ∧ ∀ l H', H l = none → Ex H H' → H' l = some (.lst ((uniqI ns).map V.int)) → Q (.ref l) H') ∨
  ∃ zs : List Str, SqL K H p (zs.map V.str) ∧ zs.length < 64 ∧ ∀ (ys : List Str) l H', (∀ x, x ∈ ys ↔ x ∈ zs) → ys.length ≤ zs.length → ys.Pairwise (fun a b => leS a b ∧ a ≠ b) → H l = none → Ex H H' → H' l = some (.lst (ys.map V.str)) → Q (.ref l) H')
theorem pw_sortedS : ∀ ys : List Str, sortedS ys = true → ys.Pairwise leS := by
  have step : ∀ (x : Str) (r : List Str), risingS x r = true → r.Pairwise leS ∧ ∀ y ∈ r, leS x y := by
    intro x r
    induction r generalizing x with
    | nil => exact fun _ => ⟨.nil, fun _ h => nomatch h⟩
    | cons y r ih =>
      intro h
      have h' : (!ltCps y.cps.toList x.cps.toList && risingS y r) = true := h
      rw [Bool.and_eq_true, Bool.not_eq_true'] at h'
      obtain ⟨a, b⟩ := ih y h'.2
      have hxy : leS x y := by
        have z := h'.1
        rw [PyProof.Rows.ltCps_eq] at z
        exact of_decide_eq_false z
      refine ⟨List.pairwise_cons.mpr ⟨b, a⟩, fun w hw => ?_⟩
      rcases List.mem_cons.mp hw with rfl | hw
      · exact hxy
      · exact (List.le_trans (show x.cps.toList ≤ y.cps.toList from hxy) (show y.cps.toList ≤ w.cps.toList from b w hw) : x.cps.toList ≤ w.cps.toList)
  intro ys h
  cases ys with
  | nil => exact .nil
  | cons x r =>
    obtain ⟨a, b⟩ := step x r h
    exact List.pairwise_cons.mpr ⟨b, a⟩
/-- the law's comprehension over a sorted list -/
theorem ev_adj {α : Type} [DecidableEq α] (f : α → V) (finj : ∀ a b, f a = f b → a = b) (fs : ∀ a b, scal (f a) (f b) = true) {p0 p : Addr} (xs : List α) (x0 : α) {H : Hp} (hl : SqL K H p (xs.map f)) (hz : xs.length ≤ 30000) {tt : TT}
    (ht : ∀ i : Nat, ∀ H1, Ex H H1 → i < xs.length → EvT tt [some (.ref p0), some (.ref p), some (.int (i : Int))] H1 (adjF xs x0 i)) :
    EvL (tLc (iRng1 (tCons (tCB (rLen K) (tCons (tVar 1) tNil)) tNil)) (gName 2) tt (tOp (rIx K) (tVar 1) (tVar 2)) [2]) [some (.ref p0), some (.ref p), none] H ((adjL xs x0).map f) := by
  refine el_is (el_lcR (n := (xs.length : Int)) (adjF xs x0) (fun i => f (xs.getD i x0)) (ea_cons (ev_is (ev_lenL (ev_var rfl) hl) (by rw [List.length_map])) ea_nil) (by omega) (fun _ => rfl) (fun i H1 e hi => ht i H1 e (by omega)) (fun i H1 e hi _ => ?_) (by omega)) ?_
  · have hi2 : i < xs.length := by omega
    refine ev_op (ev_var rfl) (ev_var rfl) (rv_iL (ex_l e hl) (atI_nat ?_))
    rw [List.getElem?_map, List.getElem?_eq_getElem hi2]
    simp [hi2]
  · rw [Int.toNat_natCast]
    unfold given adjL
    rw [List.map_map]
    rfl
theorem ok_unlike (B : Bi mg) (D : Df K mg "_law_unlike" s__law_unlike ["row"]) : Gv P w K mg base CX0 1 "_law_unlike" ["row"] (spUnlike K) := by
  have nd := sc__law_unlike.nd
  refine D.gv sc__law_unlike (fun vs H Q E h => ?_) (fun f cdv A outer s H vs Q E hr h => ?_)
  · obtain ⟨p, rfl, _⟩ := h
    rfl
  have hu64 := hu64_of hr
  refine ⟨_, (pss_cons (ps_set (i := 1) nd rfl (.inr rfl) (pe_callB (r := rSortA K) (callA_sorted rfl) rfl B.sorted (by decide +kernel) (pa_cons (pv 0) pa_nil)))
    (pss_one (ps_ret (pe_lc (own := [("at", 2)]) rfl nd (pi_range1 rfl B.range (pa_cons (pe_callB (r := rLen K) callA_len rfl B.len (by decide +kernel) (pa_cons (pv 1) pa_nil)) pa_nil)) (blk_ok (by kernel_rfl)) (fun _ _ _ _ _ => (pg_name (i := 2) nd rfl (.inl rfl))) (fun _ _ _ _ _ => (pts_one (PW.pt (pw_or (pt_cmpR (r := rEqA K) (opA_eq hu64) (pv 2) pe_int (nomark _)) (pw_or1 (pt_cmpR (r := rNeA K) (opA_ne hu64) (pe_ix (r := rIx K) ix_seq (pv 1) (pv 2) (fun _ _ => rfl)) (pe_ix (r := rIx K) ix_seq (pv 1) (pe_op op_sub (pv 2) pe_int) (fun _ _ => rfl)) (nomark _))))))) (fun _ _ _ _ _ => (pe_ix (r := rIx K) ix_seq (pv 1) (pv 2) (fun _ _ => rfl))))))), ?_⟩
  obtain ⟨p, rfl, h⟩ := h
  -- the test of a turn
  have test : ∀ {α : Type} [DecidableEq α] (f : α → V) (finj : ∀ a b, f a = f b → a = b) (fs : ∀ a b, scal (f a) (f b) = true) {q : Addr} (xs : List α) (x0 : α) {H : Hp} (hl : SqL K H q (xs.map f)), ∀ i : Nat, ∀ H1, Ex H H1 → i < xs.length →
      EvT (tOr (tTest (tOp (rEqA K) (tVar 2) (tC (.int 0)))) (tTest (tOp (rNeA K) (tOp (rIx K) (tVar 1) (tVar 2)) (tOp (rIx K) (tVar 1) (tOp (rI0 fun i j => .int (i - j)) (tVar 2) (tC (.int 1))))))) [some (.ref p), some (.ref q), some (.int (i : Int))] H1 (adjF xs x0 i) := by
    intro α _ f finj fs q xs x0 H hl i H1 e hi
    unfold adjF
    have gi : ∀ k, k < xs.length → atI (xs.map f) (k : Int) = some (f (xs.getD k x0)) := fun k hk => atI_nat (by rw [List.getElem?_map, List.getElem?_eq_getElem hk]; simp [hk])
    refine et_or (et_test (ev_is (ev_op (ev_var rfl) ev_c (rv_eqs rfl)) ?_)) (fun b => et_test (ev_is (ev_op (x := f (xs.getD i x0)) (y := f (xs.getD (i - 1) x0)) (ev_op (ev_var rfl) (ev_var rfl) (rv_iL (ex_l e hl) (gi i hi))) (ev_op (ev_var rfl) (ev_op (ev_var rfl) ev_c rv_I0) (rv_iL (ex_l e hl) ?_)) (rv_nes (fs _ _))) ?_))
    · exact congrArg V.bl (decide_eq_decide.mpr ⟨fun h => by have := V.int.inj h; omega, fun h => by rw [h]; rfl⟩)
    · have hi0 : i ≠ 0 := of_decide_eq_false b
      rw [show (i : Int) - 1 = ((i - 1 : Nat) : Int) by omega]
      exact gi (i - 1) (by omega)
    · refine congrArg (fun b => V.bl (!b)) (decide_eq_decide.mpr ⟨fun h => finj _ _ h, fun h => by rw [h]⟩)
  rcases h with ⟨ns, hl, hz, hQ⟩ | ⟨zs, hl, hz, hQ⟩
  · refine q_asgL (el_sortI (zs := srtI ns) (ev_var rfl) hl (srt_perm ns) (srt_le ns)) (fun q H1 hq e1 h1 => ?_)
    have hn : (srtI ns).length = ns.length := (srt_perm ns).length_eq
    refine s_retL (ev_adj V.int (fun a b h => V.int.inj h) (fun _ _ => rfl) (p0 := p) (p := q) (srtI ns) 0 (sq_of h1) (by omega) (test V.int (fun a b h => V.int.inj h) (fun _ _ => rfl) (srtI ns) 0 (sq_of h1))) (fun l H2 hl2 e2 h2 => ?_)
    rw [adj_srt] at h2
    exact hQ l H2 (fresh_back e1 hl2) (e1.trans e2) h2
  · refine (ev_var (σ := [some (.ref p), none, none]) (i := 0) rfl) H (Ex.refl H) _ fun H0 e0 => .inr (.inl ⟨p, zs, rfl, ex_l e0 hl, hz, fun ys q hperm hsort hq => ?_⟩)
    have hn : ys.length = zs.length := hperm.length_eq
    have h1 : upd H0 q (.lst (ys.map V.str)) q = some (.lst (ys.map V.str)) := upd_same
    have e1 := e0.trans (Ex.new (o := .lst (ys.map V.str)) hq)
    refine s_retL (ev_adj V.str (fun a b h => V.str.inj h) (fun _ _ => rfl) (p0 := p) (p := q) ys "" (sq_of h1) (by omega) (test V.str (fun a b h => V.str.inj h) (fun _ _ => rfl) ys "" (sq_of h1))) (fun l H2 hl2 e2 h2 => ?_)
    exact hQ _ l H2 (fun x => by rw [adj_mem, hperm.mem_iff]) (by
      unfold adjL
      rw [List.length_map, ← hn]
      refine Nat.le_trans (List.length_filter_le _ _) (by simp)) (adj_lt ("" : Str) leS leS_anti (pw_sortedS ys hsort)) (fresh_back e1 hl2) (e1.trans e2) h2
end
end Kb
set_option Elab.async false
set_option linter.all false
set_option maxRecDepth 100000
set_option maxHeartbeats 8000000
namespace Kb
open PySem PySem.Spec PyProof.Rows L2 L2H LamX Evl
/-! ### the law's catch: which error it was, its fields (printed by gen_caught.py) -/
structure KX (K : PySem.W.Frag) (mg : Str → Option Value) (HE : Addr) (cA : Nat → Addr) : Prop where
  iso : ∀ j i, j < 8 → i < 8 → PySem.W.kitOne K (.ref (cA j)) (.ref (cA i)) = some (decide (j = i))
  ex : ∀ j, j < 8 → ExcC K (cA j)
  xf : ∀ j, j < 8 → XfC K (cA j)
  te : ∀ j, j < 8 → PySem.W.exmOne K (.ref (cA j)) (.ref HE) = some true
  gHE : mg "HeapError" = some (.ref HE)
  g0 : mg "BadName" = some (.ref (cA 0))
  n0name : PySem.W.findIn K (.ref (cA 0)) "name" = some none
  g1 : mg "BadNumber" = some (.ref (cA 1))
  n1what : PySem.W.findIn K (.ref (cA 1)) "what" = some none
  n1number : PySem.W.findIn K (.ref (cA 1)) "number" = some none
  g2 : mg "BadRow" = some (.ref (cA 2))
  n2what : PySem.W.findIn K (.ref (cA 2)) "what" = some none
  n2row : PySem.W.findIn K (.ref (cA 2)) "row" = some none
  g3 : mg "NoName" = some (.ref (cA 3))
  n3name : PySem.W.findIn K (.ref (cA 3)) "name" = some none
  g4 : mg "TakenName" = some (.ref (cA 4))
  n4name : PySem.W.findIn K (.ref (cA 4)) "name" = some none
  g5 : mg "TooMany" = some (.ref (cA 5))
  n5what : PySem.W.findIn K (.ref (cA 5)) "what" = some none
  n5many : PySem.W.findIn K (.ref (cA 5)) "many" = some none
  n5limit : PySem.W.findIn K (.ref (cA 5)) "limit" = some none
  g6 : mg "Unlike" = some (.ref (cA 6))
  n6what : PySem.W.findIn K (.ref (cA 6)) "what" = some none
  g7 : mg "BadText" = some (.ref (cA 7))
  n7line : PySem.W.findIn K (.ref (cA 7)) "line" = some none
  n7word : PySem.W.findIn K (.ref (cA 7)) "word" = some none
/-- the items of what is told -/
def Fo (c : Nat) (fs : List (Str × V)) (xs : List V) : Prop := match c with
  | 0 => ∃ v0, fs.lookup ("name" : Str) = some v0 ∧ xs = [.str "name", v0]
  | 1 => ∃ v0 v1, fs.lookup ("what" : Str) = some v0 ∧ fs.lookup ("number" : Str) = some v1 ∧ xs = [.str "number", v0, v1]
  | 2 => ∃ v0 v1, fs.lookup ("what" : Str) = some v0 ∧ fs.lookup ("row" : Str) = some v1 ∧ xs = [.str "row", v0, v1]
  | 3 => ∃ v0, fs.lookup ("name" : Str) = some v0 ∧ xs = [.str "noname", v0]
  | 4 => ∃ v0, fs.lookup ("name" : Str) = some v0 ∧ xs = [.str "taken", v0]
  | 5 => ∃ v0 v1 v2, fs.lookup ("what" : Str) = some v0 ∧ fs.lookup ("many" : Str) = some v1 ∧ fs.lookup ("limit" : Str) = some v2 ∧ xs = [.str "many", v0, v1, v2]
  | 6 => ∃ v0, fs.lookup ("what" : Str) = some v0 ∧ xs = [.str "unlike", v0]
  | 7 => ∃ v0 v1, fs.lookup ("line" : Str) = some v0 ∧ fs.lookup ("word" : Str) = some v1 ∧ xs = [.str "text", v0, v1]
  | _ => False
/-- it raises an error of the c-th class with the fields fs -/
def Rses (tl : Hp → VK → XK → Prop) (H : Hp) (C : Addr) (fs : List (Str × V)) : Prop := ∀ (Q : VK) (E : XK), Rs E H C fs → tl H Q E
def spCaught (P : Program) (w : World) (K : PySem.W.Frag) (mg : Str → Option Value) (base : Heap) (k : Nat) (cA : Nat → Addr) : SpZ := fun s fr vs H Q => ∃ f tl c fs xs, vs = [.ref f] ∧ LamAt P w K mg base k fr s H f tl ∧ c < 8 ∧ Rses tl H (cA c) fs ∧ Fo c fs xs ∧
  ∀ t H', Ex H H' → H' t = some (.tup xs) → Q (.ref t) H'
section
variable {K : PySem.W.Frag} {σ : L2.St} {H : Hp} {te : TE} {a : Addr} {cls : Value} {d : Option Addr} {v : V} {f : Str} {fs : List (Str × V)} {C D dd : Addr} {b : Bool}
theorem ev_isP (hv : Ev te σ H (.ref a)) (hC : ExcC K D) (hk : PySem.W.kitOne K (.ref D) (.ref C) = some b) (hx : XdAt H d) : Ev (tCB (rIsP K a (.ref D) d) (tCons te (tCons (tC (.ref C)) tNil))) σ H (.bl b) := fun H1 e1 Q q =>
  hv H1 e1 _ fun H2 e2 => ⟨D, .ref C, .ref C, b, rfl, hC, rfl, (fun u h => h), hk, hx.same (e1.trans e2), q H2 e2⟩
theorem ev_xp (hv : Ev te σ H (.ref a)) (T : XfC K C) (hn : PySem.W.findIn K (.ref C) f = some none) (hx : H dd = some (.xd fs)) (hl : fs.lookup f = some v) : Ev (tXp K a (.ref C) (some dd) f te) σ H v := fun H1 e1 Q q =>
  hv H1 e1 _ fun H2 e2 => ⟨rfl, C, dd, fs, v, rfl, T, hn, rfl, (e1.trans e2) _ _ hx, hl, q H2 e2⟩
theorem un_more {fr : List Addr} {H H1 : Hp} {h h1 : Heap} {L : Addr} (u : Un fr [] H H1 h h1) (hL : h.get? L = none) : Un (L :: fr) [] H H1 h h1 :=
  ⟨fun b o e n hb hx => u.keep b o e n (fun z => hb (List.mem_cons_of_mem _ z)) hx, fun b o e n hb hx => (List.mem_cons.mp hb).elim (fun z => by rw [z, hL] at e; cases e) (fun z => u.slot b o e n z hx), u.free, u.there, u.tups, u.frzs, u.tbls⟩
end
section
variable {P : Program} {w : World} {K : PySem.W.Frag} {mg : Str → Option Value} {base : Heap} {HE : Addr} {cA : Nat → Addr} {k : Nat}
theorem ok_caught (B : Bi mg) (T : KX K mg HE cA) (D : Df K mg "_law_caught" s__law_caught ["action"]) : Gz P w K mg base (k + 1) "_law_caught" ["action"] (spCaught P w K mg base k cA) := by
  have nd := sc__law_caught.nd
  refine D.gz sc__law_caught (fun s fr vs H Q h => ?_) (fun f0 cdv A outer s H vs Q hr hgd h => ?_)
  · obtain ⟨f, tl, c, fs, xs, rfl, _⟩ := h
    rfl
  have hu64 := hu64_of hr
  refine ⟨_, pss_cons (ps_try_as (i := 1) (c := .ref HE) rfl rfl nd rfl rfl ⟨rfl, by decide, .inl T.gHE⟩ L2.takes0 (fun W pn xe tk _ => pss_one (ps_expr (pe_actZ (P := P) (w := w) (K := K) (mg := mg) (base := base) (fr0 := frs outer) (fr := s.heap.objs.size :: frs outer) (s0 := s) (H0 := H) (k := k) (i := 0) (E := fun σ => WE W σ) rfl rfl rfl rfl rfl rfl rfl rfl rfl rfl (fun σ => passAt tk σ) hr rfl (Or.inl rfl))))
    (fun a oe cls d pn hz hf => by exact (pss_cons (ps_set (i := 2) nd rfl (.inl rfl) (pe_lst pa_nil))
      (pss_cons (ps_if (pt_val (pe_callB (id := "isinstance") (r := rIsP K a cls d) (call_isP (a := a) (oe := oe) (d := d) List.mem_cons_self hz hf) rfl B.isi (by decide +kernel) (pa_cons (pv 1) (pa_cons (pe_glob (v := .ref (cA 0)) rfl T.g0 rfl) pa_nil)))) (pss_one (ps_expr (pe_bmK (K := K) rfl PySem.F.plainAttrs_list PySem.F.slot_list_append PySem.F.type_list_append mt_append (pv 2) (pa_cons (pe_tup (pa_cons pe_str (pa_cons (pe_xpK (K := K) rfl (a := a) (d := d) List.mem_cons_self hz hf (pv 1)) pa_nil))) pa_nil)))) pss_nil)
      (pss_cons (ps_if (pt_val (pe_callB (id := "isinstance") (r := rIsP K a cls d) (call_isP (a := a) (oe := oe) (d := d) List.mem_cons_self hz hf) rfl B.isi (by decide +kernel) (pa_cons (pv 1) (pa_cons (pe_glob (v := .ref (cA 1)) rfl T.g1 rfl) pa_nil)))) (pss_one (ps_expr (pe_bmK (K := K) rfl PySem.F.plainAttrs_list PySem.F.slot_list_append PySem.F.type_list_append mt_append (pv 2) (pa_cons (pe_tup (pa_cons pe_str (pa_cons (pe_xpK (K := K) rfl (a := a) (d := d) List.mem_cons_self hz hf (pv 1)) (pa_cons (pe_xpK (K := K) rfl (a := a) (d := d) List.mem_cons_self hz hf (pv 1)) pa_nil)))) pa_nil)))) pss_nil)
      (pss_cons (ps_if (pt_val (pe_callB (id := "isinstance") (r := rIsP K a cls d) (call_isP (a := a) (oe := oe) (d := d) List.mem_cons_self hz hf) rfl B.isi (by decide +kernel) (pa_cons (pv 1) (pa_cons (pe_glob (v := .ref (cA 2)) rfl T.g2 rfl) pa_nil)))) (pss_one (ps_expr (pe_bmK (K := K) rfl PySem.F.plainAttrs_list PySem.F.slot_list_append PySem.F.type_list_append mt_append (pv 2) (pa_cons (pe_tup (pa_cons pe_str (pa_cons (pe_xpK (K := K) rfl (a := a) (d := d) List.mem_cons_self hz hf (pv 1)) (pa_cons (pe_xpK (K := K) rfl (a := a) (d := d) List.mem_cons_self hz hf (pv 1)) pa_nil)))) pa_nil)))) pss_nil)
      (pss_cons (ps_if (pt_val (pe_callB (id := "isinstance") (r := rIsP K a cls d) (call_isP (a := a) (oe := oe) (d := d) List.mem_cons_self hz hf) rfl B.isi (by decide +kernel) (pa_cons (pv 1) (pa_cons (pe_glob (v := .ref (cA 3)) rfl T.g3 rfl) pa_nil)))) (pss_one (ps_expr (pe_bmK (K := K) rfl PySem.F.plainAttrs_list PySem.F.slot_list_append PySem.F.type_list_append mt_append (pv 2) (pa_cons (pe_tup (pa_cons pe_str (pa_cons (pe_xpK (K := K) rfl (a := a) (d := d) List.mem_cons_self hz hf (pv 1)) pa_nil))) pa_nil)))) pss_nil)
      (pss_cons (ps_if (pt_val (pe_callB (id := "isinstance") (r := rIsP K a cls d) (call_isP (a := a) (oe := oe) (d := d) List.mem_cons_self hz hf) rfl B.isi (by decide +kernel) (pa_cons (pv 1) (pa_cons (pe_glob (v := .ref (cA 4)) rfl T.g4 rfl) pa_nil)))) (pss_one (ps_expr (pe_bmK (K := K) rfl PySem.F.plainAttrs_list PySem.F.slot_list_append PySem.F.type_list_append mt_append (pv 2) (pa_cons (pe_tup (pa_cons pe_str (pa_cons (pe_xpK (K := K) rfl (a := a) (d := d) List.mem_cons_self hz hf (pv 1)) pa_nil))) pa_nil)))) pss_nil)
      (pss_cons (ps_if (pt_val (pe_callB (id := "isinstance") (r := rIsP K a cls d) (call_isP (a := a) (oe := oe) (d := d) List.mem_cons_self hz hf) rfl B.isi (by decide +kernel) (pa_cons (pv 1) (pa_cons (pe_glob (v := .ref (cA 5)) rfl T.g5 rfl) pa_nil)))) (pss_one (ps_expr (pe_bmK (K := K) rfl PySem.F.plainAttrs_list PySem.F.slot_list_append PySem.F.type_list_append mt_append (pv 2) (pa_cons (pe_tup (pa_cons pe_str (pa_cons (pe_xpK (K := K) rfl (a := a) (d := d) List.mem_cons_self hz hf (pv 1)) (pa_cons (pe_xpK (K := K) rfl (a := a) (d := d) List.mem_cons_self hz hf (pv 1)) (pa_cons (pe_xpK (K := K) rfl (a := a) (d := d) List.mem_cons_self hz hf (pv 1)) pa_nil))))) pa_nil)))) pss_nil)
      (pss_cons (ps_if (pt_val (pe_callB (id := "isinstance") (r := rIsP K a cls d) (call_isP (a := a) (oe := oe) (d := d) List.mem_cons_self hz hf) rfl B.isi (by decide +kernel) (pa_cons (pv 1) (pa_cons (pe_glob (v := .ref (cA 6)) rfl T.g6 rfl) pa_nil)))) (pss_one (ps_expr (pe_bmK (K := K) rfl PySem.F.plainAttrs_list PySem.F.slot_list_append PySem.F.type_list_append mt_append (pv 2) (pa_cons (pe_tup (pa_cons pe_str (pa_cons (pe_xpK (K := K) rfl (a := a) (d := d) List.mem_cons_self hz hf (pv 1)) pa_nil))) pa_nil)))) pss_nil)
      (pss_cons (ps_if (pt_val (pe_callB (id := "isinstance") (r := rIsP K a cls d) (call_isP (a := a) (oe := oe) (d := d) List.mem_cons_self hz hf) rfl B.isi (by decide +kernel) (pa_cons (pv 1) (pa_cons (pe_glob (v := .ref (cA 7)) rfl T.g7 rfl) pa_nil)))) (pss_one (ps_expr (pe_bmK (K := K) rfl PySem.F.plainAttrs_list PySem.F.slot_list_append PySem.F.type_list_append mt_append (pv 2) (pa_cons (pe_tup (pa_cons pe_str (pa_cons (pe_xpK (K := K) rfl (a := a) (d := d) List.mem_cons_self hz hf (pv 1)) (pa_cons (pe_xpK (K := K) rfl (a := a) (d := d) List.mem_cons_self hz hf (pv 1)) pa_nil)))) pa_nil)))) pss_nil)
      (pss_one (ps_ret (pe_ifExp (pt_cmpR (r := rEqA K) (opA_eq hu64) (pe_callB (r := rLen K) callA_len rfl B.len (by decide +kernel) (pa_cons (pv 2) pa_nil)) pe_int (nomark _)) (pe_ix (r := rIx K) ix_seq (pv 2) pe_int (fun _ _ => rfl)) (pe_tup (pa_cons pe_str pa_nil))))))))))))))))
    (pss_one (ps_ret (pe_tup (pa_cons pe_str pa_nil)))), ?_⟩
  obtain ⟨f, tl, c, fs, xs, rfl, hl, hc, hraise, hFo, hQ⟩ := h
  have hL : s.heap.get? s.heap.objs.size = none := Heap.get?_none_of_le (Nat.le_refl _)
  refine ⟨f, tl, rfl, fun s1 u1 => (hl.deeper hL).move (Ex.refl H) (un_more u1 hL), hraise _ _ fun d H1 hd e1 hx => ⟨true, T.te c hc, fun _ a ha => ?_, fun z => nomatch z⟩⟩
  have hx1 : XdAt H1 (some d) := .inr ⟨d, fs, rfl, hx⟩
  refine q_asgL (el_lst ea_nil (Nat.zero_le _)) (fun l H2 hl2 e2 h2 => ?_)
  match c, hc, hFo with
  | 0, hc, hFo =>
    obtain ⟨v0, l0, rfl⟩ := hFo
    refine q_when (b := true) (et_B (ev_isP (ev_var rfl) (T.ex 0 hc) (T.iso 0 0 hc (by decide)) (hx1.same (e2.trans (Ex.refl H2))))) (fun _ H3 e3 => ?_) (fun z => nomatch z)
    refine s_appU (xs := []) (((Ex.refl H2).trans e3) _ _ h2) (ev_var rfl) (eu_tup (ea_cons ev_c (ea_cons (ev_xp (ev_var rfl) (T.xf 0 hc) T.n0name (((Ex.refl H2).trans e3) _ _ (e2 _ _ hx)) l0) ea_nil)) (show 2 ≤ 100000 by decide)) (by decide) (fun t H4 ht e4 h4 => ?_)
    have hd5 : Ex H1 (upd H4 l (.lst ([] ++ [.ref t]))) := (e2.trans (((Ex.refl H2).trans e3).trans e4)).mut hl2
    have hl5 : upd H4 l (.lst ([] ++ [.ref t])) l = some (.lst [.ref t]) := upd_same
    have tl5 : t ≠ l := fun z => by rw [z, (((Ex.refl H2).trans e3) _ _ h2)] at ht; cases ht
    have ht5 : upd H4 l (.lst ([] ++ [.ref t])) t = some (.tup _) := (upd_ne tl5).trans h4
    revert hd5 hl5 ht5
    generalize upd H4 l (.lst ([] ++ [.ref t])) = G
    intro hd5 hl5 ht5
    refine q_when (b := false) (et_B (ev_isP (ev_var rfl) (T.ex 0 hc) (T.iso 0 1 hc (by decide)) (hx1.same (hd5.trans (Ex.refl G))))) (fun z => nomatch z) (fun _ H5 e5 => ?_)
    refine q_when (b := false) (et_B (ev_isP (ev_var rfl) (T.ex 0 hc) (T.iso 0 2 hc (by decide)) (hx1.same (hd5.trans ((Ex.refl G).trans e5))))) (fun z => nomatch z) (fun _ H6 e6 => ?_)
    refine q_when (b := false) (et_B (ev_isP (ev_var rfl) (T.ex 0 hc) (T.iso 0 3 hc (by decide)) (hx1.same (hd5.trans (((Ex.refl G).trans e5).trans e6))))) (fun z => nomatch z) (fun _ H7 e7 => ?_)
    refine q_when (b := false) (et_B (ev_isP (ev_var rfl) (T.ex 0 hc) (T.iso 0 4 hc (by decide)) (hx1.same (hd5.trans ((((Ex.refl G).trans e5).trans e6).trans e7))))) (fun z => nomatch z) (fun _ H8 e8 => ?_)
    refine q_when (b := false) (et_B (ev_isP (ev_var rfl) (T.ex 0 hc) (T.iso 0 5 hc (by decide)) (hx1.same (hd5.trans (((((Ex.refl G).trans e5).trans e6).trans e7).trans e8))))) (fun z => nomatch z) (fun _ H9 e9 => ?_)
    refine q_when (b := false) (et_B (ev_isP (ev_var rfl) (T.ex 0 hc) (T.iso 0 6 hc (by decide)) (hx1.same (hd5.trans ((((((Ex.refl G).trans e5).trans e6).trans e7).trans e8).trans e9))))) (fun z => nomatch z) (fun _ H10 e10 => ?_)
    refine q_when (b := false) (et_B (ev_isP (ev_var rfl) (T.ex 0 hc) (T.iso 0 7 hc (by decide)) (hx1.same (hd5.trans (((((((Ex.refl G).trans e5).trans e6).trans e7).trans e8).trans e9).trans e10))))) (fun z => nomatch z) (fun _ H11 e11 => ?_)
    exact s_ret (ev_if (b := true) (et_test (ev_op (ev_lenL (ev_var rfl) (sq_of (((((((((Ex.refl G).trans e5).trans e6).trans e7).trans e8).trans e9).trans e10).trans e11) _ _ hl5))) ev_c (rv_eqs rfl))) (fun _ => ev_op (ev_var rfl) ev_c (rv_iL (sq_of (((((((((Ex.refl G).trans e5).trans e6).trans e7).trans e8).trans e9).trans e10).trans e11) _ _ hl5)) (i := 0) rfl)) (fun z => nomatch z)) (fun H12 e12 => hQ t H12 (e1.trans (hd5.trans (((((((((Ex.refl G).trans e5).trans e6).trans e7).trans e8).trans e9).trans e10).trans e11).trans e12))) ((((((((((Ex.refl G).trans e5).trans e6).trans e7).trans e8).trans e9).trans e10).trans e11).trans e12) _ _ ht5))
  | 1, hc, hFo =>
    obtain ⟨v0, v1, l0, l1, rfl⟩ := hFo
    refine q_when (b := false) (et_B (ev_isP (ev_var rfl) (T.ex 1 hc) (T.iso 1 0 hc (by decide)) (hx1.same (e2.trans (Ex.refl H2))))) (fun z => nomatch z) (fun _ H3 e3 => ?_)
    refine q_when (b := true) (et_B (ev_isP (ev_var rfl) (T.ex 1 hc) (T.iso 1 1 hc (by decide)) (hx1.same (e2.trans ((Ex.refl H2).trans e3))))) (fun _ H4 e4 => ?_) (fun z => nomatch z)
    refine s_appU (xs := []) ((((Ex.refl H2).trans e3).trans e4) _ _ h2) (ev_var rfl) (eu_tup (ea_cons ev_c (ea_cons (ev_xp (ev_var rfl) (T.xf 1 hc) T.n1what ((((Ex.refl H2).trans e3).trans e4) _ _ (e2 _ _ hx)) l0) (ea_cons (ev_xp (ev_var rfl) (T.xf 1 hc) T.n1number ((((Ex.refl H2).trans e3).trans e4) _ _ (e2 _ _ hx)) l1) ea_nil))) (show 3 ≤ 100000 by decide)) (by decide) (fun t H5 ht e5 h5 => ?_)
    have hd5 : Ex H1 (upd H5 l (.lst ([] ++ [.ref t]))) := (e2.trans ((((Ex.refl H2).trans e3).trans e4).trans e5)).mut hl2
    have hl5 : upd H5 l (.lst ([] ++ [.ref t])) l = some (.lst [.ref t]) := upd_same
    have tl5 : t ≠ l := fun z => by rw [z, ((((Ex.refl H2).trans e3).trans e4) _ _ h2)] at ht; cases ht
    have ht5 : upd H5 l (.lst ([] ++ [.ref t])) t = some (.tup _) := (upd_ne tl5).trans h5
    revert hd5 hl5 ht5
    generalize upd H5 l (.lst ([] ++ [.ref t])) = G
    intro hd5 hl5 ht5
    refine q_when (b := false) (et_B (ev_isP (ev_var rfl) (T.ex 1 hc) (T.iso 1 2 hc (by decide)) (hx1.same (hd5.trans (Ex.refl G))))) (fun z => nomatch z) (fun _ H6 e6 => ?_)
    refine q_when (b := false) (et_B (ev_isP (ev_var rfl) (T.ex 1 hc) (T.iso 1 3 hc (by decide)) (hx1.same (hd5.trans ((Ex.refl G).trans e6))))) (fun z => nomatch z) (fun _ H7 e7 => ?_)
    refine q_when (b := false) (et_B (ev_isP (ev_var rfl) (T.ex 1 hc) (T.iso 1 4 hc (by decide)) (hx1.same (hd5.trans (((Ex.refl G).trans e6).trans e7))))) (fun z => nomatch z) (fun _ H8 e8 => ?_)
    refine q_when (b := false) (et_B (ev_isP (ev_var rfl) (T.ex 1 hc) (T.iso 1 5 hc (by decide)) (hx1.same (hd5.trans ((((Ex.refl G).trans e6).trans e7).trans e8))))) (fun z => nomatch z) (fun _ H9 e9 => ?_)
    refine q_when (b := false) (et_B (ev_isP (ev_var rfl) (T.ex 1 hc) (T.iso 1 6 hc (by decide)) (hx1.same (hd5.trans (((((Ex.refl G).trans e6).trans e7).trans e8).trans e9))))) (fun z => nomatch z) (fun _ H10 e10 => ?_)
    refine q_when (b := false) (et_B (ev_isP (ev_var rfl) (T.ex 1 hc) (T.iso 1 7 hc (by decide)) (hx1.same (hd5.trans ((((((Ex.refl G).trans e6).trans e7).trans e8).trans e9).trans e10))))) (fun z => nomatch z) (fun _ H11 e11 => ?_)
    exact s_ret (ev_if (b := true) (et_test (ev_op (ev_lenL (ev_var rfl) (sq_of ((((((((Ex.refl G).trans e6).trans e7).trans e8).trans e9).trans e10).trans e11) _ _ hl5))) ev_c (rv_eqs rfl))) (fun _ => ev_op (ev_var rfl) ev_c (rv_iL (sq_of ((((((((Ex.refl G).trans e6).trans e7).trans e8).trans e9).trans e10).trans e11) _ _ hl5)) (i := 0) rfl)) (fun z => nomatch z)) (fun H12 e12 => hQ t H12 (e1.trans (hd5.trans ((((((((Ex.refl G).trans e6).trans e7).trans e8).trans e9).trans e10).trans e11).trans e12))) (((((((((Ex.refl G).trans e6).trans e7).trans e8).trans e9).trans e10).trans e11).trans e12) _ _ ht5))
  | 2, hc, hFo =>
    obtain ⟨v0, v1, l0, l1, rfl⟩ := hFo
    refine q_when (b := false) (et_B (ev_isP (ev_var rfl) (T.ex 2 hc) (T.iso 2 0 hc (by decide)) (hx1.same (e2.trans (Ex.refl H2))))) (fun z => nomatch z) (fun _ H3 e3 => ?_)
    refine q_when (b := false) (et_B (ev_isP (ev_var rfl) (T.ex 2 hc) (T.iso 2 1 hc (by decide)) (hx1.same (e2.trans ((Ex.refl H2).trans e3))))) (fun z => nomatch z) (fun _ H4 e4 => ?_)
    refine q_when (b := true) (et_B (ev_isP (ev_var rfl) (T.ex 2 hc) (T.iso 2 2 hc (by decide)) (hx1.same (e2.trans (((Ex.refl H2).trans e3).trans e4))))) (fun _ H5 e5 => ?_) (fun z => nomatch z)
    refine s_appU (xs := []) (((((Ex.refl H2).trans e3).trans e4).trans e5) _ _ h2) (ev_var rfl) (eu_tup (ea_cons ev_c (ea_cons (ev_xp (ev_var rfl) (T.xf 2 hc) T.n2what (((((Ex.refl H2).trans e3).trans e4).trans e5) _ _ (e2 _ _ hx)) l0) (ea_cons (ev_xp (ev_var rfl) (T.xf 2 hc) T.n2row (((((Ex.refl H2).trans e3).trans e4).trans e5) _ _ (e2 _ _ hx)) l1) ea_nil))) (show 3 ≤ 100000 by decide)) (by decide) (fun t H6 ht e6 h6 => ?_)
    have hd5 : Ex H1 (upd H6 l (.lst ([] ++ [.ref t]))) := (e2.trans (((((Ex.refl H2).trans e3).trans e4).trans e5).trans e6)).mut hl2
    have hl5 : upd H6 l (.lst ([] ++ [.ref t])) l = some (.lst [.ref t]) := upd_same
    have tl5 : t ≠ l := fun z => by rw [z, (((((Ex.refl H2).trans e3).trans e4).trans e5) _ _ h2)] at ht; cases ht
    have ht5 : upd H6 l (.lst ([] ++ [.ref t])) t = some (.tup _) := (upd_ne tl5).trans h6
    revert hd5 hl5 ht5
    generalize upd H6 l (.lst ([] ++ [.ref t])) = G
    intro hd5 hl5 ht5
    refine q_when (b := false) (et_B (ev_isP (ev_var rfl) (T.ex 2 hc) (T.iso 2 3 hc (by decide)) (hx1.same (hd5.trans (Ex.refl G))))) (fun z => nomatch z) (fun _ H7 e7 => ?_)
    refine q_when (b := false) (et_B (ev_isP (ev_var rfl) (T.ex 2 hc) (T.iso 2 4 hc (by decide)) (hx1.same (hd5.trans ((Ex.refl G).trans e7))))) (fun z => nomatch z) (fun _ H8 e8 => ?_)
    refine q_when (b := false) (et_B (ev_isP (ev_var rfl) (T.ex 2 hc) (T.iso 2 5 hc (by decide)) (hx1.same (hd5.trans (((Ex.refl G).trans e7).trans e8))))) (fun z => nomatch z) (fun _ H9 e9 => ?_)
    refine q_when (b := false) (et_B (ev_isP (ev_var rfl) (T.ex 2 hc) (T.iso 2 6 hc (by decide)) (hx1.same (hd5.trans ((((Ex.refl G).trans e7).trans e8).trans e9))))) (fun z => nomatch z) (fun _ H10 e10 => ?_)
    refine q_when (b := false) (et_B (ev_isP (ev_var rfl) (T.ex 2 hc) (T.iso 2 7 hc (by decide)) (hx1.same (hd5.trans (((((Ex.refl G).trans e7).trans e8).trans e9).trans e10))))) (fun z => nomatch z) (fun _ H11 e11 => ?_)
    exact s_ret (ev_if (b := true) (et_test (ev_op (ev_lenL (ev_var rfl) (sq_of (((((((Ex.refl G).trans e7).trans e8).trans e9).trans e10).trans e11) _ _ hl5))) ev_c (rv_eqs rfl))) (fun _ => ev_op (ev_var rfl) ev_c (rv_iL (sq_of (((((((Ex.refl G).trans e7).trans e8).trans e9).trans e10).trans e11) _ _ hl5)) (i := 0) rfl)) (fun z => nomatch z)) (fun H12 e12 => hQ t H12 (e1.trans (hd5.trans (((((((Ex.refl G).trans e7).trans e8).trans e9).trans e10).trans e11).trans e12))) ((((((((Ex.refl G).trans e7).trans e8).trans e9).trans e10).trans e11).trans e12) _ _ ht5))
  | 3, hc, hFo =>
    obtain ⟨v0, l0, rfl⟩ := hFo
    refine q_when (b := false) (et_B (ev_isP (ev_var rfl) (T.ex 3 hc) (T.iso 3 0 hc (by decide)) (hx1.same (e2.trans (Ex.refl H2))))) (fun z => nomatch z) (fun _ H3 e3 => ?_)
    refine q_when (b := false) (et_B (ev_isP (ev_var rfl) (T.ex 3 hc) (T.iso 3 1 hc (by decide)) (hx1.same (e2.trans ((Ex.refl H2).trans e3))))) (fun z => nomatch z) (fun _ H4 e4 => ?_)
    refine q_when (b := false) (et_B (ev_isP (ev_var rfl) (T.ex 3 hc) (T.iso 3 2 hc (by decide)) (hx1.same (e2.trans (((Ex.refl H2).trans e3).trans e4))))) (fun z => nomatch z) (fun _ H5 e5 => ?_)
    refine q_when (b := true) (et_B (ev_isP (ev_var rfl) (T.ex 3 hc) (T.iso 3 3 hc (by decide)) (hx1.same (e2.trans ((((Ex.refl H2).trans e3).trans e4).trans e5))))) (fun _ H6 e6 => ?_) (fun z => nomatch z)
    refine s_appU (xs := []) ((((((Ex.refl H2).trans e3).trans e4).trans e5).trans e6) _ _ h2) (ev_var rfl) (eu_tup (ea_cons ev_c (ea_cons (ev_xp (ev_var rfl) (T.xf 3 hc) T.n3name ((((((Ex.refl H2).trans e3).trans e4).trans e5).trans e6) _ _ (e2 _ _ hx)) l0) ea_nil)) (show 2 ≤ 100000 by decide)) (by decide) (fun t H7 ht e7 h7 => ?_)
    have hd5 : Ex H1 (upd H7 l (.lst ([] ++ [.ref t]))) := (e2.trans ((((((Ex.refl H2).trans e3).trans e4).trans e5).trans e6).trans e7)).mut hl2
    have hl5 : upd H7 l (.lst ([] ++ [.ref t])) l = some (.lst [.ref t]) := upd_same
    have tl5 : t ≠ l := fun z => by rw [z, ((((((Ex.refl H2).trans e3).trans e4).trans e5).trans e6) _ _ h2)] at ht; cases ht
    have ht5 : upd H7 l (.lst ([] ++ [.ref t])) t = some (.tup _) := (upd_ne tl5).trans h7
    revert hd5 hl5 ht5
    generalize upd H7 l (.lst ([] ++ [.ref t])) = G
    intro hd5 hl5 ht5
    refine q_when (b := false) (et_B (ev_isP (ev_var rfl) (T.ex 3 hc) (T.iso 3 4 hc (by decide)) (hx1.same (hd5.trans (Ex.refl G))))) (fun z => nomatch z) (fun _ H8 e8 => ?_)
    refine q_when (b := false) (et_B (ev_isP (ev_var rfl) (T.ex 3 hc) (T.iso 3 5 hc (by decide)) (hx1.same (hd5.trans ((Ex.refl G).trans e8))))) (fun z => nomatch z) (fun _ H9 e9 => ?_)
    refine q_when (b := false) (et_B (ev_isP (ev_var rfl) (T.ex 3 hc) (T.iso 3 6 hc (by decide)) (hx1.same (hd5.trans (((Ex.refl G).trans e8).trans e9))))) (fun z => nomatch z) (fun _ H10 e10 => ?_)
    refine q_when (b := false) (et_B (ev_isP (ev_var rfl) (T.ex 3 hc) (T.iso 3 7 hc (by decide)) (hx1.same (hd5.trans ((((Ex.refl G).trans e8).trans e9).trans e10))))) (fun z => nomatch z) (fun _ H11 e11 => ?_)
    exact s_ret (ev_if (b := true) (et_test (ev_op (ev_lenL (ev_var rfl) (sq_of ((((((Ex.refl G).trans e8).trans e9).trans e10).trans e11) _ _ hl5))) ev_c (rv_eqs rfl))) (fun _ => ev_op (ev_var rfl) ev_c (rv_iL (sq_of ((((((Ex.refl G).trans e8).trans e9).trans e10).trans e11) _ _ hl5)) (i := 0) rfl)) (fun z => nomatch z)) (fun H12 e12 => hQ t H12 (e1.trans (hd5.trans ((((((Ex.refl G).trans e8).trans e9).trans e10).trans e11).trans e12))) (((((((Ex.refl G).trans e8).trans e9).trans e10).trans e11).trans e12) _ _ ht5))
  | 4, hc, hFo =>
    obtain ⟨v0, l0, rfl⟩ := hFo
    refine q_when (b := false) (et_B (ev_isP (ev_var rfl) (T.ex 4 hc) (T.iso 4 0 hc (by decide)) (hx1.same (e2.trans (Ex.refl H2))))) (fun z => nomatch z) (fun _ H3 e3 => ?_)
    refine q_when (b := false) (et_B (ev_isP (ev_var rfl) (T.ex 4 hc) (T.iso 4 1 hc (by decide)) (hx1.same (e2.trans ((Ex.refl H2).trans e3))))) (fun z => nomatch z) (fun _ H4 e4 => ?_)
    refine q_when (b := false) (et_B (ev_isP (ev_var rfl) (T.ex 4 hc) (T.iso 4 2 hc (by decide)) (hx1.same (e2.trans (((Ex.refl H2).trans e3).trans e4))))) (fun z => nomatch z) (fun _ H5 e5 => ?_)
    refine q_when (b := false) (et_B (ev_isP (ev_var rfl) (T.ex 4 hc) (T.iso 4 3 hc (by decide)) (hx1.same (e2.trans ((((Ex.refl H2).trans e3).trans e4).trans e5))))) (fun z => nomatch z) (fun _ H6 e6 => ?_)
    refine q_when (b := true) (et_B (ev_isP (ev_var rfl) (T.ex 4 hc) (T.iso 4 4 hc (by decide)) (hx1.same (e2.trans (((((Ex.refl H2).trans e3).trans e4).trans e5).trans e6))))) (fun _ H7 e7 => ?_) (fun z => nomatch z)
    refine s_appU (xs := []) (((((((Ex.refl H2).trans e3).trans e4).trans e5).trans e6).trans e7) _ _ h2) (ev_var rfl) (eu_tup (ea_cons ev_c (ea_cons (ev_xp (ev_var rfl) (T.xf 4 hc) T.n4name (((((((Ex.refl H2).trans e3).trans e4).trans e5).trans e6).trans e7) _ _ (e2 _ _ hx)) l0) ea_nil)) (show 2 ≤ 100000 by decide)) (by decide) (fun t H8 ht e8 h8 => ?_)
    have hd5 : Ex H1 (upd H8 l (.lst ([] ++ [.ref t]))) := (e2.trans (((((((Ex.refl H2).trans e3).trans e4).trans e5).trans e6).trans e7).trans e8)).mut hl2
    have hl5 : upd H8 l (.lst ([] ++ [.ref t])) l = some (.lst [.ref t]) := upd_same
    have tl5 : t ≠ l := fun z => by rw [z, (((((((Ex.refl H2).trans e3).trans e4).trans e5).trans e6).trans e7) _ _ h2)] at ht; cases ht
    have ht5 : upd H8 l (.lst ([] ++ [.ref t])) t = some (.tup _) := (upd_ne tl5).trans h8
    revert hd5 hl5 ht5
    generalize upd H8 l (.lst ([] ++ [.ref t])) = G
    intro hd5 hl5 ht5
    refine q_when (b := false) (et_B (ev_isP (ev_var rfl) (T.ex 4 hc) (T.iso 4 5 hc (by decide)) (hx1.same (hd5.trans (Ex.refl G))))) (fun z => nomatch z) (fun _ H9 e9 => ?_)
    refine q_when (b := false) (et_B (ev_isP (ev_var rfl) (T.ex 4 hc) (T.iso 4 6 hc (by decide)) (hx1.same (hd5.trans ((Ex.refl G).trans e9))))) (fun z => nomatch z) (fun _ H10 e10 => ?_)
    refine q_when (b := false) (et_B (ev_isP (ev_var rfl) (T.ex 4 hc) (T.iso 4 7 hc (by decide)) (hx1.same (hd5.trans (((Ex.refl G).trans e9).trans e10))))) (fun z => nomatch z) (fun _ H11 e11 => ?_)
    exact s_ret (ev_if (b := true) (et_test (ev_op (ev_lenL (ev_var rfl) (sq_of (((((Ex.refl G).trans e9).trans e10).trans e11) _ _ hl5))) ev_c (rv_eqs rfl))) (fun _ => ev_op (ev_var rfl) ev_c (rv_iL (sq_of (((((Ex.refl G).trans e9).trans e10).trans e11) _ _ hl5)) (i := 0) rfl)) (fun z => nomatch z)) (fun H12 e12 => hQ t H12 (e1.trans (hd5.trans (((((Ex.refl G).trans e9).trans e10).trans e11).trans e12))) ((((((Ex.refl G).trans e9).trans e10).trans e11).trans e12) _ _ ht5))
  | 5, hc, hFo =>
    obtain ⟨v0, v1, v2, l0, l1, l2, rfl⟩ := hFo
    refine q_when (b := false) (et_B (ev_isP (ev_var rfl) (T.ex 5 hc) (T.iso 5 0 hc (by decide)) (hx1.same (e2.trans (Ex.refl H2))))) (fun z => nomatch z) (fun _ H3 e3 => ?_)
    refine q_when (b := false) (et_B (ev_isP (ev_var rfl) (T.ex 5 hc) (T.iso 5 1 hc (by decide)) (hx1.same (e2.trans ((Ex.refl H2).trans e3))))) (fun z => nomatch z) (fun _ H4 e4 => ?_)
    refine q_when (b := false) (et_B (ev_isP (ev_var rfl) (T.ex 5 hc) (T.iso 5 2 hc (by decide)) (hx1.same (e2.trans (((Ex.refl H2).trans e3).trans e4))))) (fun z => nomatch z) (fun _ H5 e5 => ?_)
    refine q_when (b := false) (et_B (ev_isP (ev_var rfl) (T.ex 5 hc) (T.iso 5 3 hc (by decide)) (hx1.same (e2.trans ((((Ex.refl H2).trans e3).trans e4).trans e5))))) (fun z => nomatch z) (fun _ H6 e6 => ?_)
    refine q_when (b := false) (et_B (ev_isP (ev_var rfl) (T.ex 5 hc) (T.iso 5 4 hc (by decide)) (hx1.same (e2.trans (((((Ex.refl H2).trans e3).trans e4).trans e5).trans e6))))) (fun z => nomatch z) (fun _ H7 e7 => ?_)
    refine q_when (b := true) (et_B (ev_isP (ev_var rfl) (T.ex 5 hc) (T.iso 5 5 hc (by decide)) (hx1.same (e2.trans ((((((Ex.refl H2).trans e3).trans e4).trans e5).trans e6).trans e7))))) (fun _ H8 e8 => ?_) (fun z => nomatch z)
    refine s_appU (xs := []) ((((((((Ex.refl H2).trans e3).trans e4).trans e5).trans e6).trans e7).trans e8) _ _ h2) (ev_var rfl) (eu_tup (ea_cons ev_c (ea_cons (ev_xp (ev_var rfl) (T.xf 5 hc) T.n5what ((((((((Ex.refl H2).trans e3).trans e4).trans e5).trans e6).trans e7).trans e8) _ _ (e2 _ _ hx)) l0) (ea_cons (ev_xp (ev_var rfl) (T.xf 5 hc) T.n5many ((((((((Ex.refl H2).trans e3).trans e4).trans e5).trans e6).trans e7).trans e8) _ _ (e2 _ _ hx)) l1) (ea_cons (ev_xp (ev_var rfl) (T.xf 5 hc) T.n5limit ((((((((Ex.refl H2).trans e3).trans e4).trans e5).trans e6).trans e7).trans e8) _ _ (e2 _ _ hx)) l2) ea_nil)))) (show 4 ≤ 100000 by decide)) (by decide) (fun t H9 ht e9 h9 => ?_)
    have hd5 : Ex H1 (upd H9 l (.lst ([] ++ [.ref t]))) := (e2.trans ((((((((Ex.refl H2).trans e3).trans e4).trans e5).trans e6).trans e7).trans e8).trans e9)).mut hl2
    have hl5 : upd H9 l (.lst ([] ++ [.ref t])) l = some (.lst [.ref t]) := upd_same
    have tl5 : t ≠ l := fun z => by rw [z, ((((((((Ex.refl H2).trans e3).trans e4).trans e5).trans e6).trans e7).trans e8) _ _ h2)] at ht; cases ht
    have ht5 : upd H9 l (.lst ([] ++ [.ref t])) t = some (.tup _) := (upd_ne tl5).trans h9
    revert hd5 hl5 ht5
    generalize upd H9 l (.lst ([] ++ [.ref t])) = G
    intro hd5 hl5 ht5
    refine q_when (b := false) (et_B (ev_isP (ev_var rfl) (T.ex 5 hc) (T.iso 5 6 hc (by decide)) (hx1.same (hd5.trans (Ex.refl G))))) (fun z => nomatch z) (fun _ H10 e10 => ?_)
    refine q_when (b := false) (et_B (ev_isP (ev_var rfl) (T.ex 5 hc) (T.iso 5 7 hc (by decide)) (hx1.same (hd5.trans ((Ex.refl G).trans e10))))) (fun z => nomatch z) (fun _ H11 e11 => ?_)
    exact s_ret (ev_if (b := true) (et_test (ev_op (ev_lenL (ev_var rfl) (sq_of ((((Ex.refl G).trans e10).trans e11) _ _ hl5))) ev_c (rv_eqs rfl))) (fun _ => ev_op (ev_var rfl) ev_c (rv_iL (sq_of ((((Ex.refl G).trans e10).trans e11) _ _ hl5)) (i := 0) rfl)) (fun z => nomatch z)) (fun H12 e12 => hQ t H12 (e1.trans (hd5.trans ((((Ex.refl G).trans e10).trans e11).trans e12))) (((((Ex.refl G).trans e10).trans e11).trans e12) _ _ ht5))
  | 6, hc, hFo =>
    obtain ⟨v0, l0, rfl⟩ := hFo
    refine q_when (b := false) (et_B (ev_isP (ev_var rfl) (T.ex 6 hc) (T.iso 6 0 hc (by decide)) (hx1.same (e2.trans (Ex.refl H2))))) (fun z => nomatch z) (fun _ H3 e3 => ?_)
    refine q_when (b := false) (et_B (ev_isP (ev_var rfl) (T.ex 6 hc) (T.iso 6 1 hc (by decide)) (hx1.same (e2.trans ((Ex.refl H2).trans e3))))) (fun z => nomatch z) (fun _ H4 e4 => ?_)
    refine q_when (b := false) (et_B (ev_isP (ev_var rfl) (T.ex 6 hc) (T.iso 6 2 hc (by decide)) (hx1.same (e2.trans (((Ex.refl H2).trans e3).trans e4))))) (fun z => nomatch z) (fun _ H5 e5 => ?_)
    refine q_when (b := false) (et_B (ev_isP (ev_var rfl) (T.ex 6 hc) (T.iso 6 3 hc (by decide)) (hx1.same (e2.trans ((((Ex.refl H2).trans e3).trans e4).trans e5))))) (fun z => nomatch z) (fun _ H6 e6 => ?_)
    refine q_when (b := false) (et_B (ev_isP (ev_var rfl) (T.ex 6 hc) (T.iso 6 4 hc (by decide)) (hx1.same (e2.trans (((((Ex.refl H2).trans e3).trans e4).trans e5).trans e6))))) (fun z => nomatch z) (fun _ H7 e7 => ?_)
    refine q_when (b := false) (et_B (ev_isP (ev_var rfl) (T.ex 6 hc) (T.iso 6 5 hc (by decide)) (hx1.same (e2.trans ((((((Ex.refl H2).trans e3).trans e4).trans e5).trans e6).trans e7))))) (fun z => nomatch z) (fun _ H8 e8 => ?_)
    refine q_when (b := true) (et_B (ev_isP (ev_var rfl) (T.ex 6 hc) (T.iso 6 6 hc (by decide)) (hx1.same (e2.trans (((((((Ex.refl H2).trans e3).trans e4).trans e5).trans e6).trans e7).trans e8))))) (fun _ H9 e9 => ?_) (fun z => nomatch z)
    refine s_appU (xs := []) (((((((((Ex.refl H2).trans e3).trans e4).trans e5).trans e6).trans e7).trans e8).trans e9) _ _ h2) (ev_var rfl) (eu_tup (ea_cons ev_c (ea_cons (ev_xp (ev_var rfl) (T.xf 6 hc) T.n6what (((((((((Ex.refl H2).trans e3).trans e4).trans e5).trans e6).trans e7).trans e8).trans e9) _ _ (e2 _ _ hx)) l0) ea_nil)) (show 2 ≤ 100000 by decide)) (by decide) (fun t H10 ht e10 h10 => ?_)
    have hd5 : Ex H1 (upd H10 l (.lst ([] ++ [.ref t]))) := (e2.trans (((((((((Ex.refl H2).trans e3).trans e4).trans e5).trans e6).trans e7).trans e8).trans e9).trans e10)).mut hl2
    have hl5 : upd H10 l (.lst ([] ++ [.ref t])) l = some (.lst [.ref t]) := upd_same
    have tl5 : t ≠ l := fun z => by rw [z, (((((((((Ex.refl H2).trans e3).trans e4).trans e5).trans e6).trans e7).trans e8).trans e9) _ _ h2)] at ht; cases ht
    have ht5 : upd H10 l (.lst ([] ++ [.ref t])) t = some (.tup _) := (upd_ne tl5).trans h10
    revert hd5 hl5 ht5
    generalize upd H10 l (.lst ([] ++ [.ref t])) = G
    intro hd5 hl5 ht5
    refine q_when (b := false) (et_B (ev_isP (ev_var rfl) (T.ex 6 hc) (T.iso 6 7 hc (by decide)) (hx1.same (hd5.trans (Ex.refl G))))) (fun z => nomatch z) (fun _ H11 e11 => ?_)
    exact s_ret (ev_if (b := true) (et_test (ev_op (ev_lenL (ev_var rfl) (sq_of (((Ex.refl G).trans e11) _ _ hl5))) ev_c (rv_eqs rfl))) (fun _ => ev_op (ev_var rfl) ev_c (rv_iL (sq_of (((Ex.refl G).trans e11) _ _ hl5)) (i := 0) rfl)) (fun z => nomatch z)) (fun H12 e12 => hQ t H12 (e1.trans (hd5.trans (((Ex.refl G).trans e11).trans e12))) ((((Ex.refl G).trans e11).trans e12) _ _ ht5))
  | 7, hc, hFo =>
    obtain ⟨v0, v1, l0, l1, rfl⟩ := hFo
    refine q_when (b := false) (et_B (ev_isP (ev_var rfl) (T.ex 7 hc) (T.iso 7 0 hc (by decide)) (hx1.same (e2.trans (Ex.refl H2))))) (fun z => nomatch z) (fun _ H3 e3 => ?_)
    refine q_when (b := false) (et_B (ev_isP (ev_var rfl) (T.ex 7 hc) (T.iso 7 1 hc (by decide)) (hx1.same (e2.trans ((Ex.refl H2).trans e3))))) (fun z => nomatch z) (fun _ H4 e4 => ?_)
    refine q_when (b := false) (et_B (ev_isP (ev_var rfl) (T.ex 7 hc) (T.iso 7 2 hc (by decide)) (hx1.same (e2.trans (((Ex.refl H2).trans e3).trans e4))))) (fun z => nomatch z) (fun _ H5 e5 => ?_)
    refine q_when (b := false) (et_B (ev_isP (ev_var rfl) (T.ex 7 hc) (T.iso 7 3 hc (by decide)) (hx1.same (e2.trans ((((Ex.refl H2).trans e3).trans e4).trans e5))))) (fun z => nomatch z) (fun _ H6 e6 => ?_)
    refine q_when (b := false) (et_B (ev_isP (ev_var rfl) (T.ex 7 hc) (T.iso 7 4 hc (by decide)) (hx1.same (e2.trans (((((Ex.refl H2).trans e3).trans e4).trans e5).trans e6))))) (fun z => nomatch z) (fun _ H7 e7 => ?_)
    refine q_when (b := false) (et_B (ev_isP (ev_var rfl) (T.ex 7 hc) (T.iso 7 5 hc (by decide)) (hx1.same (e2.trans ((((((Ex.refl H2).trans e3).trans e4).trans e5).trans e6).trans e7))))) (fun z => nomatch z) (fun _ H8 e8 => ?_)
    refine q_when (b := false) (et_B (ev_isP (ev_var rfl) (T.ex 7 hc) (T.iso 7 6 hc (by decide)) (hx1.same (e2.trans (((((((Ex.refl H2).trans e3).trans e4).trans e5).trans e6).trans e7).trans e8))))) (fun z => nomatch z) (fun _ H9 e9 => ?_)
    refine q_when (b := true) (et_B (ev_isP (ev_var rfl) (T.ex 7 hc) (T.iso 7 7 hc (by decide)) (hx1.same (e2.trans ((((((((Ex.refl H2).trans e3).trans e4).trans e5).trans e6).trans e7).trans e8).trans e9))))) (fun _ H10 e10 => ?_) (fun z => nomatch z)
    refine s_appU (xs := []) ((((((((((Ex.refl H2).trans e3).trans e4).trans e5).trans e6).trans e7).trans e8).trans e9).trans e10) _ _ h2) (ev_var rfl) (eu_tup (ea_cons ev_c (ea_cons (ev_xp (ev_var rfl) (T.xf 7 hc) T.n7line ((((((((((Ex.refl H2).trans e3).trans e4).trans e5).trans e6).trans e7).trans e8).trans e9).trans e10) _ _ (e2 _ _ hx)) l0) (ea_cons (ev_xp (ev_var rfl) (T.xf 7 hc) T.n7word ((((((((((Ex.refl H2).trans e3).trans e4).trans e5).trans e6).trans e7).trans e8).trans e9).trans e10) _ _ (e2 _ _ hx)) l1) ea_nil))) (show 3 ≤ 100000 by decide)) (by decide) (fun t H11 ht e11 h11 => ?_)
    have hd5 : Ex H1 (upd H11 l (.lst ([] ++ [.ref t]))) := (e2.trans ((((((((((Ex.refl H2).trans e3).trans e4).trans e5).trans e6).trans e7).trans e8).trans e9).trans e10).trans e11)).mut hl2
    have hl5 : upd H11 l (.lst ([] ++ [.ref t])) l = some (.lst [.ref t]) := upd_same
    have tl5 : t ≠ l := fun z => by rw [z, ((((((((((Ex.refl H2).trans e3).trans e4).trans e5).trans e6).trans e7).trans e8).trans e9).trans e10) _ _ h2)] at ht; cases ht
    have ht5 : upd H11 l (.lst ([] ++ [.ref t])) t = some (.tup _) := (upd_ne tl5).trans h11
    revert hd5 hl5 ht5
    generalize upd H11 l (.lst ([] ++ [.ref t])) = G
    intro hd5 hl5 ht5
    exact s_ret (ev_if (b := true) (et_test (ev_op (ev_lenL (ev_var rfl) (sq_of ((Ex.refl G) _ _ hl5))) ev_c (rv_eqs rfl))) (fun _ => ev_op (ev_var rfl) ev_c (rv_iL (sq_of ((Ex.refl G) _ _ hl5)) (i := 0) rfl)) (fun z => nomatch z)) (fun H12 e12 => hQ t H12 (e1.trans (hd5.trans ((Ex.refl G).trans e12))) (((Ex.refl G).trans e12) _ _ ht5))
end
end Kb
set_option Elab.async false
set_option linter.all false
set_option maxRecDepth 100000
set_option maxHeartbeats 4000000
namespace Kb
open PySem PySem.Spec PyProof.Rows L2 LamX Evl
/-- an item of the calls: a callable that raises, and what is due -/
def RsItem (P : Program) (w : World) (K : PySem.W.Frag) (mg : Str → Option Value) (base : Heap) (k : Nat) (cA : Nat → Addr) (s : Shared) (fr : List Addr) (H : Hp) (x : V) : Prop :=
  ∃ (tup f due : Addr) (tl : Hp → VK → XK → Prop) (c : Nat) (fs : List (Str × V)) (ys : List V) (v : V) (es : List PyData) (d : PyData), x = .ref tup ∧ SqT K H tup [.ref f, .ref due] ∧ LamAt P w K mg base k fr s H f tl ∧ c < 8 ∧ (∀ H', Ex H H' → Rses tl H' (cA c) fs) ∧ Fo c fs (ys ++ [v]) ∧
    SqT K H due (ys ++ [v]) ∧ DpAll K H ys es ∧ SeqAt.shaped (.tuple es) = true ∧ Dp K H v d ∧ d.hasDict = false ∧ Sh d
def spRaiseSo (P : Program) (w : World) (K : PySem.W.Frag) (mg : Str → Option Value) (base : Heap) (k : Nat) (cA : Nat → Addr) : SpZ := fun s fr vs H Q => ∃ l xs, vs = [.ref l] ∧ SqL K H l xs ∧ (∀ x ∈ xs, RsItem P w K mg base k cA s fr H x) ∧ ∀ H', Ex H H' → Q (.bl true) H'
section
variable {P : Program} {w : World} {K : PySem.W.Frag} {mg : Str → Option Value} {base : Heap} {HE : Addr} {cA : Nat → Addr} {k : Nat}
theorem ok_raise_so (B : Bi mg) (g__law_caught : Gz P w K mg base (k + 1) "_law_caught" ["action"] (spCaught P w K mg base k cA)) (D : Df K mg "_law_raise_so" s__law_raise_so ["calls"]) : Gz P w K mg base (k + 2) "_law_raise_so" ["calls"] (spRaiseSo P w K mg base k cA) := by
  have nd := sc__law_raise_so.nd
  refine D.gz sc__law_raise_so (fun s fr vs H Q h => ?_) (fun f0 cdv A outer s H vs Q hr hgd h => ?_)
  · obtain ⟨l, xs, rfl, _⟩ := h
    rfl
  have hu64 := hu64_of hr
  have hu16 : (A.deeper (envOfC "_law_raise_so" (defScope s__law_raise_so) s.heap.objs.size f0 cdv)).units + 16 < cLine := by omega
  refine ⟨_, (pss_cons (ps_for PassesOwn.never rfl (piA_seq (pv 0)) (pgK_tup (K := K) (n := 2) rfl rfl (pgs_cons (pg_name (i := 1) nd rfl (.inl rfl)) (pgs_cons (pg_name (i := 2) nd rfl (.inl rfl)) pgs_nil))) (pss_cons (ps_set (i := 3) nd rfl (.inl rfl) (pe_cz g__law_caught hr hgd rfl (pa_cons (pv 1) pa_nil)))
    (pss_one (ps_if (PW.pt (pw_or (pt_cmpR (r := rNeA K) (opA_ne hu64) (pe_slice (r := rSl K) slA (pv 3) po_none (po_some (pe_un un_neg pe_int))) (pe_slice (r := rSl K) slA (pv 2) po_none (po_some (pe_un un_neg pe_int))) (nomark _)) (pw_or1 (pt_cmpR (r := rNeA K) (opA_ne hu64) (pe_callB (r := rRepr K) (call_repr hgd hu16) rfl B.repr (by decide +kernel) (pa_cons (pe_ix (r := rIx K) ix_seq (pv 3) (pe_un un_neg pe_int) (fun _ _ => rfl)) pa_nil)) (pe_callB (r := rRepr K) (call_repr hgd hu16) rfl B.repr (by decide +kernel) (pa_cons (pe_ix (r := rIx K) ix_seq (pv 2) (pe_un un_neg pe_int) (fun _ _ => rfl)) pa_nil)) (nomark _))))) (pss_one (ps_ret pe_bl)) pss_nil))))
    (pss_one (ps_ret pe_bl))), ?_⟩
  obtain ⟨l, xs, rfl, hx, hit, hQ⟩ := h
  have hL : s.heap.get? s.heap.objs.size = none := Heap.get?_none_of_le (Nat.le_refl _)
  refine q_forLg (ev_var rfl) hx (fun i σ' H' => Ex H H' ∧ ∃ a b c, σ' = [some (.ref l), a, b, c]) (fun H1 e1 => ⟨e1, none, none, none, rfl⟩) (fun i σ' H' _ p => ex_l p.1 hx) (fun i x σ' H' hi p => ?_) (fun σ' H' p => ?_)
  · obtain ⟨e1, a0, b0, c0, rfl⟩ := p
    obtain ⟨tup, f, due, tl, c, fs, ys, v, es, d, rfl, h1, h2, h3, h4, h5, h6, h7, h8, h9, h10, h11⟩ := hit x (List.mem_of_getElem? hi)
    refine ⟨tup, _, rfl, ex_t e1 h1, rfl, .ref f, [.ref due], rfl, .ref due, [], rfl, rfl, ?_⟩
    refine ⟨.ref f, rfl, fun pins s1 I1 => ⟨f, tl, c, fs, ys ++ [v], rfl, (h2.deeper hL).move e1 (un_more I1.base hL), h3, h4 H' e1, h5, fun t H2 e2 ht => ?_⟩⟩
    have e12 := e1.trans e2
    have hb : (!PyData.eqv (.tuple es) (.tuple es) || !decide (V.str d.shown = .str d.shown)) = false := by
      have : PyData.eqv (.tuple es) (.tuple es) = true := SeqAt.eqv_refl _ (SeqAt.canLay_of_shaped h8)
      rw [this]
      simp
    refine s_when (b := (!PyData.eqv (.tuple es) (.tuple es) || !decide (V.str d.shown = .str d.shown))) (et_or (et_test (ev_neDD (evd_init (ev_var rfl) (st_of ht) (DpAll.ext e12 h7) (eo_some (ev_neg ev_c))) (evd_init (ev_var rfl) (ex_t e12 h6) (DpAll.ext e12 h7) (eo_some (ev_neg ev_c))) h8 h8))
      (fun _ => et_test (ev_op (ev_repr (ev_last (ev_var rfl) (st_of ht) (ev_neg ev_c)) (Dp.ext e12 h9) h10 h11) (ev_repr (ev_last (ev_var rfl) (ex_t e12 h6) (ev_neg ev_c)) (Dp.ext e12 h9) h10 h11) (rv_nes rfl)))) (fun z => by rw [hb] at z; cases z) (fun _ H3 e3 => ⟨e12.trans e3, _, _, _, rfl⟩)
  · obtain ⟨e1, a0, b0, c0, rfl⟩ := p
    exact s_ret ev_c fun H2 e2 => hQ H2 (e1.trans e2)
end
end Kb
set_option Elab.async false
set_option linter.all false
set_option maxRecDepth 100000
set_option maxHeartbeats 4000000
namespace Kb
open PySem PySem.Spec PyProof.Rows L2 LamX Evl
/-- plain data of tuples, not deep -/
def lawD : Nat → PyData → Bool
  | 0, .tuple _ => false
  | n + 1, .tuple ds => decide (ds.length ≤ 1000) && ds.all (lawD n)
  | _, .list _ => false
  | _, .dict _ => false
  | _, _ => true
def spIs (K : PySem.W.Frag) (n : Nat) : Sp := fun vs H Q _ => ∃ v1 v2 d, vs = [v1, v2] ∧ Dp K H v1 d ∧ Dp K H v2 d ∧ lawD n d = true ∧ ∀ H', Ex H H' → Q (.bl true) H'
theorem spIs_v {K : PySem.W.Frag} {n : Nat} {v1 v2 : V} {d : PyData} {H : Hp} (h1 : Dp K H v1 d) (h2 : Dp K H v2 d) (hd : lawD n d = true) : SpV (spIs K n) [v1, v2] H (.bl true) := fun H1 e Q q E => ⟨v1, v2, d, rfl, Dp.ext e h1, Dp.ext e h2, hd, q⟩
section
variable {P : Program} {w : World} {K : PySem.W.Frag} {mg : Str → Option Value} {base : Heap}
theorem law_is_step (B : Bi mg) (n : Nat) (sp0 : Sp) (g__law_is : Gv P w K mg base CX0 n "_law_is" ["told", "due"] sp0) (hs : ∀ m, n = m + 1 → ∀ vs H Q E, spIs K m vs H Q E → sp0 vs H Q E) (D : Df K mg "_law_is" s__law_is ["told", "due"]) :
    Gv P w K mg base CX0 (n + 1) "_law_is" ["told", "due"] (spIs K n) := by
  have nd := sc__law_is.nd
  refine D.gv sc__law_is (fun vs H Q E h => ?_) (fun f cdv A outer s H vs Q E hr h => ?_)
  · obtain ⟨v1, v2, d, rfl, _⟩ := h
    rfl
  have hu64 := hu64_of hr
  refine ⟨_, (pss_cons (ps_if (pt_val (pe_callB (id := "isinstance") (r := rIsi K) call_isi rfl B.isi (by decide +kernel) (pa_cons (pv 1) (pa_cons (pe_bltn (v := .ty "tuple") rfl B.tuple (by decide +kernel) rfl) pa_nil)))) (pss_cons (ps_if (PW.pt (pw_or (pt_not (pt_val (pe_callB (id := "isinstance") (r := rIsi K) call_isi rfl B.isi (by decide +kernel) (pa_cons (pv 0) (pa_cons (pe_bltn (v := .ty "tuple") rfl B.tuple (by decide +kernel) rfl) pa_nil))))) (pw_or1 (pt_cmpR (r := rNeA K) (opA_ne hu64) (pe_callB (r := rLen K) callA_len rfl B.len (by decide +kernel) (pa_cons (pv 0) pa_nil)) (pe_callB (r := rLen K) callA_len rfl B.len (by decide +kernel) (pa_cons (pv 1) pa_nil)) (nomark _))))) (pss_one (ps_ret pe_bl)) pss_nil)
    (pss_one (ps_ret (pe_cmpR (r := rEqA K) (opA_eq hu64) (pe_lc (own := [("at", 2)]) rfl nd (pi_range1 rfl B.range (pa_cons (pe_callB (r := rLen K) callA_len rfl B.len (by decide +kernel) (pa_cons (pv 1) pa_nil)) pa_nil)) (blk_ok (by kernel_rfl)) (fun _ _ _ _ _ => (pg_name (i := 2) nd rfl (.inl rfl))) (fun _ _ _ _ _ => (by exact (pts_one (pt_not (pt_val (pe_cg g__law_is hr rfl pass0 (pa_cons (pe_ix (r := rIx K) ix_seq (pv 0) (pv 2) (fun _ _ => rfl)) (pa_cons (pe_ix (r := rIx K) ix_seq (pv 1) (pv 2) (fun _ _ => rfl)) pa_nil)))))))) (fun _ _ _ _ _ => (pv 2))) (pe_lst pa_nil) (nomark _))))) pss_nil)
    (pss_cons (ps_if (pt_cmpR op_isN1 (pv 1) pe_non (nomark _)) (pss_one (ps_ret (pe_cmpR op_isN1 (pv 0) pe_non (nomark _)))) pss_nil)
    (pss_cons (ps_if (pt_cmpR op_isX (pv 1) pe_bl (nomark _)) (pss_one (ps_ret (pe_cmpR op_isX (pv 0) pe_bl (nomark _)))) pss_nil)
    (pss_cons (ps_if (pt_cmpR op_isX (pv 1) pe_bl (nomark _)) (pss_one (ps_ret (pe_cmpR op_isX (pv 0) pe_bl (nomark _)))) pss_nil)
    (pss_cons (ps_if (pt_val (pe_callB (id := "isinstance") (r := rIsi K) call_isi rfl B.isi (by decide +kernel) (pa_cons (pv 1) (pa_cons (pe_bltn (v := .ty "str") rfl B.str (by decide +kernel) rfl) pa_nil)))) (pss_one (ps_ret (pe_and (pe_callB (id := "isinstance") (r := rIsi K) call_isi rfl B.isi (by decide +kernel) (pa_cons (pv 0) (pa_cons (pe_bltn (v := .ty "str") rfl B.str (by decide +kernel) rfl) pa_nil))) (pe_one (pe_cmpR (r := rEqA K) (opA_eq hu64) (pv 0) (pv 1) (nomark _)))))) pss_nil)
    (pss_one (ps_ret (pe_and (pe_callB (id := "isinstance") (r := rIsi K) call_isi rfl B.isi (by decide +kernel) (pa_cons (pv 0) (pa_cons (pe_bltn (v := .ty "int") rfl B.int (by decide +kernel) rfl) pa_nil))) (pe_and (pe_not (pe_callB (id := "isinstance") (r := rIsi K) call_isi rfl B.isi (by decide +kernel) (pa_cons (pv 0) (pa_cons (pe_bltn (v := .ty "bool") rfl B.bool (by decide +kernel) rfl) pa_nil)))) (pe_one (pe_cmpR (r := rEqA K) (opA_eq hu64) (pv 0) (pv 1) (nomark _)))))))))))), ?_⟩
  obtain ⟨v1, v2, d, rfl, h1, h2, hd, hQ⟩ := h
  cases hz : tupD d with
  | some ds =>
    obtain rfl := tupD_some hz
    cases id h1 with
    | @tup a xs _ hx ha =>
    cases id h2 with
    | @tup b ys _ hy hb =>
    obtain ⟨m, rfl⟩ : ∃ m, n = m + 1 := by
      cases n with
      | zero => cases hd
      | succ m => exact ⟨m, rfl⟩
    have hd' : (decide (ds.length ≤ 1000) && ds.all (lawD m)) = true := hd
    rw [Bool.and_eq_true] at hd'
    have hlen := of_decide_eq_true hd'.1
    have hlx := dpAll_len ha
    have hly := dpAll_len hb
    refine q_if (b := true) (et_is (et_B (ev_isiD (ev_var rfl) h2 (kit_tuple _))) (by rw [isB_tup]; rfl)) (fun _ H1 e1 => ?_) (fun z => nomatch z)
    refine q_when (b := false) (et_is (et_or (a := false) (et_is (et_not (et_B (ev_isiD (ev_var rfl) (Dp.ext e1 h1) (kit_tuple _)))) (by rw [isB_tup]; rfl)) (fun _ => et_test (ev_op (ev_lenU (ev_var rfl) (ex_t e1 hx)) (ev_lenU (ev_var rfl) (ex_t e1 hy)) (rv_nes rfl)))) (by rw [hlx, hly]; simp)) (fun z => nomatch z) (fun _ H2 e2 => ?_)
    have e12 := e1.trans e2
    refine s_ret (ev_eqNil (ds := []) (el_is (el_lcR (n := (ys.length : Int)) (fun _ => false) (fun i => .int (i : Int)) (ea_cons (ev_lenU (ev_var rfl) (ex_t e12 hy)) ea_nil) (by omega) (fun _ => rfl) (fun i H3 e3 hi => ?_) (fun i H3 e3 hi hf => nomatch hf) (by omega)) ?_) (fun H3 e3 => el_lst ea_nil (Nat.zero_le _)) (fun H3 e3 => .nil) shaped_nil) (fun H3 e3 => hQ H3 (e12.trans e3))
    · have hiy : i < ys.length := by omega
      have hix : i < xs.length := by omega
      have hid : i < ds.length := by omega
      have gx := List.getElem?_eq_getElem hix
      have gy := List.getElem?_eq_getElem hiy
      obtain ⟨d1, hd1, q1⟩ := dpAll_get ha gx
      obtain ⟨d2, hd2, q2⟩ := dpAll_get hb gy
      rw [hd1] at hd2
      cases hd2
      have e13 := e12.trans e3
      refine et_not (a := true) (et_B (ev_call (ea_cons (ev_op (ev_var rfl) (ev_var rfl) (rv_iT (ex_t e13 hx) (atI_nat gx))) (ea_cons (ev_op (ev_var rfl) (ev_var rfl) (rv_iT (ex_t e13 hy) (atI_nat gy))) ea_nil)) (fun H4 e4 Q q E => hs m rfl _ _ _ _ ⟨_, _, d1, rfl, Dp.ext (e13.trans e4) q1, Dp.ext (e13.trans e4) q2, List.all_eq_true.mp hd'.2 d1 (List.mem_of_getElem? hd1), q⟩)))
    · unfold given
      rw [List.filter_eq_nil_iff.mpr (fun _ _ => Bool.false_ne_true)]
      rfl
  | none =>
    have hb : isB "tuple" d = false := by rw [isB_tup, hz]; rfl
    refine q_when (b := false) (et_is (et_B (ev_isiD (ev_var rfl) h2 (kit_tuple d))) hb) (fun z => nomatch z) (fun _ H1 e1 => ?_)
    cases d with
    | tuple ds => cases hz
    | list ds => cases n <;> cases hd
    | dict ds => cases n <;> cases hd
    | none =>
      cases h1
      cases h2
      exact q_when (b := true) (et_test (ev_op (ev_var rfl) ev_c (rv_val fun H2 e2 Q q => ⟨rfl, q⟩))) (fun _ H2 e2 => s_ret (ev_op (ev_var rfl) ev_c (rv_val fun H3 e3 Q q => ⟨rfl, q⟩)) fun H3 e3 => hQ H3 ((e1.trans e2).trans e3)) (fun z => nomatch z)
    | bool b =>
      cases h1
      cases h2
      refine q_when (b := false) (et_test (ev_op (ev_var rfl) ev_c (rv_val fun H2 e2 Q q => ⟨rfl, q⟩))) (fun z => nomatch z) (fun _ H2 e2 => ?_)
      refine q_when (b := b) (et_test (ev_op (ev_var rfl) ev_c (rv_val fun H3 e3 Q q => ⟨true, rfl, by cases b <;> exact q⟩))) (fun hb H3 e3 => ?_) (fun hb H3 e3 => ?_)
      · subst hb
        exact s_ret (ev_op (ev_var rfl) ev_c (rv_val fun H4 e4 Q q => ⟨true, rfl, q⟩)) fun H4 e4 => hQ H4 ((e1.trans e2).trans (e3.trans e4))
      · subst hb
        exact q_when (b := true) (et_test (ev_op (ev_var rfl) ev_c (rv_val fun H4 e4 Q q => ⟨false, rfl, q⟩))) (fun _ H4 e4 => s_ret (ev_op (ev_var rfl) ev_c (rv_val fun H5 e5 Q q => ⟨false, rfl, q⟩)) fun H5 e5 => hQ H5 ((e1.trans e2).trans ((e3.trans e4).trans e5))) (fun z => nomatch z)
    | int i =>
      refine q_when (b := false) (et_test (ev_op (ev_var rfl) ev_c (rv_val fun H2 e2 Q q => ⟨rfl, by cases h2; exact q⟩))) (fun z => nomatch z) (fun _ H2 e2 => ?_)
      refine q_when (b := false) (et_test (ev_op (ev_var rfl) ev_c (rv_val fun H3 e3 Q q => ⟨true, rfl, by cases h2; exact q⟩))) (fun z => nomatch z) (fun _ H3 e3 => ?_)
      refine q_when (b := false) (et_test (ev_op (ev_var rfl) ev_c (rv_val fun H4 e4 Q q => ⟨false, rfl, by cases h2; exact q⟩))) (fun z => nomatch z) (fun _ H4 e4 => ?_)
      have E := ((e1.trans e2).trans e3).trans e4
      refine q_when (b := false) (et_is (et_B (ev_isiD (ev_var rfl) (Dp.ext E h2) (kit_str _))) (by rw [isB_str]; rfl)) (fun z => nomatch z) (fun _ H5 e5 => ?_)
      have E5 := E.trans e5
      refine s_ret (ev_is (ev_andV (ev_isiD (ev_var rfl) (Dp.ext E5 h1) (kit_int _)) (fun _ => ev_andV (ev_notV (ev_isiD (ev_var rfl) (Dp.ext E5 h1) (kit_bool _))) (fun _ => ev_op (ev_var rfl) (ev_var rfl) (rv_eqs (x := v1) (y := v2) (by cases h1; cases h2; rfl))))) ?_) (fun H6 e6 => hQ H6 (E5.trans e6))
      have w := isB_whole (.int i)
      cases h1
      cases h2
      rw [decide_eq_true rfl, Bool.and_true, w]
      rfl
    | str z =>
      refine q_when (b := false) (et_test (ev_op (ev_var rfl) ev_c (rv_val fun H2 e2 Q q => ⟨rfl, by cases h2; exact q⟩))) (fun z => nomatch z) (fun _ H2 e2 => ?_)
      refine q_when (b := false) (et_test (ev_op (ev_var rfl) ev_c (rv_val fun H3 e3 Q q => ⟨true, rfl, by cases h2; exact q⟩))) (fun z => nomatch z) (fun _ H3 e3 => ?_)
      refine q_when (b := false) (et_test (ev_op (ev_var rfl) ev_c (rv_val fun H4 e4 Q q => ⟨false, rfl, by cases h2; exact q⟩))) (fun z => nomatch z) (fun _ H4 e4 => ?_)
      have E := ((e1.trans e2).trans e3).trans e4
      refine q_when (b := true) (et_is (et_B (ev_isiD (ev_var rfl) (Dp.ext E h2) (kit_str _))) (by rw [isB_str]; rfl)) (fun _ H5 e5 => ?_) (fun z => nomatch z)
      have E5 := E.trans e5
      refine s_ret (ev_is (ev_andV (a := true) (ev_is (ev_isiD (ev_var rfl) (Dp.ext E5 h1) (kit_str _)) (by rw [isB_str]; rfl)) (fun _ => ev_op (ev_var rfl) (ev_var rfl) (rv_eqs (x := v1) (y := v2) (by cases h1; cases h2; rfl)))) ?_) (fun H6 e6 => hQ H6 (E5.trans e6))
      cases h1
      cases h2
      rw [decide_eq_true rfl]
      rfl
theorem gv_dead {x : Str} {st : Stmt} {ps : List Str} (D : Df K mg x st ps) : Gv P w K mg base CX0 0 x ps (fun _ _ _ _ => False) := D.of fun f fd F => ⟨fun _ _ _ _ h => h.elim, fun _ _ _ _ _ _ _ _ _ _ _ _ _ h => h.elim⟩
theorem ok_law_is (B : Bi mg) (D : Df K mg "_law_is" s__law_is ["told", "due"]) : ∀ n, Gv P w K mg base CX0 (n + 1) "_law_is" ["told", "due"] (spIs K n)
  | 0 => law_is_step B 0 _ (gv_dead D) (fun m h => nomatch h) D
  | n + 1 => law_is_step B (n + 1) _ (ok_law_is B D n) (fun m h vs H Q E q => by cases h; exact q) D
end
end Kb
set_option Elab.async false
set_option linter.all false
set_option maxRecDepth 100000
set_option maxHeartbeats 4000000
namespace Kb
open PySem PySem.Spec PyProof.Rows L2 Evl
section
variable {K : PySem.W.Frag} {σ : L2.St} {H H' H1 H2 : Hp} {te ta tb tl tp : TE} {tr : TA} {v w x : V} {d e : PyData} {vs xs ys : List V} {ds es : List PyData} {p : Addr × Addr} {Φ Φ' : V → Hp → Prop} {Ψ Ψ' : List V → Hp → Prop} {D : Ends} {tz tu : TS} {tt : TT} {r : R2} {a : Addr}
/-! data told, kind by kind -/
theorem evd_c (h : Ev te σ H v) (hd : ∀ H1, Ex H H1 → Dp K H1 v d) : EvD te σ H (fun w H1 => Dp K H1 w d) := ev_EvD h hd
theorem evd_b {b : Bool} (h : Ev te σ H (.bl b)) : EvD te σ H (fun w H1 => Dp K H1 w (.bool b)) := ev_EvD h fun _ _ => .bl b
theorem evd_i {i : Int} (h : Ev te σ H (.int i)) : EvD te σ H (fun w H1 => Dp K H1 w (.int i)) := ev_EvD h fun _ _ => .int i
theorem eda_d0 : EvDA tNil σ H (fun vs H1 => DpAll K H1 vs []) := fun H1 _ Q q => q [] H1 (Ex.refl H1) .nil
theorem eda_d (h : EvD te σ H (fun w H1 => Dp K H1 w d)) (h2 : EvDA tr σ H (fun vs H1 => DpAll K H1 vs ds)) : EvDA (tCons te tr) σ H (fun vs H1 => DpAll K H1 vs (d :: ds)) := fun H1 e Q q =>
  h H1 e _ fun v H2 e2 a => h2 H2 (e.trans e2) _ fun vs H3 e3 b => q (v :: vs) H3 (e2.trans e3) (.cons (Dp.ext e3 a) b)
theorem evd_tupD (h : EvDA tr σ H (fun vs H1 => DpAll K H1 vs ds)) (hz : ds.length ≤ 100000) : EvD (tTup tr) σ H (fun w H1 => Dp K H1 w (.tuple ds)) := fun H1 e Q q =>
  h H1 e _ fun vs H2 e2 a => ⟨sz_of (by rw [dpAll_len a]; exact hz), fun l hl => q _ _ (e2.trans (Ex.new hl)) (.tup (st_of upd_same) (DpAll.ext (Ex.new hl) a))⟩
theorem evd_lstD (h : EvDA tr σ H (fun vs H1 => DpAll K H1 vs ds)) (hz : ds.length ≤ 100000) : EvD (tLst tr) σ H (fun w H1 => Dp K H1 w (.list ds)) := fun H1 e Q q =>
  h H1 e _ fun vs H2 e2 a => ⟨sz_of (by rw [dpAll_len a]; exact hz), fun l hl => q _ _ (e2.trans (Ex.new hl)) (.lst (sq_of upd_same) (DpAll.ext (Ex.new hl) a))⟩
/-- _law_is of two data that are alike -/
theorem ev_lawIs {n : Nat} {E : XK} (ha : EvD ta σ H (fun w H1 => Dp K H1 w d)) (hb : EvD tb σ H (fun w H1 => Dp K H1 w d)) (hd : lawD n d = true) : Ev (tCall (spIs K n) [] E (tCons ta (tCons tb tNil))) σ H (.bl true) := fun H1 e Q q =>
  ha H1 e _ fun v1 H2 e2 d1 => hb H2 (e.trans e2) _ fun v2 H3 e3 d2 => ⟨v1, v2, d, rfl, Dp.ext e3 d1, d2, hd, fun H4 e4 => q H4 ((e2.trans e3).trans e4)⟩
/-- the text of a list that draws -/
theorem er_joinL {z : Str} {S : List Str → Prop} (ha : ∀ H1, Px p H H1 → Ev ta σ H1 (.str z)) (hb : ErL p tb σ H Ψ) (hs : ∀ xs H1, Ψ xs H1 → ∃ ys : List Str, xs = ys.map V.str ∧ (ys.map (·.length)).sum + ys.length * z.length ≤ 16777216 ∧ S ys) : ErD p (tBM K "str" (rJoin K) ta (tCons tb tNil)) σ H (fun v _ => ∃ ys, v = .str (Txt.join z ys) ∧ S ys) := fun H1 x1 Q q =>
  ha H1 x1 H1 (Ex.refl H1) _ fun H2 e2 => by
    refine ⟨?_, hb H2 (x1.ex e2) _ fun l xs H3 hl x3 h3 a => ?_⟩
    · rfl
    · obtain ⟨ys, rfl, hz, hS⟩ := hs xs H3 a
      exact ⟨z, l, ys, rfl, rfl, .inl (sq_of h3), hz, q _ H3 ((Px.of x1.pen e2).trans x3) ⟨ys, rfl, hS⟩⟩
theorem sgs_of {L : List Nat} {ys : List Str} (h : ∀ y ∈ ys, y ∈ L.map sg) : ∃ cs : List Nat, ys = cs.map sg ∧ ∀ c ∈ cs, c ∈ L := by
  induction ys with
  | nil => exact ⟨[], rfl, fun c h => nomatch h⟩
  | cons y ys ih =>
    obtain ⟨cs, e, hc⟩ := ih fun z hz => h z (List.mem_cons_of_mem _ hz)
    obtain ⟨c, hc1, hc2⟩ := List.mem_map.mp (h y List.mem_cons_self)
    refine ⟨c :: cs, by rw [e, List.map_cons, hc2], fun k hk => ?_⟩
    rcases List.mem_cons.mp hk with rfl | hk
    · exact hc1
    · exact hc k hk
/-- a new list of data -/
def EvLD (K : PySem.W.Frag) (te : TE) (σ : L2.St) (H : Hp) (ds : List PyData) : Prop := ∀ H1, Ex H H1 → ∀ Q : VK, (∀ l xs H2, H1 l = none → Ex H1 H2 → H2 l = some (.lst xs) → DpAll K H2 xs ds → Q (.ref l) H2) → te σ H1 Q
theorem eld_lst (h : EvDA tr σ H (fun vs H1 => DpAll K H1 vs ds)) (hz : ds.length ≤ 100000) : EvLD K (tLst tr) σ H ds := fun H1 e Q q =>
  h H1 e _ fun vs H2 e2 a => ⟨sz_of (by rw [dpAll_len a]; exact hz), fun l hl => q l vs _ (fresh_back e2 hl) (e2.trans (Ex.new hl)) upd_same (DpAll.ext (Ex.new hl) a)⟩
theorem eld_catH (ha : Ev ta σ H (.ref a)) (hx : H a = some (.lst xs)) (hd : DpAll K H xs ds) (hb : EvLD K tb σ H es) (hz : ds.length + es.length ≤ 100000) : EvLD K (tOp (rAdd K) ta tb) σ H (ds ++ es) := fun H1 e Q q =>
  ha H1 e _ fun H2 e2 => hb H2 (e.trans e2) _ fun m ys H3 hm e3 h3 hd3 => .inr (.inr (.inl ⟨a, m, xs, ys, rfl, rfl, e3 _ _ (e2 _ _ (e _ _ hx)), h3, sz_of (by rw [dpAll_len hd, dpAll_len hd3]; exact hz), fun r hr => q r _ _ (fresh_back (e2.trans e3) hr) ((e2.trans e3).trans (Ex.new hr)) upd_same
    (dpAll_app (DpAll.ext (((e.trans e2).trans e3).trans (Ex.new hr)) hd) (DpAll.ext (Ex.new hr) hd3))⟩))
theorem qd_asgLD {i : Nat} (h : EvLD K te σ H ds) (k : ∀ l xs H1, H l = none → Ex H H1 → H1 l = some (.lst xs) → DpAll K H1 xs ds → tz D (σ.set i (some (.ref l))) H1) : tSeq (tAsg te (gName i)) tz D σ H := h H (Ex.refl H) _ fun l xs H1 hl e h1 hd => k l xs H1 hl e h1 hd
/-- a pick of such a list -/
theorem er_pickLD {E : XK} (hp : ∀ H1, Px p H H1 → Ev tp σ H1 (.ref p.1)) (hl : ∀ H1, Px p H H1 → EvLD K tl σ H1 ds) (hz : 0 < ds.length ∧ ds.length < 1073741824) : ErD p (tCall (spPick K) [] E (tCons tp (tCons tl tNil))) σ H (fun v H2 => ∃ d ∈ ds, Dp K H2 v d) := fun H1 x Q q =>
  hp H1 x H1 (Ex.refl H1) _ fun H2 e2 => hl H2 (x.ex e2) H2 (Ex.refl H2) _ fun l xs H3 hl0 e3 h3 a => ⟨p, l, xs, rfl, (x.pen.same e2).same e3, sq_of h3, by rw [dpAll_len a]; exact hz.1, by rw [dpAll_len a]; exact hz.2, fun v o hv hpn => by
    have p3 := (x.pen.same e2).same e3
    have x4 : Px p H3 (upd H3 p.1 o) := ⟨Kp.upd, hpn⟩
    obtain ⟨i, hi⟩ := List.getElem?_of_mem hv
    obtain ⟨d, hd1, hd2⟩ := dpAll_get a hi
    exact q _ _ ((Px.of x.pen (e2.trans e3)).trans x4) ⟨d, List.mem_of_getElem? hd1, x4.dp p3 hd2⟩⟩
/-- for x in a list of data: nothing but new objects are made within -/
theorem q_forDx {S : L2.St → Prop} {j : Nat} (h : EvD tl σ H (fun w H1 => Dp K H1 w (.list ds))) (h0 : S σ)
    (hs : ∀ d v σ' H', d ∈ ds → S σ' → Ex H H' → Dp K H' v d → ∀ N : L2.St → Hp → Prop, (∀ σ2 H2, S σ2 → Ex H' H2 → N σ2 H2) → tu { D with nx := N, ct := N, bk := tz D } (σ'.set j (some v)) H')
    (hd : ∀ σ' H', S σ' → Ex H H' → tz D σ' H') : tSeq (tFor (iSeq K tl) (gName j) tu) tz D σ H :=
  .inl (h H (Ex.refl H) _ fun w H1 e hw => by
    cases hw with
    | lst hl ha =>
      refine ⟨_, rfl, ⟨_, hl⟩, for_list (D := { D with nx := tz D }) (fun _ σ' H' => S σ' ∧ Ex H1 H') ⟨h0, Ex.refl H1⟩ (fun i σ' H' _ z => ex_l z.2 hl) (fun i x σ' H' hx z => ?_) (fun σ' H' z => hd σ' H' z.1 (e.trans z.2))⟩
      obtain ⟨d, hd1, hd2⟩ := dpAll_get ha hx
      exact hs d x σ' H' (List.mem_of_getElem? hd1) z.1 (e.trans z.2) (Dp.ext z.2 hd2) _ fun σ2 H2 s2 e2 => ⟨s2, z.2.trans e2⟩)
end
end Kb
set_option Elab.async false
set_option linter.all false
set_option maxRecDepth 100000
set_option maxHeartbeats 4000000
namespace Kb
open PySem PySem.Spec PyProof.Rows L2 Evl
section
variable {K : PySem.W.Frag} {σ : L2.St} {H H' H1 H2 : Hp} {te ta tb tl tp : TE} {tr : TA} {v w x : V} {d e : PyData} {vs xs ys : List V} {ds es : List PyData} {p : Addr × Addr} {Φ Φ' : V → Hp → Prop} {Ψ Ψ' : List V → Hp → Prop} {D : Ends} {tz tu : TS} {tt : TT} {r : R2} {a : Addr}
/-- a comprehension over range(lo, lo + n) -/
theorem el_lcR2 {vs : List Nat} {j n : Nat} {lo : Int} (f : Nat → Bool) (g : Nat → V) (h : EvA tr σ H [.int lo, .int (lo + (n : Int))]) (hlo : 0 ≤ lo ∧ lo ≤ 1000) (hn : n ≤ 40000) (hw : ∀ x, wipe ((wipe σ vs).set j (some x)) vs = wipe σ vs)
    (ht : ∀ (i : Nat) H1, Ex H H1 → i < n → EvT tt ((wipe σ vs).set j (some (.int (lo + (i : Int))))) H1 (f i)) (he : ∀ (i : Nat) H1, Ex H H1 → i < n → f i = true → Ev te ((wipe σ vs).set j (some (.int (lo + (i : Int))))) H1 (g i)) :
    EvL (tLc (iRng2 tr) (gName j) tt te vs) σ H (given n f g) := fun H0 e Q q => h H0 e _ fun H1 e1 => ⟨lo, lo + (n : Int), rfl, ⟨by omega, by omega, by omega, by omega⟩, fun Dl hD => by
  have en : (lo + (n : Int) - lo).toNat = n := by omega
  rw [en]
  exact lc_range (lo := lo) (n := n) (Cw H1 f g Dl) ⟨hD, Ex.new hD, upd_same⟩ (fun i H' hi p => ⟨hw _, cw_turn p (by omega) (ht i H1 (e.trans e1) hi) (fun hf => he i H1 (e.trans e1) hi hf)⟩) (fun H' p => q Dl H' (fresh_back e1 p.1) (e1.trans p.2.1) p.2.2)⟩
theorem eld_lcR2 {vs : List Nat} {j n : Nat} {lo : Int} (f : Nat → PyData) (h : EvA tr σ H [.int lo, .int (lo + (n : Int))]) (hlo : 0 ≤ lo ∧ lo ≤ 1000) (hn : n ≤ 40000) (hw : ∀ x, wipe ((wipe σ vs).set j (some x)) vs = wipe σ vs) (ht : ∀ σ' H1, EvT tt σ' H1 true) (hf : ∀ m, noLs ((List.range m).map f) = true)
    (he : ∀ (i : Nat) H1, Ex H H1 → i < n → EvD te ((wipe σ vs).set j (some (.int (lo + (i : Int))))) H1 (fun w H2 => Dp K H2 w (f i))) : EvLD K (tLc (iRng2 tr) (gName j) tt te vs) σ H ((List.range n).map f) := fun H0 e Q q => h H0 e _ fun H1 e1 => ⟨lo, lo + (n : Int), rfl, ⟨by omega, by omega, by omega, by omega⟩, fun Dl hD => by
  have en : (lo + (n : Int) - lo).toNat = n := by omega
  rw [en]
  refine lc_range (lo := lo) (n := n) (fun i H' => Ex H1 H' ∧ ∃ xs, H' Dl = some (.lst xs) ∧ DpAll K H' xs ((List.range i).map f)) ⟨Ex.new hD, [], upd_same, .nil⟩ (fun i H' hi p => ?_) (fun H' p => ?_)
  · obtain ⟨e2, xs, h2, hd⟩ := p
    have hl : xs.length = i := by rw [dpAll_len hd, List.length_map, List.length_range]
    refine ⟨hw _, ht _ H' H' (Ex.refl H') _ fun H3 e3 => he i H3 (((e.trans e1).trans e2).trans e3) hi H3 (Ex.refl H3) _ fun y H4 e4 hy => ⟨xs, (e3.trans e4) _ _ h2, sz_lt (by omega), ?_, xs ++ [y], upd_same, ?_⟩⟩
    · exact ((e2.trans e3).trans e4).mut hD
    · rw [List.range_succ, List.map_append]
      have hb := (e3.trans e4) _ _ h2
      refine dps_mu hb (dpAll_app (DpAll.ext (e3.trans e4) hd) (.cons hy .nil)) ?_
      have := hf (i + 1)
      rw [List.range_succ, List.map_append] at this
      exact this
  · obtain ⟨e2, xs, h2, hd⟩ := p
    exact q Dl xs H' (fresh_back e1 hD) (e1.trans e2) h2 hd⟩
theorem evd_tupLD (h : EvLD K te σ H ds) : EvD (tCB (rTupP K) (tCons te tNil)) σ H (fun w H1 => Pd K H1 w (.tuple ds)) := fun H1 e Q q =>
  h H1 e _ fun l xs H2 hl e2 h2 hd => ⟨l, xs, rfl, .inl ⟨sq_of h2, fun m o hm ho => q _ _ (e2.trans (Ex.new hm)) ⟨m, xs, ds, rfl, rfl, ⟨o, ho, upd_same⟩, DpAll.ext (Ex.new hm) hd⟩⟩⟩
/-- i, j = t -/
theorem q_asgU2 {i j : Nat} {y : V} (ha : Ev ta σ H (.ref a)) (h : SqT K H a [x, y]) (k : ∀ H1, Ex H H1 → tz D ((σ.set i (some x)).set j (some y)) H1) : tSeq (tAsg ta (gTup K 2 (gCons (gName i) (gCons (gName j) gNil)))) tz D σ H :=
  ha H (Ex.refl H) _ fun H1 e1 => ⟨a, _, rfl, ex_t e1 h, rfl, x, [y], rfl, y, [], rfl, rfl, k H1 e1⟩
/-- values that all keep a promise -/
theorem eda_all0 : EvDA tNil σ H (fun vs H1 => vs.length = 0 ∧ ∀ x ∈ vs, Φ x H1) := fun H1 _ Q q => q [] H1 (Ex.refl H1) ⟨rfl, fun x h => nomatch h⟩
theorem eda_all {n : Nat} (hm : ∀ v H1 H2, Ex H1 H2 → Φ v H1 → Φ v H2) (h : EvD te σ H Φ) (h2 : EvDA tr σ H (fun vs H1 => vs.length = n ∧ ∀ x ∈ vs, Φ x H1)) : EvDA (tCons te tr) σ H (fun vs H1 => vs.length = n + 1 ∧ ∀ x ∈ vs, Φ x H1) := fun H1 e Q q =>
  h H1 e _ fun v H2 e2 a => h2 H2 (e.trans e2) _ fun vs H3 e3 b => q (v :: vs) H3 (e2.trans e3) ⟨congrArg (· + 1) b.1, fun x hx => by
    rcases List.mem_cons.mp hx with rfl | hx
    · exact hm _ _ _ e3 a
    · exact b.2 x hx⟩
theorem evd_lstAll {n : Nat} (hm : ∀ v H1 H2, Ex H1 H2 → Φ v H1 → Φ v H2) (h : EvDA tr σ H (fun vs H1 => vs.length = n ∧ ∀ x ∈ vs, Φ x H1)) (hz : n ≤ 100000) : EvD (tLst tr) σ H (fun w H1 => ∃ l xs, w = .ref l ∧ H1 l = some (.lst xs) ∧ xs.length = n ∧ ∀ x ∈ xs, Φ x H1) := fun H1 e Q q =>
  h H1 e _ fun vs H2 e2 a => ⟨sz_of (by rw [a.1]; exact hz), fun l hl => q _ _ (e2.trans (Ex.new hl)) ⟨l, vs, rfl, upd_same, a.1, fun x hx => hm _ _ _ (Ex.new hl) (a.2 x hx)⟩⟩
theorem evd_s {z : Str} (h : Ev te σ H (.str z)) : EvD te σ H (fun w H1 => Dp K H1 w (.str z)) := ev_EvD h fun _ _ => .str z
theorem evd_n (h : Ev te σ H .non) : EvD te σ H (fun w H1 => Dp K H1 w .none) := ev_EvD h fun _ _ => .non
end
end Kb
set_option Elab.async false
set_option linter.all false
set_option maxRecDepth 100000
set_option maxHeartbeats 4000000
namespace Kb
open PySem PySem.Spec PyProof.Rows L2 LamX Evl
/-! ### a def that makes lambdas: its code object and table -/
structure DfT (K : PySem.W.Frag) (mg : Str → Option Value) (x : Str) (st : Stmt) (ps : List Str) (c : Addr) : Prop where
  ex : ∃ (f : Addr) (fd : FuncData), Fun K x x st f fd ∧ L2.Binds K fd ps [] ∧ PySem.W.keepIn K (.ref f) = true ∧ mg x = some (.ref f) ∧ fd.code = .ref c
theorem DfT.gz {P : Program} {w : World} {K : PySem.W.Frag} {mg : Str → Option Value} {base : Heap} {x : Str} {st : Stmt} {N ps : List Str} {k : Nat} {c : Addr} {sp : SpZ} (D : DfT K mg x st ps c) (S : FnScope N ps (defScope st)) (len : ∀ s fr vs H Q, sp s fr vs H Q → vs.length = ps.length)
    (hbody : ∀ (f : Addr) (A : Around) (outer : List Env) (s : Shared) (H : Hp) (vs : List V) (Q : VK), Room k (A.deeper (envOfC x (defScope st) s.heap.objs.size f (.ref c))) → A.guards = some [] → sp s (frs outer) vs H Q →
      ∃ t, PSs (cxOf C8.CX0 P w K mg base N x (defScope st) f (.ref c) A outer s H C8.E0).nox (defBody st) t ∧ t { nx := fun _ H' => Q .non H', rt := Q } (L2.start N vs) H) : Gz P w K mg base (k + 1) x ps sp := by
  obtain ⟨f, fd, F, b, kp, g, hc⟩ := D.ex
  obtain ⟨oc, od, kV, doc, pm, an, cdv, ct, osl, rfl, lk, hcd⟩ := F.ex
  have hc : cdv = .ref c := hc
  subst hc
  refine ⟨f, _, ⟨len, fun A outer s H args us vs Q hr hgd e0 hb r hsp => ?_⟩, b, kp, g⟩
  refine run_ofS lk hcd S hr e0 hb r (len _ _ _ _ _ hsp) fun hr' => ?_
  obtain ⟨t, h, q⟩ := hbody f A outer s H vs Q hr' hgd hsp
  exact ⟨t, h.nox, q⟩
/-! ### what stays: all but lists, dicts with keys, tables -/
def mutO : HO → Bool
  | .lst _ => true
  | .tbl _ => true
  | .dK _ => true
  | _ => false
def Sm (H H' : Hp) : Prop := ∀ b o, H b = some o → mutO o = false → H' b = some o
theorem Sm.refl (H : Hp) : Sm H H := fun _ _ h _ => h
theorem Sm.trans {H H1 H2 : Hp} (a : Sm H H1) (b : Sm H1 H2) : Sm H H2 := fun c o h n => b c o (a c o h n) n
theorem Sm.of {H H' : Hp} (e : Ex H H') : Sm H H' := fun b o h _ => e b o h
theorem Sm.extN {H H' : Hp} (e : ExtN H H') : Sm H H' := fun b o h n => e b o h fun ps z => by rw [z] at n; cases n
theorem Sm.mu {H : Hp} {l : Addr} {xs ys : List V} (h : H l = some (.lst xs)) : Sm H (upd H l (.lst ys)) := fun b o e n => by
  rw [upd_ne (fun z => by rw [z, h] at e; cases e; cases n)]
  exact e
theorem Sm.px {p : Addr × Addr} {H H' : Hp} (hp : Pen H p) (x : Px p H H') : Sm H H' := fun b o e n => x.at_ hp e fun kvs z => by rw [z] at n; cases n
section
variable {K : PySem.W.Frag} {H H' : Hp} {v : V} {d : PyData} {vs : List V} {ds : List PyData} {p : Addr × Addr}
theorem Sm.t {q : Addr} {zs : List V} (e : Sm H H') (h : SqT K H q zs) : SqT K H' q zs := by
  rcases h with (h | ⟨o2, h⟩) | h
  · exact .inl (.inl (e _ _ h rfl))
  · exact .inl (.inr ⟨o2, e _ _ h rfl⟩)
  · exact .inr h
mutual
theorem Sm.dp (e : Sm H H') : ∀ {v : V} {d : PyData}, Dp K H v d → noL d = true → Dp K H' v d
  | _, _, .non, _ => .non
  | _, _, .bl b, _ => .bl b
  | _, _, .int i, _ => .int i
  | _, _, .str x, _ => .str x
  | _, _, .lst h a, z => by simp [noL] at z
  | _, _, .tup h a, z => .tup (e.t h) (Sm.dps e a (by simpa [noL] using z))
theorem Sm.dps (e : Sm H H') : ∀ {vs : List V} {ds : List PyData}, DpAll K H vs ds → noLs ds = true → DpAll K H' vs ds
  | _, _, .nil, _ => .nil
  | _, _, .cons h a, z => by
    simp only [noLs, Bool.and_eq_true] at z
    exact .cons (Sm.dp e h z.1) (Sm.dps e a z.2)
end
theorem Sm.pd (e : Sm H H') (h : Pd K H v d) (hn : noL d = true) : Pd K H' v d := by
  obtain ⟨q, zs, ds, rfl, rfl, ⟨o, ho, h⟩, a⟩ := h
  exact ⟨q, zs, ds, rfl, rfl, ⟨o, ho, e _ _ h rfl⟩, e.dps a (by simpa [noL] using hn)⟩
theorem extN_l {q : Addr} {zs : List V} (e : ExtN H H') (h : SqL K H q zs) : SqL K H' q zs := by
  rcases h with (h | ⟨o2, h⟩) | h
  · exact .inl (.inl (e _ _ h (fun _ z => nomatch z)))
  · exact .inl (.inr ⟨o2, e _ _ h (fun _ z => nomatch z)⟩)
  · exact .inr h
theorem extN_t {q : Addr} {zs : List V} (e : ExtN H H') (h : SqT K H q zs) : SqT K H' q zs := (Sm.extN e).t h
mutual
theorem dp_extN (e : ExtN H H') : ∀ {v : V} {d : PyData}, Dp K H v d → Dp K H' v d
  | _, _, .non => .non
  | _, _, .bl b => .bl b
  | _, _, .int i => .int i
  | _, _, .str x => .str x
  | _, _, .lst h a => .lst (extN_l e h) (dps_extN e a)
  | _, _, .tup h a => .tup (extN_t e h) (dps_extN e a)
theorem dps_extN (e : ExtN H H') : ∀ {vs : List V} {ds : List PyData}, DpAll K H vs ds → DpAll K H' vs ds
  | _, _, .nil => .nil
  | _, _, .cons h a => .cons (dp_extN e h) (dps_extN e a)
end
theorem Pen.extN (h : Pen H p) (e : ExtN H H') : Pen H' p := by
  obtain ⟨cs, a, d, n, f, h⟩ := h
  exact ⟨cs, a, d, n, f, e _ _ h.at_ (fun _ z => nomatch z), e _ _ h.cells (fun _ z => nomatch z), h.len, h.a0, h.d0, h.n0, h.f0⟩
theorem Tabs.mu {T : List (Addr × Str)} {l : Addr} {xs ys : List V} (h : H l = some (.lst xs)) (t : Tabs T H) : Tabs T (upd H l (.lst ys)) := fun q hq => by
  obtain ⟨ps, h1, h2, h3⟩ := t q hq
  refine ⟨ps, by rw [upd_ne (fun z => by rw [z, h] at h1; cases h1)]; exact h1, h2, fun pos cv hc => ?_⟩
  obtain ⟨c, e1, e2⟩ := h3 pos cv hc
  exact ⟨c, e1, by rw [upd_ne (fun z => by rw [z, h] at e2; unfold CodeO at e2; cases e2)]; exact e2⟩
end
end Kb
set_option Elab.async false
set_option linter.all false
set_option maxRecDepth 100000
set_option maxHeartbeats 4000000
namespace Kb
open PySem PySem.Spec PyProof.Rows L2 LamX Evl
/-! ### items (lambda, due) of the calls -/
def lamT (x : Str) (tb : Addr) : List (Addr × Str) := [(tb, x ++ ".<locals>." ++ "<lambda>")]
structure XN (T : List (Addr × Str)) (H H' : Hp) : Prop where
  e : ExtN H H'
  t : Tabs T H'
  n : ∀ b, H' b = none → H b = none
theorem XN.of {T : List (Addr × Str)} {H H' : Hp} (t : Tabs T H) (e : Ex H H') : XN T H H' := ⟨fun b o h _ => e b o h, t.ext e, fun b h => fresh_back e h⟩
theorem XN.trans {T : List (Addr × Str)} {H H1 H2 : Hp} (a : XN T H H1) (b : XN T H1 H2) : XN T H H2 := ⟨a.e.trans b.e, b.t, fun c h => a.n c (b.n c h)⟩
def Itm (K : PySem.W.Frag) (q : Str) (params : Arguments) (body : Expr) (scope : Scope) (cl : List (Str × Addr)) (ds : List V) (tup : Addr) (H : Hp) : Prop := ∃ f due c' : Addr, H tup = some (.tup [.ref f, .ref due]) ∧ SqT K H due ds ∧ H f = some (LamO f ⟨q, params, body, scope, cl, c'⟩) ∧ H c' = some (CodeO c' q)
section
variable {K : PySem.W.Frag} {σ : L2.St} {H H' H1 H2 : Hp} {q : Str} {params : Arguments} {body : Expr} {scope : Scope} {cl : List (Str × Addr)} {ds : List V} {tup : Addr} {X : Cx} {T : List (Addr × Str)} {td : TE} {Q : VK}
theorem Itm.sm (h : Itm K q params body scope cl ds tup H) (e : Sm H H') : Itm K q params body scope cl ds tup H' := by
  obtain ⟨f, due, c', h1, h2, h3, h4⟩ := h
  exact ⟨f, due, c', e _ _ h1 rfl, e.t h2, e _ _ h3 rfl, e _ _ h4 rfl⟩
theorem rd_item (hT : Tabs T H) (hd : ∀ H1, ExtN H H1 → ∀ Q' : VK, (∀ due H2, Ex H1 H2 → SqT K H2 due ds → Q' (.ref due) H2) → td σ H1 Q') (k : ∀ tup H2, XN T H H2 → Itm K (X.env.qual ++ "<lambda>") params body scope (cloFrom X.env.cells scope.names []) ds tup H2 → Q (.ref tup) H2) :
    tTup (tCons (tLamT X T params body scope) (tCons td tNil)) σ H Q :=
  ⟨hT, fun f c' H1 e1 n1 t1 hf hf1 hc1 => hd H1 e1 _ fun due H2 e2 h2 => ⟨sz_of (show 2 ≤ 100000 by decide), fun tup htup => by
    have e3 := Ex.new (o := .tup [.ref f, .ref due]) htup
    exact k tup _ (XN.trans ⟨e1, t1, n1⟩ (XN.of t1 (e2.trans e3))) ⟨f, due, c', upd_same, ex_t e3 h2, e3 _ _ (e2 _ _ hf1), e3 _ _ (e2 _ _ hc1)⟩⟩⟩
theorem rsItem_of {pins : List (Addr × Obj)} {s1 : Shared} {k c : Nat} {cA : Nat → Addr} {fs : List (Str × V)} {ys : List V} {v : V} {es : List PyData} {d : PyData} {tb : XK → TE} (I : L2.Inv X pins σ H s1) (hfn : ∀ x, X.fn x = true) (hst : X.stack = X.env :: X.outer) (hfrm : X.env.frame = some X.env.locals) (L : LamS X.env.scope scope)
    (h : Itm X.K (X.env.qual ++ "<lambda>") params body scope (cloFrom X.env.cells scope.names []) (ys ++ [v]) tup H)
    (hbind : ∀ (cl : List (Str × Addr)) (pm cv ctv : Value), bindArgs (PySem.W.kla_fn "<lambda>" (X.env.qual ++ "<lambda>") params body scope cl pm cv ctv) ⟨[], []⟩ = pure [])
    (hbody : ∀ (f c' : Addr) (A : Around) (outer : List Env) (s : Shared) (H : Hp) (E : XK), Room k (A.deeper (lamEnv X scope s.heap.objs.size f c')) → PE (lamCx X A outer s H E scope f c') body (tb E))
    (hc : c < 8) (hr2 : ∀ H' (E : XK), Ex H H' → Rs E H' (cA c) fs → Rx (tb E) σ H') (hFo : Fo c fs (ys ++ [v])) (h1 : DpAll X.K H ys es) (h2 : SeqAt.shaped (.tuple es) = true) (h3 : Dp X.K H v d) (h4 : d.hasDict = false) (h5 : Sh d) :
    RsItem X.prog X.w X.K X.mg X.base (k + 1) cA s1 (frs X.stack) H (.ref tup) := by
  obtain ⟨f, due, c', a1, a2, a3, a4⟩ := h
  exact ⟨tup, f, due, _, c, fs, ys, v, es, d, rfl, st_of a1, lamAt_of I hfn hst hfrm L a3 a4 hbind (fun A outer s H E hr => hbody f c' A outer s H E hr), hc, fun H' e Q E r => hr2 H' E e r H' (Ex.refl H') Q, hFo, a2, h1, h2, h3, h4, h5⟩
theorem eu3 {tr : TA} {x y z : V} (h : EvA tr σ H [x, y, z]) : EvU (tTup tr) σ H ([x, y] ++ [z]) := eu_tup (vs := [x, y, z]) h (show 3 ≤ 100000 by decide)
theorem if_cz {sp : SpZ} {te : TE} {tz : TS} {D : Ends} (h : te σ H (fun l H1 => ∀ pins s1, L2.Inv X pins σ H1 s1 → sp s1 (frs X.stack) [l] H1 (fun v H2 => ∃ b, v = .bl b ∧ (if (!b) = true then tz D σ H2 else D.nx σ H2)))) : tIfS (tNot (tB (tCallZ X sp (tCons te tNil)))) tz tNext D σ H := h
theorem q_ifcz {sp : SpZ} {te : TE} {tz tu : TS} {D : Ends} (h : te σ H (fun l H1 => ∀ pins s1, L2.Inv X pins σ H1 s1 → sp s1 (frs X.stack) [l] H1 (fun v H2 => ∃ b, v = .bl b ∧ (if (!b) = true then tz { D with nx := tu D } σ H2 else tu D σ H2)))) : tSeq (tIfS (tNot (tB (tCallZ X sp (tCons te tNil)))) tz tNext) tu D σ H := h
theorem if_czA {sp : SpZ} {ta : TA} {tz : TS} {D : Ends} (h : ta σ H (fun vs H1 => ∀ pins s1, L2.Inv X pins σ H1 s1 → sp s1 (frs X.stack) vs H1 (fun v H2 => ∃ b, v = .bl b ∧ (if (!b) = true then tz D σ H2 else D.nx σ H2)))) : tIfS (tNot (tB (tCallZ X sp ta))) tz tNext D σ H := h
theorem lst1 {te : TE} (h : te σ H (fun v H1 => [v].length ≤ sizeLine ∧ ∀ l, H1 l = none → Q (.ref l) (upd H1 l (.lst [v])))) : tLst (tCons te tNil) σ H Q := h
theorem q_asgT {te : TE} {tz : TS} {D : Ends} {i : Nat} (h : te σ H (fun v H1 => tz D (σ.set i (some v)) H1)) : tSeq (tAsg te (gName i)) tz D σ H := h
theorem q_dropT {te : TE} {tz : TS} {D : Ends} (h : te σ H (fun _ H1 => tz D σ H1)) : tSeq (tDrop te) tz D σ H := h
theorem Tabs.px {p : Addr × Addr} (hp : Pen H p) (x : Px p H H') (t : Tabs T H) : Tabs T H' := fun q hq => by
  obtain ⟨ps, h1, h2, h3⟩ := t q hq
  refine ⟨ps, x.at_ hp h1 (fun _ z => nomatch z), h2, fun pos cv hc => ?_⟩
  obtain ⟨c, e1, e2⟩ := h3 pos cv hc
  exact ⟨c, e1, x.at_ hp e2 (fun _ z => by unfold CodeO at z; cases z)⟩
theorem qr_asgU3 {p : Addr × Addr} {tr : TA} {tz : TS} {D : Ends} {i j l : Nat} {R : V → V → V → Hp → Prop} (hp : Pen H p) (h : ErA p tr σ H (fun vs H1 => ∃ x y z, vs = [x, y, z] ∧ R x y z H1)) (hm : ∀ x y z H1 H2, Ex H1 H2 → R x y z H1 → R x y z H2)
    (k : ∀ x y z H1, Px p H H1 → R x y z H1 → tz D (((σ.set i (some x)).set j (some y)).set l (some z)) H1) : tSeq (tAsg (tTup tr) (gTup K 3 (gCons (gName i) (gCons (gName j) (gCons (gName l) gNil))))) tz D σ H :=
  h H (Px.refl hp) _ fun vs H1 x1 ⟨x, y, z, e, hR⟩ => by
    subst e
    exact ⟨sz_of (show 3 ≤ 100000 by decide), fun t ht => ⟨t, _, rfl, st_of upd_same, rfl, x, [y, z], rfl, y, [z], rfl, z, [], rfl, rfl, k x y z _ (x1.ex (Ex.new ht)) (hm x y z _ _ (Ex.new ht) hR)⟩⟩
theorem q_forErD {p : Addr × Addr} {tl : TE} {g : TG} {tu tz : TS} {D : Ends} {Ψ : List V → Hp → Prop} (hp : Pen H p) (h : ErD p tl σ H (fun v H1 => ∃ l xs, v = .ref l ∧ H1 l = some (.lst xs) ∧ Ψ xs H1))
    (k : ∀ l xs H1, Px p H H1 → H1 l = some (.lst xs) → Ψ xs H1 → ∃ Pv : Nat → L2.St → Hp → Prop, Pv 0 σ H1 ∧ (∀ i σ' H', i ≤ xs.length → Pv i σ' H' → SqL K H' l xs) ∧
      (∀ i x σ' H', xs[i]? = some x → Pv i σ' H' → g x σ' H' fun σ2 H2 => tu { ({ D with nx := tz D } : Ends) with nx := Pv (i + 1), ct := Pv (i + 1), bk := tz D } σ2 H2) ∧ (∀ σ' H', Pv xs.length σ' H' → tz D σ' H')) : tSeq (tFor (iSeq K tl) g tu) tz D σ H :=
  .inl (h H (Px.refl hp) _ fun v H1 x1 ⟨l, xs, e, hl, hΨ⟩ => by
    obtain ⟨Pv, h0, h1, h2, h3⟩ := k l xs H1 x1 hl hΨ
    exact ⟨l, e, ⟨xs, sq_of hl⟩, for_list (D := { D with nx := tz D }) Pv h0 h1 h2 h3⟩)
theorem q_appItm {l : Addr} {xs : List V} {i : Nat} {tz : TS} {D : Ends} (hσ : σ[i]? = some (some (.ref l))) (hl : H l = some (.lst xs)) (hz : xs.length ≤ 1000) (hT : Tabs T H) (hd : ∀ H1, ExtN H H1 → ∀ Q' : VK, (∀ due H2, Ex H1 H2 → SqT K H2 due ds → Q' (.ref due) H2) → td σ H1 Q')
    (k : ∀ tup H2, XN T H H2 → H2 l = some (.lst xs) → Itm K (X.env.qual ++ "<lambda>") params body scope (cloFrom X.env.cells scope.names []) ds tup H2 → tz D σ (upd H2 l (.lst (xs ++ [.ref tup])))) :
    tSeq (tDrop (tBM K "list" rAppend (tVar i) (tCons (tTup (tCons (tLamT X T params body scope) (tCons td tNil))) tNil))) tz D σ H :=
  s_appG (D := { D with nx := tz D }) (ev_var hσ) (sq_of hl) fun H1 e1 => rd_item (hT.ext e1) (fun H2 e2 Q' q => hd H2 ((ExtN.of e1).trans e2) Q' q) fun tup H2 xn hitm => by
    have hl2 := xn.e _ _ (e1 _ _ hl) (fun _ z => nomatch z)
    exact ⟨xs, hl2, sz_lt (by omega), k tup H2 (XN.trans (XN.of hT e1) xn) hl2 hitm⟩
end
end Kb
set_option Elab.async false
set_option linter.all false
set_option maxRecDepth 100000
set_option maxHeartbeats 4000000
namespace Kb
open PySem PySem.Spec PyProof.Rows L2 LamX Evl
/-- the law's own state: a pair of two plain tuples of rows -/
def LS (K : PySem.W.Frag) (H : Hp) (v : V) (ns cs : List (Key × Int)) : Prop := ∃ t v1 v2, v = .ref t ∧ SqT K H t [v1, v2] ∧ Pd K H v1 (rowsD ns) ∧ Pd K H v2 (rowsD cs)
theorem LS.ext {K : PySem.W.Frag} {H H' : Hp} {v : V} {ns cs : List (Key × Int)} (h : LS K H v ns cs) (e : Ex H H') : LS K H' v ns cs := by
  obtain ⟨t, v1, v2, h1, h2, h3, h4⟩ := h
  exact ⟨t, v1, v2, h1, ex_t e h2, h3.ext e, h4.ext e⟩
theorem LS.dp {K : PySem.W.Frag} {H : Hp} {v : V} {ns cs : List (Key × Int)} (h : LS K H v ns cs) : Dp K H v (.tuple [rowsD ns, rowsD cs]) := by
  obtain ⟨t, v1, v2, rfl, h2, h3, h4⟩ := h
  exact .tup h2 (.cons h3.dp (.cons h4.dp .nil))
def spLVal (K : PySem.W.Frag) : Sp := fun vs H Q _ => ∃ v z g ns cs, vs = [v, .str z, .ref g] ∧ LS K H v ns cs ∧ SqT K H g [] ∧ ns.length ≤ 1000 ∧ ∀ H', Ex H H' → Q (.int ((lookI ns (.inr z)).getD 0)) H'
def spLVals (K : PySem.W.Frag) : Sp := fun vs H Q _ => ∃ v ns cells, vs = [v] ∧ LS K H v ns (cells.map cI) ∧ ns.length + 2 * cells.length ≤ 1000 ∧ ∀ p H', H p = none → Ex H H' → H' p = some (.lst ((valsI (intsOf ns cells)).map V.int)) → Q (.ref p) H'
def spLCont (K : PySem.W.Frag) : Sp := fun vs H Q _ => ∃ v i cs, vs = [v, .int i] ∧ Dp K H v (rowsD cs) ∧ cs.length ≤ 1000 ∧ (∀ p ∈ cs, ∃ j, p.1 = .inl j) ∧ ∀ H', Ex H H' → Q (((lookI cs (.inl i)).map V.int).getD .non) H'
theorem key_inj {k l : Key} (h : kV k = kV l) : k = l := by
  cases k <;> cases l <;> first | (have z := V.int.inj h; rw [z]) | (have z := V.str.inj h; rw [z]) | cases h
theorem key_dec (k l : Key) : decide (kV k = kV l) = decide (k = l) := decide_eq_decide.mpr ⟨key_inj, fun h => by rw [h]⟩
theorem key_scal (k l : Key) : scal (kV k) (kV l) = true := by cases k <;> cases l <;> rfl
theorem look_filter (kvs : List (Key × Int)) (k : Key) : lookI kvs k = ((kvs.filter fun p => decide (p.1 = k)).map (·.2)).head? := by
  unfold lookI
  rw [List.head?_map, List.head?_filter]
section
variable {P : Program} {w : World} {K : PySem.W.Frag} {mg : Str → Option Value} {base : Heap} {C BR : Addr}
theorem ok_law_content (B : Bi mg) (D : Df K mg "_law_content" s__law_content ["heap", "address"]) : Gv P w K mg base CX0 1 "_law_content" ["heap", "address"] (spLCont K) := by
  have nd := sc__law_content.nd
  refine D.gv sc__law_content (fun vs H Q E h => ?_) (fun f cdv A outer s H vs Q E hr h => ?_)
  · obtain ⟨v, i, cs, rfl, _⟩ := h
    rfl
  have hu64 := hu64_of hr
  refine ⟨_, (pss_cons (ps_setLc (i := 2) (own := [("own", 3), ("value", 4)]) rfl nd rfl rfl (sw_true rfl rfl rfl (by decide +kernel)) (piA_seq (pv 0)) (blk_ok (by kernel_rfl)) (fun _ _ _ _ _ => (pgK_tup (K := K) (n := 2) rfl rfl (pgs_cons (pg_name (i := 3) nd rfl (.inl rfl)) (pgs_cons (pg_name (i := 4) nd rfl (.inl rfl)) pgs_nil)))) (fun _ _ _ _ _ => (pts_one (pt_cmpR (r := rEqA K) (opA_eq hu64) (pv 3) (pv 1) (nomark _)))) (fun _ _ _ _ _ => (pv 4)))
    (pss_one (ps_ret (pe_ifExp (pt_cmpR (r := rNeA K) (opA_ne hu64) (pv 2) (pe_lst pa_nil) (nomark _)) (pe_ix (r := rIx K) ix_seq (pv 2) pe_int (fun _ _ => rfl)) pe_non)))), ?_⟩
  obtain ⟨v, i, cs, rfl, hv, hlen, hk, hQ⟩ := h
  cases hv with
  | @tup a xs _ hx hd =>
  have hp := rows_prt hd
  have hxl : xs.length = cs.length := by rw [hp.len, List.length_map]
  have look : ∀ {j : Nat} {u : V × V}, (cs.map fun p => (kV p.1, V.int p.2))[j]? = some u → u = (kV (cs.getD j (.inl 0, 0)).1, V.int (cs.getD j (.inl 0, 0)).2) := fun {j u} hu => by
    rw [List.getElem?_map] at hu
    cases hc : cs[j]? with
    | none => rw [hc] at hu; cases hu
    | some c =>
      rw [hc] at hu
      cases hu
      rw [getD_some hc]
  refine q_asgL (el_is (el_prt (fun j => decide ((cs.getD j (.inl 0, 0)).1 = .inl i)) (fun j => V.int (cs.getD j (.inl 0, 0)).2) (ev_var rfl) hx hp (by omega) (fun _ _ => rfl) (fun j u H1 e hu => et_test (ev_is (ev_op (y := .int i) (ev_var rfl) (ev_var rfl) (rv_eqs (by rw [look hu]; exact key_scal _ (.inl i)))) ?_)) (fun j u H1 e hu _ => ev_is (ev_var rfl) (by rw [look hu]))) (given_key cs fun k => decide (k = .inl i))) (fun l H1 hl e1 h1 => ?_)
  · rw [look hu]
    exact congrArg V.bl (key_dec _ (.inl i))
  obtain ⟨zs, hzs⟩ : ∃ zs : List Int, zs = (cs.filter fun p => decide (p.1 = .inl i)).map (·.2) := ⟨_, rfl⟩
  have h1 : H1 l = some (.lst (zs.map V.int)) := by rw [h1, hzs, List.map_map]; rfl
  have hlook : lookI cs (.inl i) = zs.head? := by rw [hzs]; exact look_filter cs _
  rw [hlook] at hQ
  refine s_ret (ev_if (b := !decide (zs = [])) (et_test (ev_is (ev_neNilH (ds := zs.map PyData.int) (ev_var rfl) (sq_of h1) (fun H2 e2 => el_lst ea_nil (Nat.zero_le _)) dpAll_ints (shaped_ints zs)) (congrArg (fun b => V.bl (!b)) (decide_eq_decide.mpr List.map_eq_nil_iff)))) (fun b => ?_) (fun b => ?_)) (fun H2 e2 => hQ H2 (e1.trans e2))
  · cases zs with
    | nil => cases b
    | cons z zs => exact ev_op (ev_var rfl) ev_c (rv_iL (v := .int z) (sq_of h1) (atI_nat (j := 0) rfl))
  · cases zs with
    | nil => exact ev_c
    | cons z zs => cases b
theorem ok_law_value (B : Bi mg) (D : Df K mg "_law_value" s__law_value ["state", "term", "given"]) : Gv P w K mg base CX0 1 "_law_value" ["state", "term", "given"] (spLVal K) := by
  have nd := sc__law_value.nd
  refine D.gv sc__law_value (fun vs H Q E h => ?_) (fun f cdv A outer s H vs Q E hr h => ?_)
  · obtain ⟨v, z, g, ns, cs, rfl, _⟩ := h
    rfl
  have hu64 := hu64_of hr
  refine ⟨_, (pss_cons (ps_setLc (i := 3) (own := [("name", 4), ("value", 5)]) rfl nd rfl rfl (sw_true rfl rfl rfl (by decide +kernel)) (piA_seq (pe_op (r := rAdd K) opA_add (pe_callTy (r := rListA K) (callA_list rfl) rfl B.list (by decide +kernel) (pa_cons (pe_ix (r := rIx K) ix_seq (pv 0) pe_int (fun _ _ => rfl)) pa_nil)) (pe_callTy (r := rListA K) (callA_list rfl) rfl B.list (by decide +kernel) (pa_cons (pv 2) pa_nil)))) (blk_ok (by kernel_rfl)) (fun _ _ _ _ _ => (pgK_tup (K := K) (n := 2) rfl rfl (pgs_cons (pg_name (i := 4) nd rfl (.inl rfl)) (pgs_cons (pg_name (i := 5) nd rfl (.inl rfl)) pgs_nil)))) (fun _ _ _ _ _ => (pts_one (pt_cmpR (r := rEqA K) (opA_eq hu64) (pv 4) (pv 1) (nomark _)))) (fun _ _ _ _ _ => (pv 5)))
    (pss_one (ps_ret (pe_ifExp (pt_cmpR (r := rNeA K) (opA_ne hu64) (pv 3) (pe_lst pa_nil) (nomark _)) (pe_ix (r := rIx K) ix_seq (pv 3) pe_int (fun _ _ => rfl)) pe_int)))), ?_⟩
  obtain ⟨v, z, g, ns, cs, rfl, ⟨t, v1, v2, rfl, ht, h3, h4⟩, hg, hlen, hQ⟩ := h
  obtain ⟨p, xs, ds, rfl, e0, hx, hd⟩ := h3
  have e0 := PyData.tuple.inj e0
  subst e0
  have hp := rows_prt hd
  have hxl : xs.length = ns.length := by rw [hp.len, List.length_map]
  have look : ∀ {j : Nat} {u : V × V}, (ns.map fun p => (kV p.1, V.int p.2))[j]? = some u → u = (kV (ns.getD j (.inl 0, 0)).1, V.int (ns.getD j (.inl 0, 0)).2) := fun {j u} hu => by
    rw [List.getElem?_map] at hu
    cases hc : ns[j]? with
    | none => rw [hc] at hu; cases hu
    | some c =>
      rw [hc] at hu
      cases hu
      rw [getD_some hc]
  refine q_asgL (el_is (el_prtN (fun j => decide ((ns.getD j (.inl 0, 0)).1 = .inr z)) (fun j => V.int (ns.getD j (.inl 0, 0)).2) (by
      have z1 := el_cat (K := K) (el_listT (K := K) (ev_op (ev_var (σ := [some (.ref t), some (.str z), some (.ref g), none, none, none]) (i := 0) rfl) (ev_c (v := .int 0)) (rv_iT ht (i := 0) rfl)) hx.t) (el_listT (K := K) (ev_var (i := 2) rfl) hg) (by simp; omega)
      rw [List.append_nil] at z1
      exact z1) hp (by omega) (fun _ _ => rfl) (fun j u H1 e hu => et_test (ev_is (ev_op (y := .str z) (ev_var rfl) (ev_var rfl) (rv_eqs (by rw [look hu]; exact key_scal _ (.inr z)))) ?_)) (fun j u H1 e hu _ => ev_is (ev_var rfl) (by rw [look hu]))) (given_key ns fun k => decide (k = .inr z))) (fun l H1 hl e1 h1 => ?_)
  · rw [look hu]
    exact congrArg V.bl (key_dec _ (.inr z))
  obtain ⟨zs, hzs⟩ : ∃ zs : List Int, zs = (ns.filter fun p => decide (p.1 = .inr z)).map (·.2) := ⟨_, rfl⟩
  have h1 : H1 l = some (.lst (zs.map V.int)) := by rw [h1, hzs, List.map_map]; rfl
  have hlook : lookI ns (.inr z) = zs.head? := by rw [hzs]; exact look_filter ns _
  rw [hlook] at hQ
  refine s_ret (ev_if (b := !decide (zs = [])) (et_test (ev_is (ev_neNilH (ds := zs.map PyData.int) (ev_var rfl) (sq_of h1) (fun H2 e2 => el_lst ea_nil (Nat.zero_le _)) dpAll_ints (shaped_ints zs)) (congrArg (fun b => V.bl (!b)) (decide_eq_decide.mpr List.map_eq_nil_iff)))) (fun b => ?_) (fun b => ?_)) (fun H2 e2 => hQ H2 (e1.trans e2))
  · cases zs with
    | nil => cases b
    | cons z zs => exact ev_op (ev_var rfl) ev_c (rv_iL (v := .int z) (sq_of h1) (atI_nat (j := 0) rfl))
  · cases zs with
    | nil => exact ev_c
    | cons z zs => cases b
theorem ok_law_values (B : Bi mg) (g__law_unlike : Gv P w K mg base CX0 1 "_law_unlike" ["row"] (spUnlike K)) (D : Df K mg "_law_values" s__law_values ["state"]) : Gv P w K mg base CX0 2 "_law_values" ["state"] (spLVals K) := by
  have nd := sc__law_values.nd
  refine D.gv sc__law_values (fun vs H Q E h => ?_) (fun f cdv A outer s H vs Q E hr h => ⟨_, (pss_cons (ps_setLc (i := 1) (own := [("name", 4), ("value", 3)]) rfl nd rfl rfl (sw_true rfl rfl rfl (by decide +kernel)) (piA_seq (pe_ix (r := rIx K) ix_seq (pv 0) pe_int (fun _ _ => rfl))) (blk_ok (by kernel_rfl)) (fun _ _ _ _ _ => (pgK_tup (K := K) (n := 2) rfl rfl (pgs_cons (pg_name (i := 4) nd rfl (.inl rfl)) (pgs_cons (pg_name (i := 3) nd rfl (.inl rfl)) pgs_nil)))) (fun _ _ _ _ _ => pts_nil) (fun _ _ _ _ _ => (pv 3)))
    (pss_cons (ps_for PassesOwn.never rfl (piA_seq (pe_ix (r := rIx K) ix_seq (pv 0) pe_int (fun _ _ => rfl))) (pgK_tup (K := K) (n := 2) rfl rfl (pgs_cons (pg_name (i := 2) nd rfl (.inl rfl)) (pgs_cons (pg_name (i := 3) nd rfl (.inl rfl)) pgs_nil))) (pss_one (ps_expr (pe_bmK (K := K) rfl PySem.F.plainAttrs_list PySem.F.slot_list_extend PySem.F.type_list_extend mt_extend (pv 1) (pa_cons (pe_lst (pa_cons (pv 2) (pa_cons (pv 3) pa_nil))) pa_nil)))))
    (pss_one (ps_ret (pe_lc (own := [("value", 3)]) rfl nd (piA_seq (pe_cg g__law_unlike hr rfl pass0 (pa_cons (pv 1) pa_nil))) (blk_ok (by kernel_rfl)) (fun _ _ _ _ _ => (pg_name (i := 3) nd rfl (.inl rfl))) (fun _ _ _ _ _ => (pts_one (pt_cmpR op_gt (pv 3) pe_int (nomark _)))) (fun _ _ _ _ _ => (pv 3))))))), ?_⟩)
  · obtain ⟨v, ns, cells, rfl, _⟩ := h
    rfl
  obtain ⟨v, ns, cells, rfl, ⟨t, v1, v2, rfl, ht, h3, h4⟩, hlen, hQ⟩ := h
  obtain ⟨p1, xs1, ds1, rfl, e1, hx1, hd1⟩ := h3
  obtain ⟨p2, xs2, ds2, rfl, e2, hx2, hd2⟩ := h4
  have e1 := PyData.tuple.inj e1
  have e2 := PyData.tuple.inj e2
  subst e1 e2
  have q1 := rows_prt hd1
  have q2 := rows_prt hd2
  have l1 : xs1.length = ns.length := by rw [q1.len, List.length_map]
  refine q_asgL (xs := ns.map fun p => V.int p.2) (el_is (el_prt (fun _ => true) (fun j => V.int (ns.getD j (.inl 0, 0)).2) (ev_op (ev_var rfl) ev_c (rv_iT ht (i := 0) rfl)) hx1.t q1 (by omega) (fun _ _ => rfl) (fun j u H1 e hu => et_true fun _ _ _ q => q) (fun j u H1 e hu _ => ?_)) (by
    rw [List.length_map]
    exact given_mapT ns (.inl 0, 0) fun p => V.int p.2)) (fun l H1 hl e1 h1 => ?_)
  · rw [List.getElem?_map] at hu
    cases hc : ns[j]? with
    | none => rw [hc] at hu; cases hu
    | some c =>
      rw [hc] at hu
      cases hu
      rw [getD_some hc]
      exact ev_var rfl
  refine q_forPr (us := (cells.map cI).map fun p : Key × Int => (kV p.1, V.int p.2)) (ds := (cells.map cI).map rowD) (ev_op (ev_var rfl) ev_c (rv_iT (ex_t e1 ht) (i := 1) rfl)) (ex_t e1 hx2.t) q2.len
    (fun i σ' H' => (∃ x y z, σ' = [some (.ref t), some (.ref l), x, y, z]) ∧ Ex H H' ∧ H' l = some (.lst ((intsOf ns (cells.take i)).map V.int)))
    (fun H2 e2 => ⟨⟨_, _, _, rfl⟩, e1.trans e2, by
      have z := e2 _ _ h1
      rw [z, List.take_zero]
      unfold intsOf
      rw [List.flatMap_nil, List.append_nil, List.map_map]
      rfl⟩) (fun i σ' H' _ p => ⟨ex_t p.2.1 hx2.t, Prt.ext p.2.1 q2⟩) (fun i u σ' H' hu p => ?_) (fun σ' H' p => ?_)
  · obtain ⟨⟨x, y, z, rfl⟩, ex, hk⟩ := p
    obtain ⟨c, hc⟩ : ∃ c, cells[i]? = some c := by
      cases hn : cells[i]? with
      | none =>
        rw [List.getElem?_map, List.getElem?_map, hn] at hu
        cases hu
      | some c => exact ⟨c, rfl⟩
    rw [List.getElem?_map, List.getElem?_map, hc] at hu
    cases hu
    have hl2 : (intsOf ns (cells.take i)).length ≤ 1000 := by
      rw [intsOf_len]
      have : (cells.take i).length ≤ cells.length := by simp; omega
      omega
    refine s_extend (ys := [.int c.1, .int c.2]) hk (ev_var rfl) (el_lst (ea_cons (ev_var rfl) (ea_cons (ev_var rfl) ea_nil)) (show 2 ≤ 100000 by decide)) (by rw [List.length_map]; simp only [List.length_cons, List.length_nil]; omega) (fun H2 e2 => ?_)
    refine ⟨⟨_, _, _, rfl⟩, (ex.trans e2).mut hl, ?_⟩
    rw [upd_same, List.take_succ, hc, Option.toList_some]
    unfold intsOf
    rw [List.flatMap_append, ← List.append_assoc, List.map_append (l₁ := _ ++ _)]
    rfl
  · obtain ⟨⟨x, y, z, rfl⟩, ex, hk⟩ := p
    have hlc : ((cells.map cI).map fun p : Key × Int => (kV p.1, V.int p.2)).length = cells.length := by simp
    rw [hlc, List.take_length] at hk
    have hln := intsOf_len ns cells
    refine s_retL (el_sieveN (ns := uniqI (intsOf ns cells)) (fun i => decide (i > 0)) (el_call (ea_cons (ev_var rfl) ea_nil) (fun H2 e2 Q q E => ⟨l, rfl, .inl ⟨intsOf ns cells, ex_l e2 (sq_of hk), by omega, q⟩⟩)) ?_ (fun _ => rfl) (fun n H1 e => et_test (ev_op (ev_var rfl) ev_c rv_I0)) (fun n H1 => ev_var rfl)) (fun p H4 hp e4 h4 => ?_)
    · unfold uniqI
      rw [(srt_perm _).length_eq]
      have := dd_len (intsOf ns cells) []
      simp only [List.length_nil] at this
      omega
    · exact hQ p H4 (fresh_back ex hp) (ex.trans e4) h4
end
end Kb
set_option Elab.async false
set_option linter.all false
set_option maxRecDepth 100000
set_option maxHeartbeats 4000000
namespace Kb
open PySem PySem.Spec PyProof.Rows L2 LamX Evl
/-- a State whose parts are plain tuples -/
def StPd (K : PySem.W.Frag) (H : Hp) (C : Addr) (a : Addr) (s h : PyData) : Prop := ∃ dx v1 v2, H a = some (.ins C dx [("store", v1), ("heap", v2)]) ∧ Pd K H v1 s ∧ Pd K H v2 h
section
variable {P : Program} {w : World} {K : PySem.W.Frag} {mg : Str → Option Value} {base : Heap} {C BR : Addr} {σ : L2.St} {H : Hp} {tr : TA} {E : XK} {v1 v2 : V} {d1 d2 : PyData}
/-- State(a, b), all right -/
theorem evd_state (ha : EvA tr σ H [v1, v2]) (h1 : Dp K H v1 d1) (h2 : Dp K H v2 d2) (ht : RowsTxt (asTup d1)) (hs : storeD (asTup d1) = true) (hh : heapD (asTup d2) = true) :
    EvD (tMake C (spSInit K C BR) [] E tr) σ H (fun w H1 => ∃ a, w = .ref a ∧ StAt K H1 C a (asTup d1) (asTup d2) ∧ (((tupD d1).isSome = true → Pd K H v1 d1) → ((tupD d2).isSome = true → Pd K H v2 d2) → StPd K H1 C a (asTup d1) (asTup d2))) := fun H1 e Q q =>
  ha H1 e _ fun H2 e2 x dx hx hdx ne => by
    have e12 := e.trans e2
    have E3 : Ex H2 (upd (upd H2 dx (.own x)) x (.ins C dx [])) := (Ex.new hdx).trans (Ex.new (by rw [upd_ne (Ne.symm ne)]; exact hx))
    have E03 := e12.trans E3
    refine ⟨x, dx, v1, v2, d1, d2, rfl, upd_same, Dp.ext E03 h1, Dp.ext E03 h2, ht, (fun z => by rw [hs] at z; cases z), (fun _ z => by rw [hh] at z; cases z), fun _ _ w1 w2 H' kp q1 q2 p1 p2 hx' => ⟨rfl, ?_⟩⟩
    have E4 : Ex H2 H' := fun b o hb => kp b o (E3 b o hb) (fun z => by rw [z, hx] at hb; cases hb)
    exact q _ _ (e2.trans E4) ⟨x, rfl, ⟨dx, w1, w2, hx', q1, q2⟩, fun z1 z2 => ⟨dx, w1, w2, hx', p1 fun t => (z1 t).ext E03, p2 fun t => (z2 t).ext E03⟩⟩
/-- State(a, b) raises -/
theorem rx_state1 (ha : EvA tr σ H [v1, v2]) (h1 : Dp K H v1 d1) (h2 : Dp K H v2 d2) (ht : RowsTxt (asTup d1)) (hs : storeD (asTup d1) = false) (hR : Rs E H BR [("row", v1), ("what", .str "store")]) : Rx (tMake C (spSInit K C BR) [] E tr) σ H := fun H1 e Q =>
  ha H1 e _ fun H2 e2 x dx hx hdx ne => by
    have E3 : Ex H2 (upd (upd H2 dx (.own x)) x (.ins C dx [])) := (Ex.new hdx).trans (Ex.new (by rw [upd_ne (Ne.symm ne)]; exact hx))
    have E03 := (e.trans e2).trans E3
    exact ⟨x, dx, v1, v2, d1, d2, rfl, upd_same, Dp.ext E03 h1, Dp.ext E03 h2, ht, fun _ => hR.ext E03, (fun z => by rw [hs] at z; cases z), fun z => by rw [hs] at z; cases z⟩
theorem rx_state2 (ha : EvA tr σ H [v1, v2]) (h1 : Dp K H v1 d1) (h2 : Dp K H v2 d2) (ht : RowsTxt (asTup d1)) (hs : storeD (asTup d1) = true) (hh : heapD (asTup d2) = false) (hR : Rs E H BR [("row", v2), ("what", .str "heap")]) : Rx (tMake C (spSInit K C BR) [] E tr) σ H := fun H1 e Q =>
  ha H1 e _ fun H2 e2 x dx hx hdx ne => by
    have E3 : Ex H2 (upd (upd H2 dx (.own x)) x (.ins C dx [])) := (Ex.new hdx).trans (Ex.new (by rw [upd_ne (Ne.symm ne)]; exact hx))
    have E03 := (e.trans e2).trans E3
    exact ⟨x, dx, v1, v2, d1, d2, rfl, upd_same, Dp.ext E03 h1, Dp.ext E03 h2, ht, (fun z => by rw [hs] at z; cases z), (fun _ _ => hR.ext E03), fun _ z => by rw [hh] at z; cases z⟩
def spLState (K : PySem.W.Frag) (C : Addr) : Sp := fun vs H Q _ => ∃ t v1 v2 d1 d2, vs = [.ref t] ∧ SqT K H t [v1, v2] ∧ Dp K H v1 d1 ∧ Dp K H v2 d2 ∧ RowsTxt (asTup d1) ∧ storeD (asTup d1) = true ∧ heapD (asTup d2) = true ∧ ∀ a H', Ex H H' → StAt K H' C a (asTup d1) (asTup d2) → Q (.ref a) H'
theorem ok_law_state (B : Bi mg) (m_State : Mkr P w K mg base (L2.CX P w) 5 "State" C ["self", "store", "heap"] (spSInit K C BR)) (D : Df K mg "_law_state" s__law_state ["state"]) : Gv P w K mg base CX0 7 "_law_state" ["state"] (spLState K C) := by
  refine D.gv sc__law_state (fun vs H Q E h => ?_) (fun f cdv A outer s H vs Q E hr h => ⟨_, (pss_one (ps_ret (pe_mk m_State hr rfl passE0 (pa_cons (pe_ix (r := rIx K) ix_seq (pv 0) pe_int (fun _ _ => rfl)) (pa_cons (pe_ix (r := rIx K) ix_seq (pv 0) pe_int (fun _ _ => rfl)) pa_nil))))), ?_⟩)
  · obtain ⟨t, v1, v2, d1, d2, rfl, _⟩ := h
    rfl
  obtain ⟨t, v1, v2, d1, d2, rfl, ht, h1, h2, h3, h4, h5, hQ⟩ := h
  exact sd_ret (evd_state (ea_cons (ev_op (ev_var rfl) ev_c (rv_iT ht (i := 0) rfl)) (ea_cons (ev_op (ev_var rfl) ev_c (rv_iT ht (i := 1) rfl)) ea_nil)) h1 h2 h3 h4 h5) (fun w H1 e1 ⟨a, hw, hst, _⟩ => by rw [hw]; exact hQ a H1 e1 hst)
def spLPlain (K : PySem.W.Frag) (C : Addr) : Sp := fun vs H Q _ => ∃ a d1 d2, vs = [.ref a] ∧ StAt K H C a d1 d2 ∧ ∀ v H', Ex H H' → Dp K H' v (.tuple [d1, d2]) → Q v H'
theorem ok_plain_state (B : Bi mg) (k_State : Kl K mg "State" C SF) (D : Df K mg "_law_plain_state" s__law_plain_state ["told"]) : Gv P w K mg base CX0 1 "_law_plain_state" ["told"] (spLPlain K C) := by
  refine D.gv sc__law_plain_state (fun vs H Q E h => ?_) (fun f cdv A outer s H vs Q E hr h => ⟨_, (pss_one (ps_ret (pe_ifExp (pt_val (pe_callB (id := "isinstance") (r := rIsi K) call_isi rfl B.isi (by decide +kernel) (pa_cons (pv 0) (pa_cons (pe_glob (v := .ref _) rfl k_State.g rfl) pa_nil)))) (pe_tup (pa_cons (pe_fld (pv 0) rfl) (pa_cons (pe_fld (pv 0) rfl) pa_nil))) pe_non))), ?_⟩)
  · obtain ⟨a, d1, d2, rfl, _⟩ := h
    rfl
  obtain ⟨a, d1, d2, rfl, ⟨dx, v1, v2, ha, h1, h2⟩, hQ⟩ := h
  refine sd_ret (evd_if (b := true) (et_B (ev_isiS k_State (ev_var rfl) ha)) (fun _ => ?_) (fun z => nomatch z)) (fun w H1 e1 p => hQ w H1 e1 p)
  exact fun H1 e Q q => eu_tup (ea_cons (ev_fld k_State (by decide) (ev_var rfl) ha rfl) (ea_cons (ev_fld k_State (by decide) (ev_var rfl) ha rfl) ea_nil)) (show 2 ≤ 100000 by decide) H1 e Q fun p H2 hp e2 h => q _ _ e2 (.tup (st_of h) (.cons (Dp.ext (e.trans e2) h1) (.cons (Dp.ext (e.trans e2) h2) .nil)))
theorem perm_pop {α : Type} {ls : List α} {k : Nat} (h : k < ls.length) : ([ls[k]] ++ ls.eraseIdx k).Perm ls := by
  rw [List.eraseIdx_eq_take_drop_succ]
  have e : ls = ls.take k ++ ls[k] :: ls.drop (k + 1) := by
    rw [← List.drop_eq_getElem_cons h, List.take_append_drop]
  have h2 : (ls[k] :: (ls.take k ++ ls.drop (k + 1))).Perm (ls.take k ++ ls[k] :: ls.drop (k + 1)) := List.perm_middle.symm
  rw [← e] at h2
  exact h2
def spShuf (K : PySem.W.Frag) : Sp := fun vs H Q _ => ∃ (p : Addr × Addr) (l : Addr) (xs : List V), vs = [.ref p.1, .ref l] ∧ Pen H p ∧ SqL K H l xs ∧ xs.length ≤ 1000 ∧ ∀ (ys : List V) m H', ys.Perm xs → H m = none → Px p H H' → H' m = some (.lst ys) → Q (.ref m) H'
theorem ok_shuffled (B : Bi mg) (g__law_draw : Gv P w K mg base CX0 1 "_law_draw" ["pen", "many"] spDraw) (D : Df K mg "_law_shuffled" s__law_shuffled ["pen", "some"]) : Gv P w K mg base CX0 2 "_law_shuffled" ["pen", "some"] (spShuf K) := by
  have nd := sc__law_shuffled.nd
  refine D.gv sc__law_shuffled (fun vs H Q E h => ?_) (fun f cdv A outer s H vs Q E hr h => ⟨_, (pss_cons (ps_par (i := 2) (j := 3) rfl nd rfl rfl (by decide) rfl rfl (pa_cons (pe_callTy (r := rListA K) (callA_list rfl) rfl B.list (by decide +kernel) (pa_cons (pv 1) pa_nil)) (pa_cons (pe_lst pa_nil) pa_nil)) rfl)
    (pss_cons (ps_for PassesOwn.never rfl (pi_range1 rfl B.range (pa_cons (pe_callB (r := rLen K) callA_len rfl B.len (by decide +kernel) (pa_cons (pv 1) pa_nil)) pa_nil)) (pg_name (i := 4) nd rfl (.inl rfl)) (pss_one (ps_expr (pe_bmK (K := K) rfl PySem.F.plainAttrs_list PySem.F.slot_list_append PySem.F.type_list_append mt_append (pv 3) (pa_cons (pe_bmK (K := K) rfl PySem.F.plainAttrs_list PySem.F.slot_list_pop PySem.F.type_list_pop mt_popAt (pv 2) (pa_cons (pe_cg g__law_draw hr rfl pass0 (pa_cons (pv 0) (pa_cons (pe_callB (r := rLen K) callA_len rfl B.len (by decide +kernel) (pa_cons (pv 2) pa_nil)) pa_nil))) pa_nil)) pa_nil)))))
    (pss_one (ps_ret (pv 3))))), ?_⟩)
  · obtain ⟨p, l, xs, rfl, _⟩ := h
    rfl
  obtain ⟨p, l, xs, rfl, hp, hl, hz, hQ⟩ := h
  refine q_parLL (el_listL (K := K) (ev_var rfl) hl) (el_lst ea_nil (Nat.zero_le _)) (fun a b H1 ha hb hab e1 h1 h2 => ?_)
  refine q_forR1 (n := (xs.length : Int)) (ea_cons (ev_lenL (ev_var rfl) (ex_l e1 hl)) ea_nil) ⟨by omega, by omega⟩ (fun i σ' H' => ∃ o ls fs, σ' = [some (.ref p.1), some (.ref l), some (.ref a), some (.ref b), o] ∧ Px p H H' ∧ H' a = some (.lst ls) ∧ H' b = some (.lst fs) ∧ (fs ++ ls).Perm xs ∧ fs.length = i)
    (fun H2 e2 => ⟨none, xs, [], rfl, Px.of hp (e1.trans e2), e2 _ _ h1, e2 _ _ h2, List.Perm.refl _, rfl⟩) (fun i σ' H' hi p' => ?_) (fun σ' H' p' => ?_)
  · obtain ⟨o, ls, fs, rfl, hx, hls, hfs, hperm, hn⟩ := p'
    have hlen : fs.length + ls.length = xs.length := by rw [← List.length_append]; exact hperm.length_eq
    have hlt : i < xs.length := by omega
    have hap : a ≠ p.1 := fun z => by
      obtain ⟨kvs, hk⟩ := hp.get
      rw [z, hk] at ha
      cases ha
    have hbp : b ≠ p.1 := fun z => by
      obtain ⟨kvs, hk⟩ := hp.get
      rw [z, hk] at hb
      cases hb
    refine s_appG (ev_var rfl) (sq_of hfs) (fun H2 e2 => t_pop (ev_var rfl) (sq_of (e2 _ _ hls)) fun H3 e3 => ?_)
    have x3 := hx.ex (e2.trans e3)
    refine er_draw (σ := [some (.ref p.1), some (.ref l), some (.ref a), some (.ref b), some (.int (i : Int))]) (p := p) (m := (ls.length : Int)) (fun H4 x4 Q q => (ev_var (i := 0) rfl) H4 (Ex.refl H4) _ fun H5 e5 => (ev_lenL (K := K) (ev_var (i := 2) rfl) (sq_of (x4.at_ x3.pen ((e2.trans e3) _ _ hls) (fun _ z => nomatch z)))) H5 e5 _ fun H6 e6 => q _ _ (Px.of x4.pen (e5.trans e6)) rfl) (by omega) (by omega) H3 (Px.refl x3.pen) _ fun v H4 x4 hv => ?_
    obtain ⟨r, rfl, r0, r1⟩ := hv
    have hr2 : r.toNat < ls.length := by omega
    have hls4 : H4 a = some (.lst ls) := x4.at_ x3.pen ((e2.trans e3) _ _ hls) (fun _ z => nomatch z)
    have hfs4 : H4 b = some (.lst fs) := x4.at_ x3.pen ((e2.trans e3) _ _ hfs) (fun _ z => nomatch z)
    have x04 := x3.trans x4
    refine ⟨ls, r, r.toNat, ls[r.toNat], rfl, hls4, by omega, by omega, ?_, List.getElem?_eq_getElem hr2, ?_⟩
    · unfold seqIndex?
      simp
      omega
    have hb5 : upd H4 a (.lst (ls.eraseIdx r.toNat)) b = some (.lst fs) := by rw [upd_ne (Ne.symm hab)]; exact hfs4
    refine ⟨fs, hb5, sz_lt (by omega), ?_⟩
    refine ⟨_, ls.eraseIdx r.toNat, fs ++ [ls[r.toNat]], rfl, Px.put hp (Px.put hp x04 ha) hb, by rw [upd_ne hab, upd_same], upd_same, ?_, by rw [List.length_append]; simp [hn]⟩
    refine List.Perm.trans ?_ hperm
    rw [List.append_assoc]
    exact List.Perm.append_left fs (perm_pop hr2)
  · obtain ⟨o, ls, fs, rfl, hx, hls, hfs, hperm, hn⟩ := p'
    have hlen : fs.length + ls.length = xs.length := by rw [← List.length_append]; exact hperm.length_eq
    have hn2 : fs.length = xs.length := by
      rw [hn]
      simp
    have hl0 : ls = [] := List.length_eq_zero_iff.mp (by omega)
    rw [hl0, List.append_nil] at hperm
    exact s_ret (ev_var rfl) fun H2 e2 => hQ fs b H2 hperm hb (hx.ex e2) (e2 _ _ hfs)
end
end Kb
set_option Elab.async false
set_option linter.all false
set_option maxRecDepth 100000
set_option maxHeartbeats 4000000
namespace Kb
open PySem PySem.Spec PyProof.Rows L2 LamX Evl
def base6 : List Str := ["x", "y", "z", "b12", "next", "result"]
structure NG (zs : List Str) : Prop where
  ne : zs ≠ []
  len : zs.length ≤ 4
  mem : ∀ z ∈ zs, z ∈ base6
  asc : zs.Pairwise (fun a b => leS a b ∧ a ≠ b)
def spNames (K : PySem.W.Frag) : Sp := fun vs H Q _ => ∃ (p : Addr × Addr), vs = [.ref p.1, .int 4] ∧ Pen H p ∧ ∀ zs t H', NG zs → Px p H H' → SqP H' t (zs.map V.str) → Q (.ref t) H'
section
variable {P : Program} {w : World} {K : PySem.W.Frag} {mg : Str → Option Value} {base : Heap}
theorem ok_drawn_names (B : Bi mg) (g__law_draw : Gv P w K mg base CX0 1 "_law_draw" ["pen", "many"] spDraw) (g__law_pick : Gv P w K mg base CX0 2 "_law_pick" ["pen", "some"] (spPick K)) (g__law_unlike : Gv P w K mg base CX0 1 "_law_unlike" ["row"] (spUnlike K)) (D : Df K mg "_law_drawn_names" s__law_drawn_names ["pen", "most"]) :
    Gv P w K mg base CX0 3 "_law_drawn_names" ["pen", "most"] (spNames K) := by
  have nd := sc__law_drawn_names.nd
  refine D.gv sc__law_drawn_names (fun vs H Q E h => ?_) (fun f cdv A outer s H vs Q E hr h => ⟨_, (pss_cons (ps_set (i := 2) nd rfl (.inr rfl) (pe_lst (pa_cons pe_str (pa_cons pe_str (pa_cons pe_str (pa_cons pe_str (pa_cons pe_str (pa_cons pe_str pa_nil))))))))
    (pss_one (ps_ret (pe_callTy (r := rTupP K) call_tupleP rfl B.tuple (by decide +kernel) (pa_cons (pe_cg g__law_unlike hr rfl pass0 (pa_cons (pe_lc (own := [("lap", 3)]) rfl nd (pi_range1 rfl B.range (pa_cons (pe_op (r := rAdd K) opA_add pe_int (pe_cg g__law_draw hr rfl pass0 (pa_cons (pv 0) (pa_cons (pv 1) pa_nil)))) pa_nil)) (blk_ok (by kernel_rfl)) (fun _ _ _ _ _ => (pg_name (i := 3) nd rfl (.inl rfl))) (fun _ _ _ _ _ => pts_nil) (fun _ _ _ _ _ => (by exact (pe_cg g__law_pick hr rfl pass0 (pa_cons (pv 0) (pa_cons (pv 2) pa_nil)))))) pa_nil)) pa_nil))))), ?_⟩)
  · obtain ⟨p, rfl, _⟩ := h
    rfl
  obtain ⟨p, rfl, hp, hQ⟩ := h
  refine q_asgL (xs := base6.map V.str) (el_lst (ea_cons ev_c (ea_cons ev_c (ea_cons ev_c (ea_cons ev_c (ea_cons ev_c (ea_cons ev_c ea_nil)))))) (show 6 ≤ 100000 by decide)) (fun l H1 hl e1 h1 => ?_)
  have hp1 := hp.same e1
  refine sr_ret hp1 (erd_tupL (Ψ := fun xs _ => ∃ zs, xs = zs.map V.str ∧ NG zs) (erl_callL (Ψ := fun xs H2 => ∃ n : Nat, (1 ≤ (n : Int) ∧ (n : Int) ≤ 4) ∧ each (fun _ v _ => v ∈ base6.map V.str) n xs H2) (erl_lcR (Nn := fun n => 1 ≤ n ∧ n ≤ 4) ((era1 (er_op1 (f := fun z => ∃ n : Int, z = .int n ∧ 1 ≤ n ∧ n ≤ 4) (fun H2 x2 => ev_c) (er_draw (m := 4) (er_eva fun H2 x2 => ea_cons (ev_var rfl) (ea_cons (ev_var rfl) ea_nil)) (by decide) (by decide)) (fun y H2 x2 ⟨r, hr, r0, r1⟩ => ⟨.int (1 + r), by rw [hr]; exact rv_add, 1 + r, rfl, by omega, by omega⟩))).imp (fun vs H2 x2 ⟨v, hv, n, hn, n1, n4⟩ => ⟨n, by rw [hv, hn], by omega, by omega, n1, n4⟩))
      (fun _ => rfl) (fun _ _ => et_true fun _ _ _ q => q) (fun i => Stb.pure fun v => v ∈ base6.map V.str) (fun i => er_pick hp1 (er_eva fun H2 x2 => ea_cons (ev_var rfl) (ea_cons (ev_var rfl) ea_nil)) (sq_of h1) (by decide) (by decide)))
      (fun m xs H2 x2 h2 ⟨n, hn, ha⟩ Q q => ?_)) (fun vs H1 H2 _ _ h => h)) (fun v H2 x2 ⟨t, xs, hv, ht, zs, hz, hg⟩ => ?_)
  · obtain ⟨ys, rfl, hlen, hmem⟩ := each_strs ha
    refine ⟨m, rfl, .inr ⟨ys, sq_of h2, by omega, fun zs l2 H3 z1 z2 z3 z4 z5 z6 => q l2 _ H3 z4 (Px.of x2.pen z5) z6 ⟨zs, rfl, ?_, by omega, fun z hz => hmem z ((z1 z).mp hz), z3⟩⟩⟩
    intro z0
    cases ys with
    | nil =>
      simp only [List.length_nil] at hlen
      omega
    | cons y r =>
      have := (z1 y).mpr List.mem_cons_self
      rw [z0] at this
      cases this
  · rw [hv]
    rw [hz] at ht
    exact hQ zs t H2 hg ((Px.of hp e1).trans x2) ht
end
end Kb
set_option Elab.async false
set_option linter.all false
set_option maxRecDepth 100000
set_option maxHeartbeats 4000000
namespace Kb
open PySem PySem.Spec PyProof.Rows L2 LamX Evl
/-- the rows of a drawn heap -/
structure CellsOk (cells : List (Int × Int)) : Prop where
  asc : (cells.map (·.1)).Pairwise (· < ·)
  rng : ∀ c ∈ cells, 1 ≤ c.1 ∧ c.1 ≤ 12
  vals : ∀ c ∈ cells, 0 ≤ c.2 ∧ c.2 ≤ 15
  len : cells.length ≤ 5
structure GS (zs : List Str) (ns : List (Key × Int)) (cells : List (Int × Int)) : Prop extends CellsOk cells where
  keys : ns.map (·.1) = zs.map Sum.inr
  nvals : ∀ q ∈ ns, 0 ≤ q.2 ∧ q.2 ≤ 15
def spDState (K : PySem.W.Frag) : Sp := fun vs H Q _ => ∃ (p : Addr × Addr) (tn : Addr) (zs : List Str), vs = [.ref p.1, .ref tn, .int 5] ∧ Pen H p ∧ SqT K H tn (zs.map V.str) ∧ zs.length ≤ 4 ∧
  ∀ v ns cells H', GS zs ns cells → Px p H H' → LS K H' v ns (cells.map cI) → Q v H'
section
variable {K : PySem.W.Frag} {σ : L2.St} {H : Hp} {p : Addr × Addr} {xs : List V} {ta : TE} {l : Addr} {ss as : List Int}
theorem each_rows {α : Type} (f : α → Key × Int) (G : Nat → α → Prop) : ∀ (xs : List V) (k : Nat), (∀ (i : Nat) x, xs[i]? = some x → ∃ c, G (k + i) c ∧ Dp K H x (rowD (f c))) →
    ∃ cs : List α, DpAll K H xs (cs.map fun c => rowD (f c)) ∧ cs.length = xs.length ∧ ∀ (i : Nat) c, cs[i]? = some c → G (k + i) c
  | [], _, _ => ⟨[], .nil, rfl, fun i c h => by simp at h⟩
  | x :: r, k, h => by
    obtain ⟨c, hc, hd⟩ := h 0 x rfl
    obtain ⟨cs, h1, h2, h3⟩ := each_rows f G r (k + 1) fun i y hy => by
      have := h (i + 1) y (by simpa using hy)
      rw [show k + 1 + i = k + (i + 1) by omega]
      exact this
    refine ⟨c :: cs, .cons hd h1, by rw [List.length_cons, List.length_cons, h2], fun i c' hc' => ?_⟩
    cases i with
    | zero =>
      simp at hc'
      subst hc'
      exact hc
    | succ i =>
      have := h3 i c' (by simpa using hc')
      rw [show k + (i + 1) = k + 1 + i by omega]
      exact this
/-- (key, a pick of the numbers) -/
theorem er_row {E : XK} (key : Key) (hp : Pen H p) (hσ0 : σ[0]? = some (some (.ref p.1))) (hσ4 : σ[4]? = some (some (.ref l))) (ha : ∀ H1, Px p H H1 → Ev ta σ H1 (kV key)) (hs : SqL K H l (ss.map V.int)) (h0 : 0 < ss.length) (h1 : ss.length ≤ 1000) :
    ErD p (tTup (tCons ta (tCons (tCall (spPick K) [] E (tCons (tVar 0) (tCons (tVar 4) tNil))) tNil))) σ H (isD K fun d => ∃ j, d = rowD (key, j) ∧ j ∈ ss) := by
  have hpk : ErD p (tCall (spPick K) [] E (tCons (tVar 0) (tCons (tVar 4) tNil))) σ H (fun v _ => v ∈ ss.map V.int) := er_pick hp (er_eva fun H1 x1 => ea_cons (ev_var hσ0) (ea_cons (ev_var hσ4) ea_nil)) hs (by rw [List.length_map]; exact h0) (by rw [List.length_map]; omega)
  refine (erd_tup (Ψ := fun vs _ => ∃ j ∈ ss, vs = [kV key, .int j]) ((era_cons (er_ev ha) (era1 hpk) (fun _ _ _ _ _ h => h)).imp fun vs H1 x1 ⟨v, r, e, hv, w, hr, hw⟩ => ?_) (fun vs H1 ⟨j, _, e⟩ => by rw [e]; exact (by decide : 2 ≤ 100000)) (fun _ _ _ _ _ h => h)).imp fun v H1 x1 ⟨t, vs, hv, ht, j, hj, e⟩ => ?_
  · obtain ⟨j, hj, ej⟩ := List.mem_map.mp hw
    exact ⟨j, hj, by rw [e, hv, hr, ← ej]⟩
  · rw [e] at ht
    refine ⟨rowD (key, j), ?_, ?_, j, rfl, hj⟩
    · rw [hv]
      refine .tup (st_of ht) (.cons ?_ (.cons (.int j) .nil))
      cases key
      · exact .int _
      · exact .str _
    · cases key <;> rfl
theorem erl_shuf {E : XK} {tr : TA} (hp : Pen H p) (h : ErA p tr σ H (fun vs _ => vs = [.ref p.1, .ref l])) (hl : SqL K H l xs) (hz : xs.length ≤ 1000) : ErL p (tCall (spShuf K) [] E tr) σ H (fun ys _ => ys.Perm xs) := fun H1 x1 Q q =>
  h H1 x1 _ fun vs H2 x2 e => by
    subst e
    exact ⟨p, l, xs, rfl, x2.pen, (x1.trans x2).l hp hl, hz, fun ys m H' hperm hm x8 h8 => q m ys H' (Px.fresh x1.pen x2 hm) (x2.trans x8) h8 hperm⟩
theorem sqp_pd {t : Addr} {cs : List (Key × Int)} (h : SqP H t xs) (hd : DpAll K H xs (cs.map rowD)) : Pd K H (.ref t) (rowsD cs) := ⟨t, xs, _, rfl, rfl, h, hd⟩
variable {P : Program} {w : World} {mg : Str → Option Value} {base : Heap}
theorem ok_drawn_state (B : Bi mg) (g__law_draw : Gv P w K mg base CX0 1 "_law_draw" ["pen", "many"] spDraw) (g__law_pick : Gv P w K mg base CX0 2 "_law_pick" ["pen", "some"] (spPick K)) (g__law_unlike : Gv P w K mg base CX0 1 "_law_unlike" ["row"] (spUnlike K)) (g__law_shuffled : Gv P w K mg base CX0 2 "_law_shuffled" ["pen", "some"] (spShuf K))
    (D : Df K mg "_law_drawn_state" s__law_drawn_state ["pen", "names", "cells"]) : Gv P w K mg base CX0 3 "_law_drawn_state" ["pen", "names", "cells"] (spDState K) := by
  have nd := sc__law_drawn_state.nd
  refine D.gv sc__law_drawn_state (fun vs H Q E h => ?_) (fun f cdv A outer s H vs Q E hr h => ?_)
  · obtain ⟨p, tn, zs, rfl, _⟩ := h
    rfl
  have hu64 := hu64_of hr
  refine ⟨_, (pss_cons (ps_set (i := 3) nd rfl (.inl rfl) (pe_cg g__law_unlike hr rfl pass0 (pa_cons (pe_lc (own := [("lap", 7)]) rfl nd (pi_range1 rfl B.range (pa_cons (pe_cg g__law_draw hr rfl pass0 (pa_cons (pv 0) (pa_cons (pe_op (r := rAdd K) opA_add (pv 2) pe_int) pa_nil))) pa_nil)) (blk_ok (by kernel_rfl)) (fun _ _ _ _ _ => (pg_name (i := 7) nd rfl (.inl rfl))) (fun _ _ _ _ _ => pts_nil) (fun _ _ _ _ _ => (by exact (pe_op (r := rAdd K) opA_add pe_int (pe_cg g__law_draw hr rfl pass0 (pa_cons (pv 0) (pa_cons (pe_op (r := rAdd K) opA_add (pe_op opA_mul pe_int (pv 2)) pe_int) pa_nil))))))) pa_nil)))
    (pss_cons (ps_set (i := 4) nd rfl (.inr rfl) (pe_op (r := rAdd K) opA_add (pe_op (r := rAdd K) opA_add (pe_lst (pa_cons pe_int pa_nil)) (pv 3)) (pe_lst (pa_cons (pe_cg g__law_pick hr rfl pass0 (pa_cons (pv 0) (pa_cons (pe_lst (pa_cons pe_int (pa_cons pe_int (pa_cons (pe_op (r := rAdd K) opA_add (pe_op opA_mul pe_int (pv 2)) pe_int) pa_nil)))) pa_nil))) pa_nil))))
    (pss_cons (ps_set (i := 5) nd rfl (.inl rfl) (pe_callTy (r := rTupP K) call_tupleP rfl B.tuple (by decide +kernel) (pa_cons (pe_lc (own := [("address", 8)]) rfl nd (piA_seq (pv 3)) (blk_ok (by kernel_rfl)) (fun _ _ _ _ _ => (pg_name (i := 8) nd rfl (.inl rfl))) (fun _ _ _ _ _ => pts_nil) (fun _ _ _ _ _ => (by exact (pe_tup (pa_cons (pv 8) (pa_cons (pe_cg g__law_pick hr rfl pass0 (pa_cons (pv 0) (pa_cons (pv 4) pa_nil))) pa_nil)))))) pa_nil)))
    (pss_cons (ps_if (PW.pt (pw_and (pt_cmpR (r := rNeA K) (opA_ne hu64) (pv 3) (pe_lst pa_nil) (nomark _)) (pw_and1 (pt_cmpR (r := rEqA K) (opA_eq hu64) (pe_cg g__law_draw hr rfl pass0 (pa_cons (pv 0) (pa_cons pe_int pa_nil))) pe_int (nomark _))))) (pss_cons (ps_set (i := 6) nd rfl (.inl rfl) (pe_cg g__law_shuffled hr rfl pass0 (pa_cons (pv 0) (pa_cons (pv 3) pa_nil))))
    (pss_one (ps_set (i := 5) nd rfl (.inl rfl) (pe_callTy (r := rTupP K) call_tupleP rfl B.tuple (by decide +kernel) (pa_cons (pe_callB (r := rSortA K) (callA_sorted rfl) rfl B.sorted (by decide +kernel) (pa_cons (pe_lc (own := [("one", 9), ("other", 10)]) rfl nd (pi_zip rfl B.zip (pa_cons (pv 6) (pa_cons (pe_op (r := rAdd K) opA_add (pe_slice (r := rSl K) slA (pv 6) (po_some pe_int) po_none) (pe_lst (pa_cons (pe_cg g__law_pick hr rfl pass0 (pa_cons (pv 0) (pa_cons (pe_lst (pa_cons pe_int (pa_cons pe_int (pa_cons (pe_ix (r := rIx K) ix_seq (pv 6) pe_int (fun _ _ => rfl)) (pa_cons pe_int pa_nil))))) pa_nil))) pa_nil))) pa_nil))) (blk_ok (by kernel_rfl)) (fun _ _ _ _ _ => (pgK_tup (K := K) (n := 2) rfl rfl (pgs_cons (pg_name (i := 9) nd rfl (.inl rfl)) (pgs_cons (pg_name (i := 10) nd rfl (.inl rfl)) pgs_nil)))) (fun _ _ _ _ _ => pts_nil) (fun _ _ _ _ _ => (pe_tup (pa_cons (pv 9) (pa_cons (pv 10) pa_nil))))) pa_nil)) pa_nil))))) pss_nil)
    (pss_one (ps_ret (pe_tup (pa_cons (pe_callTy (r := rTupP K) call_tupleP rfl B.tuple (by decide +kernel) (pa_cons (pe_lc (own := [("name", 11)]) rfl nd (piA_seq (pv 1)) (blk_ok (by kernel_rfl)) (fun _ _ _ _ _ => (pg_name (i := 11) nd rfl (.inl rfl))) (fun _ _ _ _ _ => pts_nil) (fun _ _ _ _ _ => (by exact (pe_tup (pa_cons (pv 11) (pa_cons (pe_cg g__law_pick hr rfl pass0 (pa_cons (pv 0) (pa_cons (pv 4) pa_nil))) pa_nil)))))) pa_nil)) (pa_cons (pv 5) pa_nil))))))))), ?_⟩
  obtain ⟨p, tn, zs, rfl, hp, hn, hzl, hQ⟩ := h
  -- addresses
  refine qr_asgL hp (erl_callL (Ψ' := fun xs _ => ∃ as : List Int, xs = as.map V.int ∧ as.Pairwise (· < ·) ∧ (∀ a ∈ as, 1 ≤ a ∧ a ≤ 12) ∧ as.length ≤ 5) (erl_lcR (Nn := fun n => 0 ≤ n ∧ n ≤ 5) (F := fun _ v _ => ∃ i, v = .int i ∧ 1 ≤ i ∧ i ≤ 12)
    ((era1 (er_draw (m := 6) (er_eva fun H2 x2 => ea_cons (ev_var rfl) (ea_cons (ev_op (ev_var rfl) ev_c rv_add) ea_nil)) (by decide) (by decide))).imp (fun vs H2 x2 ⟨v, hv, n, hn, n0, n5⟩ => ⟨n, by rw [hv, hn], by omega, by omega, by omega, by omega⟩))
    (fun _ => rfl) (fun _ _ => et_true fun _ _ _ q => q) (fun i => Stb.pure fun v => ∃ i, v = .int i ∧ 1 ≤ i ∧ i ≤ 12)
    (fun i => er_op1 (f := fun z => ∃ i, z = .int i ∧ 1 ≤ i ∧ i ≤ 12) (fun H2 x2 => ev_c) (er_draw (m := 12) (er_eva fun H2 x2 => ea_cons (ev_var rfl) (ea_cons (ev_op (ev_op ev_c (ev_var rfl) (rv_l (rv_I (Or.inr (by decide))))) ev_c rv_add) ea_nil)) (by decide) (by decide)) (fun y H2 x2 ⟨r, hr, r0, r1⟩ => ⟨.int (1 + r), by rw [hr]; exact rv_add, 1 + r, rfl, by omega, by omega⟩)))
    (fun m xs H2 x2 h2 ⟨n, hnn, ha⟩ Q q => ?_)) (fun la xs H1 hla x1 h1 ⟨as, hxs, asc, rng, alen⟩ => ?_)
  · obtain ⟨ys, rfl, hlen, hf⟩ := each_ints ha
    refine ⟨m, rfl, .inl ⟨ys, sq_of h2, by omega, fun l2 H3 hl3 e3 h3 => q l2 _ H3 hl3 (Px.of x2.pen e3) h3 ⟨uniqI ys, rfl, uniq_lt ys, fun a ha => hf a ((uniq_mem ys a).mp ha), ?_⟩⟩⟩
    have h1 := (srt_perm (ddI [] ys)).length_eq
    have h2 := dd_len ys []
    unfold uniqI
    simp only [List.length_nil] at h2
    omega
  subst hxs
  have hp1 := x1.pen
  have hn1 := x1.t hp hn
  -- the numbers to pick from
  refine qr_asgL hp1 (erl_catL (Ψ := fun ys _ => ∃ x : Int, ys = [.int x] ∧ 0 ≤ x ∧ x ≤ 15) (xs := [.int 0] ++ as.map V.int) (fun H2 x2 => el_catNH (el_lst (ea_cons ev_c ea_nil) (by decide)) (ev_var rfl) (x2.at_ hp1 h1 (fun _ z => nomatch z)) (by simp; omega))
    (erl_lst ((era1 (er_pickL (Ψ := fun xs _ => xs = [.int 3, .int 9, .int 15]) (fun H2 x2 => ev_var rfl) (er_evl fun H2 x2 => el_is (el_lst (ea_cons ev_c (ea_cons ev_c (ea_cons (ev_op (ev_op ev_c (ev_var rfl) (rv_l (rv_I (Or.inr (by decide))))) ev_c rv_add) ea_nil))) (by decide)) rfl) (fun _ _ _ _ _ h => h) (fun xs H2 h => by rw [h]; exact ⟨by decide, by decide⟩))).imp (fun vs H2 x2 ⟨v, hv, xs, hxs, hm⟩ => ?_)) (fun vs H2 ⟨x, e, _⟩ => by rw [e]; exact (by decide : 1 ≤ 100000)) (fun _ _ _ _ _ h => h)) (fun ys H2 ⟨x, e, _⟩ => by rw [e]; simp; omega) (fun _ _ _ _ _ h => h)) (fun ls xs H2 hls x2 h2 ⟨ys, hys, x, hx, x0, x15⟩ => ?_)
  · rw [hxs] at hm
    simp only [List.mem_cons, List.not_mem_nil, or_false] at hm
    rcases hm with rfl | rfl | rfl
    · exact ⟨3, hv, by decide, by decide⟩
    · exact ⟨9, hv, by decide, by decide⟩
    · exact ⟨15, hv, by decide, by decide⟩
  obtain ⟨ss, hss⟩ : ∃ ss : List Int, ss = 0 :: (as ++ [x]) := ⟨_, rfl⟩
  have h2 : H2 ls = some (.lst (ss.map V.int)) := by
    rw [h2, hys, hx, hss]
    simp
  have hss0 : 0 < ss.length := by rw [hss]; simp
  have hss1 : ss.length ≤ 1000 := by rw [hss]; simp; omega
  have hssv : ∀ j ∈ ss, 0 ≤ j ∧ j ≤ 15 := fun j hj => by
    rw [hss] at hj
    simp only [List.mem_cons, List.mem_append, List.not_mem_nil, or_false] at hj
    rcases hj with rfl | hj | rfl
    · omega
    · have := rng j hj
      omega
    · omega
  have hp2 := x2.pen
  have h1' : H2 la = some (.lst (as.map V.int)) := x2.at_ hp1 h1 (fun _ z => nomatch z)
  have hn2 := x2.t hp1 hn1
  have has : (as.map V.int).length = as.length := List.length_map ..
  -- the heap, first way
  have X2 := x1.trans x2
  refine qr_asg hp2 (Φ := fun v H3 => ∃ cells, CellsOk cells ∧ Pd K H3 v (rowsD (cells.map cI))) ((erd_tupL (erl_lcH (F := fun i => isD K fun d => ∃ j, d = rowD (.inl (as.getD i 0), j) ∧ j ∈ ss) hp2 (fun H3 x3 => ev_var rfl) (sq_of h1') (by rw [has]; omega) (fun _ => rfl) (fun _ _ => et_true fun _ _ _ q => q) (fun i => stb_isD) (fun i y hy => er_row (.inl (as.getD i 0)) hp2 rfl rfl (fun H3 x3 => ev_is (ev_var rfl) ?_) (sq_of h2) hss0 hss1))
    (fun vs H3 H4 x3 x4 h => each_px (fun i => stb_isD) x3.pen x4 h)).imp (fun v H3 x3 ⟨t, xs, hv, ht, ha⟩ => ?_)) (fun hv H3 x3 ⟨cells, hco, hcd⟩ => ?_)
  · rw [List.getElem?_map] at hy
    cases hq : as[i]? with
    | none => rw [hq] at hy; cases hy
    | some a =>
      rw [hq] at hy
      cases hy
      rw [getD_some hq]
      rfl
  · obtain ⟨cs, d1, d2, d3⟩ := each_rows (K := K) (H := H3) cI (fun i c => c.1 = as.getD i 0 ∧ c.2 ∈ ss) xs 0 (fun i y hy => by
      obtain ⟨d, hd, _, j, rfl, hj⟩ := ha.2 i y hy
      exact ⟨(as.getD i 0, j), by rw [Nat.zero_add]; exact ⟨rfl, hj⟩, hd⟩)
    have hcl : cs.length = as.length := by rw [d2, ha.1, has]
    have hfst : cs.map (·.1) = as := by
      apply List.ext_getElem?
      intro i
      rw [List.getElem?_map]
      cases hc : cs[i]? with
      | none =>
        have : as[i]? = none := by
          rw [List.getElem?_eq_none_iff] at hc ⊢
          omega
        rw [this]
        rfl
      | some c =>
        have hi : i < as.length := by
          rw [← hcl]
          exact (List.getElem?_eq_some_iff.mp hc).1
        have z := (d3 i c hc).1
        rw [Nat.zero_add] at z
        rw [List.getElem?_eq_getElem hi]
        show some c.1 = _
        rw [z]
        simp [hi]
    refine ⟨cs, ⟨by rw [hfst]; exact asc, fun c hc => rng c.1 (by rw [← hfst]; exact List.mem_map.mpr ⟨c, hc, rfl⟩), fun c hc => ?_, by omega⟩, ?_⟩
    · obtain ⟨i, hi⟩ := List.getElem?_of_mem hc
      exact hssv _ (d3 i c hi).2
    · rw [hv]
      refine sqp_pd ht ?_
      rw [List.map_map]
      exact d1
  -- the end, with whatever heap
  have fin : ∀ (row : Option V) (hv : V) (H4 : Hp) (cells : List (Int × Int)), Px p H2 H4 → CellsOk cells → Pd K H4 hv (rowsD (cells.map cI)) →
      tRet (tTup (tCons (tCB (rTupP K) (tCons (tLc (iSeq K (tVar 1)) (gName 11) tYes (tTup (tCons (tVar 11) (tCons (tCall (spPick K) [] E0 (tCons (tVar 0) (tCons (tVar 4) tNil))) tNil))) [11]) tNil)) (tCons (tVar 5) tNil))) { nx := fun _ H' => Q .non H', rt := Q }
        [some (.ref p.1), some (.ref tn), some (.int 5), some (.ref la), some (.ref ls), some hv, row, none, none, none, none, none] H4 := fun row hv H4 cells x4 hco hcd => by
    have hp4 := x4.pen
    have hn4 := x4.t hp2 hn2
    have h24 : H4 ls = some (.lst (ss.map V.int)) := x4.at_ hp2 h2 (fun _ z => nomatch z)
    have hzz : (zs.map V.str).length = zs.length := List.length_map ..
    refine sr_ret hp4 (erd_tup (Ψ := fun vs H5 => ∃ v1 ns, vs = [v1, hv] ∧ Pd K H5 v1 (rowsD ns) ∧ Pd K H5 hv (rowsD (cells.map cI)) ∧ ns.map (·.1) = zs.map Sum.inr ∧ ∀ q ∈ ns, 0 ≤ q.2 ∧ q.2 ≤ 15)
      ((era_cons (erd_tupL (erl_lcHT (F := fun i => isD K fun d => ∃ j, d = rowD (.inr (zs.getD i ""), j) ∧ j ∈ ss) hp4 (fun H3 x3 => ev_var rfl) hn4 (by rw [hzz]; omega) (fun _ => rfl) (fun _ _ => et_true fun _ _ _ q => q) (fun i => stb_isD) (fun i y hy => er_row (.inr (zs.getD i "")) hp4 rfl rfl (fun H3 x3 => ev_is (ev_var rfl) ?_) (sq_of h24) hss0 hss1))
        (fun vs H3 H4 x3 x4 h => each_px (fun i => stb_isD) x3.pen x4 h)) (era1 (er_ev fun H5 x5 => ev_var rfl)) (fun v H5 H6 x5 x6 ⟨t, xs, e, ht, ha⟩ => ⟨t, xs, e, ?_, each_px (fun i => stb_isD) x5.pen x6 ha⟩)).imp (fun vs H5 x5 ⟨v, r, e, ⟨t, xs, hv1, ht, ha⟩, w, hr, hw⟩ => ?_))
      (fun vs H5 ⟨v1, ns, e, _⟩ => by rw [e]; exact (by decide : 2 ≤ 100000)) (fun vs H5 H6 x5 x6 ⟨v1, ns, e, a1, a2, a3⟩ => ⟨v1, ns, e, x6.pd x5.pen a1, x6.pd x5.pen a2, a3⟩)) (fun v H5 x5 ⟨t, vs, hv0, ht, v1, ns, e, a1, a2, a3, a4⟩ => ?_)
    · rw [List.getElem?_map] at hy
      cases hq : zs[i]? with
      | none => rw [hq] at hy; cases hy
      | some a =>
        rw [hq] at hy
        cases hy
        rw [getD_some hq]
        rfl
    · exact x6.sqp x5.pen ht
    · obtain ⟨cs, d1, d2, d3⟩ := each_rows (K := K) (H := H5) (fun c : Key × Int => c) (fun i c => c.1 = .inr (zs.getD i "") ∧ c.2 ∈ ss) xs 0 (fun i y hy => by
        obtain ⟨d, hd, _, j, rfl, hj⟩ := ha.2 i y hy
        exact ⟨(.inr (zs.getD i ""), j), by rw [Nat.zero_add]; exact ⟨rfl, hj⟩, hd⟩)
      have hcl : cs.length = zs.length := by rw [d2, ha.1, hzz]
      refine ⟨v, cs, by rw [e, hr, hw], ?_, x5.pd hp4 hcd, ?_, fun c hc => ?_⟩
      · rw [hv1]
        exact sqp_pd ht d1
      · apply List.ext_getElem?
        intro i
        rw [List.getElem?_map, List.getElem?_map]
        cases hc : cs[i]? with
        | none =>
          have : zs[i]? = none := by
            rw [List.getElem?_eq_none_iff] at hc ⊢
            omega
          rw [this]
          rfl
        | some c =>
          have hi : i < zs.length := by
            rw [← hcl]
            exact (List.getElem?_eq_some_iff.mp hc).1
          have z := (d3 i c hc).1
          rw [Nat.zero_add] at z
          rw [List.getElem?_eq_getElem hi]
          show some c.1 = _
          rw [z]
          simp [hi]
      · obtain ⟨i, hi⟩ := List.getElem?_of_mem hc
        exact hssv _ (d3 i c hi).2
    · rw [hv0]
      rw [e] at ht
      exact hQ _ ns cells H5 ⟨hco, a3, a4⟩ (((x1.trans x2).trans x4).trans x5) ⟨t, v1, hv, rfl, st_of ht, a1, a2⟩
  have hp3 := x3.pen
  have h13 : H3 la = some (.lst (as.map V.int)) := x3.at_ hp2 h1' (fun _ z => nomatch z)
  refine qr_ifS hp3 (er_andB (fun H4 x4 => et_test (ev_neNilH (ds := as.map PyData.int) (ev_var rfl) (x4.l hp3 (sq_of h13)) (fun H5 e5 => el_lst ea_nil (by decide)) dpAll_ints (shaped_ints as))) (fun hb => ert_test ((er_op2 (f := fun v => ∃ b, v = .bl b) (er_draw (m := 2) (er_eva fun H4 x4 => ea_cons (ev_var rfl) (ea_cons ev_c ea_nil)) (by decide) (by decide)) (fun H4 x4 => ev_c) (fun y H4 x4 ⟨r, hr, _, _⟩ => ⟨.bl (decide (V.int r = V.int 0)), fun H5 => by rw [hr]; exact rv_eqs rfl, _, rfl⟩))))) (fun b H4 x4 hb => ?_)
  cases b with
  | false => exact fin none hv H4 cells (x3.trans x4) hco (x4.pd hp3 hcd)
  | true =>
    have hne : as ≠ [] := fun z => by
      have := hb rfl
      rw [z] at this
      simp at this
    have hp4 := x4.pen
    have h14 : H4 la = some (.lst (as.map V.int)) := x4.at_ hp3 h13 (fun _ z => nomatch z)
    rw [if_pos rfl]
    -- row
    refine qr_asgL hp4 (Ψ := fun ys _ => ∃ rs : List Int, ys = rs.map V.int ∧ rs.Perm as) ((erl_shuf hp4 (er_eva fun H5 x5 => ea_cons (ev_var rfl) (ea_cons (ev_var rfl) ea_nil)) (sq_of h14) (by rw [has]; omega)).imp fun ys H5 x5 hperm => perm_ints hperm) (fun lr xs H5 hlr x5 h5 ⟨rs, hrs, hperm⟩ => ?_)
    obtain ⟨r0, rt, rfl⟩ : ∃ r0 rt, rs = r0 :: rt := by
      cases rs with
      | nil => exact absurd (List.Perm.eq_nil hperm.symm) hne
      | cons r0 rt => exact ⟨r0, rt, rfl⟩
    subst hrs
    have hp5 := x5.pen
    have hr0 : 1 ≤ r0 ∧ r0 ≤ 12 := rng r0 (hperm.mem_iff.mp List.mem_cons_self)
    have hrl : (r0 :: rt).length = as.length := hperm.length_eq
    refine sr_asg hp5 (erd_tupL (Ψ := fun zs H6 => ∃ ps qs, (ps.map (·.1) = r0 :: rt ∧ ∀ q ∈ ps, 0 ≤ q.2 ∧ q.2 ≤ 15) ∧ List.Perm qs ps ∧ qs.Pairwise (fun x y => x.1 ≤ y.1) ∧ t2s qs zs H6)
      (erl_sortP (S := fun ps => ps.map (·.1) = r0 :: rt ∧ ∀ q ∈ ps, 0 ≤ q.2 ∧ q.2 ≤ 15) ((erl_lcZ (R := fun xs ys => ∃ x : Int, xs = (r0 :: rt).map V.int ∧ ys = (rt ++ [x]).map V.int ∧ 0 ≤ x ∧ x ≤ 15) (F := fun xs ys i => isT2 (iOf (xs.getD i .non)) (iOf (ys.getD i .non)))
        ((era_cons (er_ev fun H6 x6 => ev_var (i := 6) rfl) (era1L (erl_catL (Ψ := fun ys _ => ∃ x : Int, ys = [.int x] ∧ 0 ≤ x ∧ x ≤ 15) (fun H6 x6 => el_is (el_slL (ev_var (i := 6) rfl) (x6.l hp5 (sq_of h5)) (eo_some ev_c) eo_none) (cut_tail _ _))
          (erl_lst ((era1 (er_pickL (Ψ := fun xs _ => xs = [.int 0, .int 0, .int r0, .int 9]) (fun H6 x6 => ev_var rfl) (er_evl fun H6 x6 => el_lst (ea_cons ev_c (ea_cons ev_c (ea_cons (ev_op (ev_var rfl) ev_c (rv_iL (x6.l hp5 (sq_of h5)) (atI_nat (j := 0) rfl))) (ea_cons ev_c ea_nil)))) (show 4 ≤ 100000 by decide)) (fun _ _ _ _ _ h => h) (fun xs H2 h => by rw [h]; exact ⟨show 0 < 4 by decide, show 4 < 1073741824 by decide⟩))).imp (fun vs H6 x6 ⟨v, hv, xs, hxs, hm⟩ => ?_)) (fun vs H6 ⟨x, e, _⟩ => by rw [e]; exact (by decide : 1 ≤ 100000)) (fun _ _ _ _ _ h => h))
          (fun ys H6 ⟨x, e, _⟩ => by rw [e]; simp at hrl ⊢; omega) (fun _ _ _ _ _ h => h))) (fun _ _ _ _ _ h => h)).imp (fun vs H6 x6 ⟨v, r, e, hv, l, xs, hr, hl, ys, hxs, x, hx, hx0, hx15⟩ => ?_))
        (fun xs ys ⟨x, h1, h2, _⟩ => ?_) (fun _ _ => rfl) (fun _ _ => et_true fun _ _ _ q => q) (fun xs ys i => stb_T2) (fun xs ys i x y hR hx hy => ?_)).imp (fun zs H6 x6 ⟨xs, ys, hR, ha⟩ => ?_))) (fun vs H6 H7 x6 x7 h => ?_)) (fun v H6 x6 ⟨t, xs, hv, ht, ps, qs, ⟨s1, s2⟩, s3, s4, s5⟩ => ?_)
    · rw [hxs] at hm
      simp only [List.mem_cons, List.not_mem_nil, or_false] at hm
      rcases hm with rfl | rfl | rfl | rfl
      · exact ⟨0, hv, by decide, by decide⟩
      · exact ⟨0, hv, by decide, by decide⟩
      · exact ⟨r0, hv, by omega, by omega⟩
      · exact ⟨9, hv, by decide, by decide⟩
    · rw [h1, h2]
      simp at hrl ⊢
      omega
    · obtain ⟨x9, rfl, rfl, _⟩ := hR
      obtain ⟨n, hn1, rfl⟩ := int_at hx
      obtain ⟨m, hm1, rfl⟩ := int_at hy
      have e1 : iOf (((r0 :: rt).map V.int).getD i .non) = n := by rw [getD_some hx]; rfl
      have e2 : iOf (((rt ++ [x9]).map V.int).getD i .non) = m := by rw [getD_some hy]; rfl
      show ErD p _ _ H5 (isT2 (iOf (((r0 :: rt).map V.int).getD i .non)) (iOf (((rt ++ [x9]).map V.int).getD i .non)))
      rw [e1, e2]
      exact er_T2 (fun H6 x6 => ev_var rfl) (fun H6 x6 => ev_var rfl)
    · obtain ⟨x9, rfl, rfl, hx0, hx15⟩ := hR
      have hlz : (rt ++ [x9]).length = (r0 :: rt).length := by simp
      refine ⟨(r0 :: rt).zip (rt ++ [x9]), ⟨List.map_fst_zip (by omega), fun q hq => ?_⟩, ?_, fun i z hz => ?_⟩
      · have := (List.of_mem_zip (show (q.1, q.2) ∈ _ from hq)).2
        rcases List.mem_append.mp this with h | h
        · have := rng q.2 (hperm.mem_iff.mp (List.mem_cons_of_mem _ h))
          omega
        · rw [List.mem_singleton] at h
          omega
      · rw [ha.1, List.length_map, List.length_zip]
        omega
      · have hi : i < (r0 :: rt).length := by
          have := (List.getElem?_eq_some_iff.mp hz).1
          rw [ha.1, List.length_map] at this
          exact this
        have hz2 : isT2 (iOf (((r0 :: rt).map V.int).getD i .non)) (iOf (((rt ++ [x9]).map V.int).getD i .non)) z H6 := ha.2 i z hz
        have h1 : (r0 :: rt)[i]? = some (r0 :: rt)[i] := List.getElem?_eq_getElem hi
        have h2 : (rt ++ [x9])[i]? = some ((rt ++ [x9])[i]'(by omega)) := List.getElem?_eq_getElem (by omega)
        refine ⟨((r0 :: rt)[i], (rt ++ [x9])[i]'(by omega)), ?_, ?_⟩
        · rw [List.getElem?_zip_eq_some]
          exact ⟨h1, h2⟩
        · have e1 : iOf (((r0 :: rt).map V.int).getD i .non) = (r0 :: rt)[i] := by rw [getD_some (d := V.int (r0 :: rt)[i]) (by rw [List.getElem?_map, h1]; rfl)]; rfl
          have e2 : iOf (((rt ++ [x9]).map V.int).getD i .non) = (rt ++ [x9])[i]'(by omega) := by rw [getD_some (d := V.int ((rt ++ [x9])[i]'(by omega))) (by rw [List.getElem?_map, h2]; rfl)]; rfl
          rw [e1, e2] at hz2
          exact hz2
    · obtain ⟨ps, qs, a1, a2, a3, a4⟩ := h
      exact ⟨ps, qs, a1, a2, a3, t2s_px x6.pen x7 a4⟩
    · have hq1 : (qs.map (·.1)).Perm as := ((s3.map (·.1)).trans (by rw [s1])).trans hperm
      have hql : qs.length = as.length := by rw [← hq1.length_eq, List.length_map]
      refine fin (some (.ref lr)) v H6 qs (((x3.trans x4).trans x5).trans x6) ⟨?_, fun c hc => rng c.1 (hq1.mem_iff.mp (List.mem_map.mpr ⟨c, hc, rfl⟩)), fun c hc => s2 c (s3.mem_iff.mp hc), by omega⟩ ?_
      · have hnd : (qs.map (·.1)).Nodup := hq1.nodup_iff.mpr (asc.imp fun z => by omega)
        have hle : (qs.map (·.1)).Pairwise (· ≤ ·) := List.pairwise_map.mpr s4
        exact (hle.and hnd).imp fun ⟨a, b⟩ => by omega
      · rw [hv]
        refine sqp_pd ht ?_
        rw [List.map_map]
        exact t2s_dp s5
    · exact ⟨lr, l, _, xs, by rw [e, hv, hr], (x6.l hp5 (sq_of h5)), sq_of hl, x, rfl, by rw [hxs, hx]; simp, hx0, hx15⟩
end
end Kb
set_option Elab.async false
set_option linter.all false
set_option maxRecDepth 100000
set_option maxHeartbeats 4000000
namespace Kb
open PySem PySem.Spec PyProof.Rows L2 LamX Evl
def signsS : Str := "abyz019._- A"
def tailL : List Str := ["result", "x", "x1", "aaaaaaaaaaaa", "aaaaaaaaaaaaa", "a1b", ".0", ".00", ".10", ".999999", ".1000000", ".", "nil1", "_", "x00000000000", ".1x"]
def spTR : Sp := fun vs H Q _ => ∃ (p : Addr × Addr), vs = [.ref p.1] ∧ Pen H p ∧ ∀ H', Px p H H' → Q (.bl true) H'
theorem txt_tail : ∀ z ∈ wordsL ++ tailL, Txt8 z := by
  have h : ∀ z ∈ wordsL ++ tailL, z.length ≤ 40000 ∧ ∀ c ∈ z.cps.toList, c < 0x110000 := by decide +kernel
  exact fun z hz => ⟨(h z hz).1, (h z hz).2⟩
theorem txt_signs {cs : List Nat} (hl : cs.length ≤ 4) (h : ∀ c ∈ cs, c ∈ signsS.cps.toList) : Txt8 (Txt.join "" (cs.map sg)) := by
  rw [join_signs]
  refine ⟨?_, fun c hc => ?_⟩
  · show cs.toArray.size ≤ 40000
    rw [List.size_toArray]
    omega
  · have : ∀ c ∈ signsS.cps.toList, c < 0x110000 := by decide +kernel
    exact this c (h c (by simpa using hc))
theorem sum_sg : ∀ cs : List Nat, ((cs.map sg).map (·.length)).sum = cs.length
  | [] => rfl
  | c :: cs => by
    rw [List.map_cons, List.map_cons, List.sum_cons, sum_sg cs, List.length_cons]
    show 1 + _ = _
    omega
theorem each_txt {f : Str → Prop} {n : Nat} {xs : List V} {H : Hp} (h : each (fun _ v _ => ∃ z, v = .str z ∧ f z) n xs H) : ∃ ys : List Str, xs = ys.map V.str ∧ ys.length = n ∧ ∀ y ∈ ys, f y := by
  obtain ⟨hl, ha⟩ := h
  have : ∀ x ∈ xs, ∃ z, x = V.str z ∧ f z := fun x hx => by
    obtain ⟨i, hi⟩ := List.getElem?_of_mem hx
    exact ha i x hi
  clear ha
  induction xs generalizing n with
  | nil => exact ⟨[], rfl, hl, fun _ h => nomatch h⟩
  | cons x r ih =>
    obtain ⟨ys, h1, h2, h3⟩ := ih rfl fun x hx => this x (List.mem_cons_of_mem _ hx)
    obtain ⟨y, e, hy⟩ := this x List.mem_cons_self
    refine ⟨y :: ys, by rw [h1, List.map_cons, e], by rw [List.length_cons, h2]; exact hl, fun z hz => ?_⟩
    rcases List.mem_cons.mp hz with rfl | hz
    · exact hy
    · exact h3 z hz
theorem rv_mulS {z : Str} {n : Int} {y : Str} {H : Hp} (h : ⟨(List.replicate n.toNat z.cps).foldl (· ++ ·) #[]⟩ = y) (h1 : 2 ≤ n ∧ n ≤ 1000 ∧ 1 ≤ z.length ∧ z.length ≤ 1000 ∧ y.length ≤ sizeLine) : RV rMul (.str z) (.int n) H (.str y) := fun H1 e Q q =>
  .inr (.inr ⟨z, n, rfl, rfl, h1.1, h1.2.1, h1.2.2.1, h1.2.2.2.1, by rw [h]; exact h1.2.2.2.2, by rw [h]; exact q H1 (Ex.refl H1)⟩)
section
variable {P : Program} {w : World} {K : PySem.W.Frag} {mg : Str → Option Value} {base : Heap}
theorem ok_terms_right (B : Bi mg) (g__law_draw : Gv P w K mg base CX0 1 "_law_draw" ["pen", "many"] spDraw) (g__law_pick : Gv P w K mg base CX0 2 "_law_pick" ["pen", "some"] (spPick K)) (g__law_words : Gv P w K mg base CX0 1 "_law_words" [] (spWords K))
    (g__law_is_name_text : Gv P w K mg base CX0 2 "_law_is_name_text" ["value"] (spTxt nameT)) (g__law_is_hidden_text : Gv P w K mg base CX0 1 "_law_is_hidden_text" ["value"] (spTxt hiddenT)) (g__law_is : Gv P w K mg base CX0 2 "_law_is" ["told", "due"] (spIs K 1))
    (g_is_plain_name : Gv P w K mg base CX0 1 "is_plain_name" ["value"] (spB K TxtOk nameD)) (g_is_hidden : Gv P w K mg base CX0 1 "is_hidden" ["value"] (spB K TxtOk hiddenD)) (g_is_term : Gv P w K mg base CX0 3 "is_term" ["value"] (spB K TxtOk termD))
    (D : Df K mg "_law_terms_right" s__law_terms_right ["pen"]) : Gv P w K mg base CX0 4 "_law_terms_right" ["pen"] spTR := by
  have nd := sc__law_terms_right.nd
  refine D.gv sc__law_terms_right (fun vs H Q E h => ?_) (fun f cdv A outer s H vs Q E hr h => ?_)
  · obtain ⟨p, rfl, _⟩ := h
    rfl
  have hu64 := hu64_of hr
  refine ⟨_, (pss_cons (ps_set (i := 1) nd rfl (.inr rfl) pe_str)
    (pss_cons (ps_setLc (i := 2) (own := [("turn", 7)]) rfl nd rfl rfl (sw_true rfl rfl rfl (by decide +kernel)) (pi_range1 rfl B.range (pa_cons pe_int pa_nil)) (blk_ok (by kernel_rfl)) (fun _ _ _ _ _ => (pg_name (i := 7) nd rfl (.inl rfl))) (fun _ _ _ _ _ => pts_nil) (fun _ _ _ _ _ => (by exact (pe_bmK (K := K) rfl PySem.F.plainAttrs_str PySem.F.slot_str_join PySem.F.type_str_join (r := rJoin K) mt_joinA pe_str (pa_cons (pe_lc (own := [("lap", 8)]) rfl nd (pi_range1 rfl B.range (pa_cons (pe_cg g__law_draw hr rfl pass0 (pa_cons (pv 0) (pa_cons pe_int pa_nil))) pa_nil)) (blk_ok (by kernel_rfl)) (fun _ _ _ _ _ => (pg_name (i := 8) nd rfl (.inl rfl))) (fun _ _ _ _ _ => pts_nil) (fun _ _ _ _ _ => (by exact (pe_cg g__law_pick hr rfl pass0 (pa_cons (pv 0) (pa_cons (pe_callTy (r := rListA K) (callA_list rfl) rfl B.list (by decide +kernel) (pa_cons (pv 1) pa_nil)) pa_nil)))))) pa_nil)))))
    (pss_cons (ps_set (i := 2) nd rfl (.inl rfl) (pe_op (r := rAdd K) opA_add (pe_op (r := rAdd K) opA_add (pv 2) (pe_cg0 g__law_words hr rfl pass0)) (pe_lst (pa_cons pe_str (pa_cons pe_str (pa_cons pe_str (pa_cons (pe_op opA_mul pe_str pe_int) (pa_cons (pe_op opA_mul pe_str pe_int) (pa_cons pe_str (pa_cons pe_str (pa_cons pe_str (pa_cons pe_str (pa_cons pe_str (pa_cons pe_str (pa_cons pe_str (pa_cons pe_str (pa_cons pe_str (pa_cons (pe_op (r := rAdd K) opA_add pe_str (pe_op opA_mul pe_str pe_int)) (pa_cons pe_str pa_nil)))))))))))))))))))
    (pss_cons (ps_for PassesOwn.never rfl (piA_seq (pv 2)) (pg_name (i := 3) nd rfl (.inl rfl)) (pss_cons (ps_par (i := 4) (j := 5) rfl nd rfl rfl (by decide) rfl rfl (pa_cons (pe_cg g__law_is_name_text hr rfl pass0 (pa_cons (pv 3) pa_nil)) (pa_cons (pe_cg g__law_is_hidden_text hr rfl pass0 (pa_cons (pv 3) pa_nil)) pa_nil)) rfl)
    (pss_one (ps_if (pt_not (pt_val (pe_cg g__law_is hr rfl pass0 (pa_cons (pe_tup (pa_cons (pe_cg g_is_plain_name hr rfl pass0 (pa_cons (pv 3) pa_nil)) (pa_cons (pe_cg g_is_hidden hr rfl pass0 (pa_cons (pv 3) pa_nil)) (pa_cons (pe_cg g_is_term hr rfl pass0 (pa_cons (pv 3) pa_nil)) pa_nil)))) (pa_cons (pe_tup (pa_cons (pv 4) (pa_cons (pv 5) (pa_cons (pe_or (pv 4) (pe_or (pv 5) (pe_one (pe_cmpR (r := rEqA K) (opA_eq hu64) (pv 3) pe_str (nomark _))))) pa_nil)))) pa_nil))))) (pss_one (ps_ret pe_bl)) pss_nil))))
    (pss_cons (ps_for PassesOwn.never rfl (piA_seq (pe_lst (pa_cons pe_non (pa_cons pe_int (pa_cons pe_bl (pa_cons (pe_tup (pa_cons pe_str pa_nil)) (pa_cons (pe_lst (pa_cons pe_str pa_nil)) (pa_cons pe_int pa_nil)))))))) (pg_name (i := 6) nd rfl (.inl rfl)) (pss_one (ps_if (pt_not (pt_val (pe_cg g__law_is hr rfl pass0 (pa_cons (pe_tup (pa_cons (pe_cg g_is_plain_name hr rfl pass0 (pa_cons (pv 6) pa_nil)) (pa_cons (pe_cg g_is_hidden hr rfl pass0 (pa_cons (pv 6) pa_nil)) (pa_cons (pe_cg g_is_term hr rfl pass0 (pa_cons (pv 6) pa_nil)) pa_nil)))) (pa_cons (pe_tup (pa_cons pe_bl (pa_cons pe_bl (pa_cons pe_bl pa_nil)))) pa_nil))))) (pss_one (ps_ret pe_bl)) pss_nil)))
    (pss_one (ps_ret pe_bl))))))), ?_⟩
  obtain ⟨p, rfl, hp, hQ⟩ := h
  refine q_asg (v := .str signsS) ev_c (fun H1 e1 => ?_)
  have hp1 := hp.same e1
  refine qr_asgL hp1 (Ψ := fun xs _ => ∃ ys : List Str, xs = ys.map V.str ∧ ys.length = 8 ∧ ∀ y ∈ ys, Txt8 y) ((erl_lcR (Nn := fun n => n = 8) (F := fun _ v _ => ∃ z, v = .str z ∧ Txt8 z) ((er_eva (vs := [.int 8]) fun H2 x2 => ea_cons ev_c ea_nil).imp fun vs H2 x2 h => ⟨8, h, by decide, by decide, rfl⟩) (fun _ => rfl) (fun _ _ => et_true fun _ _ _ q => q) (fun i => Stb.pure fun v => ∃ z, v = .str z ∧ Txt8 z)
    (fun i => (er_joinL (S := fun ys => ∃ cs : List Nat, ys = cs.map sg ∧ cs.length ≤ 4 ∧ ∀ c ∈ cs, c ∈ signsS.cps.toList) (z := "") (fun H2 x2 => ev_c) (erl_lcR (Nn := fun n => 0 ≤ n ∧ n ≤ 4) (F := fun _ v _ => v ∈ (signsS.cps.toList.map sg).map V.str)
      ((era1 (er_draw (m := 5) (er_eva fun H2 x2 => ea_cons (ev_var rfl) (ea_cons ev_c ea_nil)) (by decide) (by decide))).imp (fun vs H2 x2 ⟨v, hv, n, hn, n0, n5⟩ => ⟨n, by rw [hv, hn], by omega, by omega, by omega, by omega⟩)) (fun _ => rfl) (fun _ _ => et_true fun _ _ _ q => q) (fun i => Stb.pure fun v => v ∈ (signsS.cps.toList.map sg).map V.str)
      (fun i => (er_pickL (Ψ := fun xs _ => xs = (signsS.cps.toList.map sg).map V.str) (fun H2 x2 => ev_var rfl) (er_evl fun H2 x2 => el_is (el_listS (z := signsS) (ev_var rfl) (by decide +kernel)) (by rw [List.map_map]; rfl)) (fun _ _ _ _ _ h => h) (fun xs H2 h => by rw [h]; decide +kernel)).imp fun v H2 x2 ⟨xs, e, hv⟩ => by rw [← e]; exact hv))
      (fun xs H2 ⟨n, hn, ha⟩ => by
        obtain ⟨ys, e1, e2, e3⟩ := each_strs ha
        obtain ⟨cs, e4, e5⟩ := sgs_of e3
        refine ⟨ys, e1, ?_, cs, e4, ?_, e5⟩
        · rw [e4, sum_sg, List.length_map]
          show _ + cs.length * 0 ≤ _
          rw [e4, List.length_map] at e2
          omega
        · rw [e4, List.length_map] at e2
          omega)).imp (fun v H2 x2 ⟨ys, hv, cs, e, hl, hc⟩ => ⟨_, hv, by rw [e]; exact txt_signs hl hc⟩))).imp (fun xs H2 x2 ⟨n, hn, ha⟩ => ?_)) (fun l xs H2 hl x2 h2 ⟨ys, hxs, hys, hok⟩ => ?_)
  · obtain ⟨ys, e1, e2, e3⟩ := each_txt ha
    exact ⟨ys, e1, by omega, e3⟩
  have hp2 := x2.pen
  have hq (H3) (x3 : Px p H2 H3) : Px p H H3 := ((Px.of hp e1).trans x2).trans x3
  obtain ⟨ts, hts⟩ : ∃ ts : List Str, ts = ys ++ wordsL ++ tailL := ⟨_, rfl⟩
  have hl29 : ts.length ≤ 1000 := by
    rw [hts, List.length_append, List.length_append, hys]
    decide
  have htx : ∀ z ∈ ts, Txt8 z := fun z hz => by
    rw [hts, List.append_assoc] at hz
    rcases List.mem_append.mp hz with hz | hz
    · exact hok z hz
    · exact txt_tail z hz
  refine q_asgL (xs := ts.map V.str) (el_is (el_cat (el_catH (ev_var rfl) h2 (el_call ea_nil (fun H1 e Q q E => ⟨rfl, q⟩)) (by rw [hxs, List.length_map, hys]; decide)) (el_lst (vs := tailL.map V.str) (ea_cons ev_c (ea_cons ev_c (ea_cons ev_c (ea_cons (ev_op ev_c ev_c (rv_mulS (z := "a") (n := 12) (y := "aaaaaaaaaaaa") (by decide +kernel) (by decide +kernel))) (ea_cons (ev_op ev_c ev_c (rv_mulS (z := "a") (n := 13) (y := "aaaaaaaaaaaaa") (by decide +kernel) (by decide +kernel))) (ea_cons ev_c (ea_cons ev_c (ea_cons ev_c (ea_cons ev_c (ea_cons ev_c (ea_cons ev_c (ea_cons ev_c (ea_cons ev_c (ea_cons ev_c
    (ea_cons (ev_is (w := .str "x00000000000") (ev_op ev_c (ev_op ev_c ev_c (rv_mulS (z := "0") (n := 11) (y := "00000000000") (by decide +kernel) (by decide +kernel))) (rv_addS (i := "x") (j := "00000000000") (by decide +kernel))) (by decide +kernel)) (ea_cons ev_c ea_nil)))))))))))))))) (by decide +kernel)) (by rw [hxs, List.length_append, List.length_map, hys]; decide +kernel)) (by rw [hts, hxs, List.map_append, List.map_append])) (fun lt H3 hlt e3 h3 => ?_)
  have hlm : (ts.map V.str).length = ts.length := List.length_map ..
  refine q_forLg (ev_var rfl) (sq_of h3) (fun i σ' H' => ∃ o3 o4 o5, σ' = [some (.ref p.1), some (.str signsS), some (.ref lt), o3, o4, o5, none, none, none] ∧ Ex H3 H') (fun H4 e4 => ⟨_, _, _, rfl, e4⟩) (fun i σ' H' _ ⟨_, _, _, _, e4⟩ => sq_of (e4 _ _ h3)) (fun i x σ' H' hx ⟨o3, o4, o5, e, e4⟩ => ?_) (fun σ' H' ⟨o3, o4, o5, e, e4⟩ => ?_)
  · subst e
    obtain ⟨z, hz, rfl⟩ : ∃ z ∈ ts, x = .str z := by
      obtain ⟨z, hz, e⟩ := List.mem_map.mp (List.mem_of_getElem? hx)
      exact ⟨z, hz, e.symm⟩
    have h8 := htx z hz
    have hok : ∀ d : PyData, d = .str z → TxtOk d := fun d e => by rw [e]; exact h8.len
    show tSeq _ _ _ [some (.ref p.1), some (.str signsS), some (.ref lt), some (.str z), o4, o5, none, none, none] H'
    refine q_par (x := .bl (nameT z)) (y := .bl (hiddenT z)) (ev_call (ea_cons (ev_var rfl) ea_nil) (spTxt_v h8)) (ev_call (ea_cons (ev_var rfl) ea_nil) (spTxt_v h8)) (fun H5 e5 => ?_)
    refine s_when (b := false) (et_is (et_not (et_B (ev_lawIs (d := .tuple [.bool (nameT z), .bool (hiddenT z), .bool (nameT z || (hiddenT z || decide (V.str z = .str "nil")))]) (evd_tupD (eda_d (evd_b (ev_is (ev_call (ea_cons (ev_var rfl) ea_nil) (spB_v (.str z) h8.len)) ?_)) (eda_d (evd_b (ev_is (ev_call (ea_cons (ev_var rfl) ea_nil) (spB_v (.str z) h8.len)) ?_)) (eda_d (evd_b (ev_is (ev_call (ea_cons (ev_var rfl) ea_nil) (spB_v (.str z) h8.len)) ?_)) eda_d0))) (show 3 ≤ 100000 by decide))
      (evd_tupD (eda_d (evd_b (ev_var rfl)) (eda_d (evd_b (ev_var rfl)) (eda_d (evd_b ?_) eda_d0))) (show 3 ≤ 100000 by decide)) rfl))) rfl) (fun z => nomatch z) (fun _ H6 e6 => ⟨_, _, _, rfl, e4.trans (e5.trans e6)⟩)
    · rw [nameT_eq]
      rfl
    · rw [hiddenT_eq]
      rfl
    · rw [nameT_eq, hiddenT_eq]
      show V.bl ((decide (V.str z = .str "nil") || nameZ z) || hiddenZ z) = _
      cases decide (V.str z = .str "nil") <;> cases nameZ z <;> cases hiddenZ z <;> rfl
    · exact ev_orV (ev_var rfl) fun _ => ev_orV (ev_var rfl) fun _ => ev_op (ev_var rfl) ev_c (rv_eqs rfl)
  subst e
  refine q_forDx (S := fun σ' => ∃ o3 o4 o5 o6, σ' = [some (.ref p.1), some (.str signsS), some (.ref lt), o3, o4, o5, o6, none, none]) (evd_lstD (ds := [.none, .int 5, .bool true, .tuple [.str "x"], .list [.str "x"], .int 0])
    (eda_d (evd_c ev_c fun _ _ => .non) (eda_d (evd_i ev_c) (eda_d (evd_b ev_c) (eda_d (evd_tupD (eda_d (evd_c ev_c fun _ _ => .str "x") eda_d0) (by decide)) (eda_d (evd_lstD (eda_d (evd_c ev_c fun _ _ => .str "x") eda_d0) (by decide)) (eda_d (evd_i ev_c) eda_d0)))))) (by decide)) ⟨_, _, _, _, rfl⟩ (fun d v σ' H5 hd ⟨o3, o4, o5, o6, e⟩ e5 hv N hN => ?_) (fun σ' H5 ⟨o3, o4, o5, o6, e⟩ e5 => ?_)
  · subst e
    have ht : TxtOk d ∧ nameD d = false ∧ hiddenD d = false ∧ termD d = false := by
      simp only [List.mem_cons, List.not_mem_nil, or_false] at hd
      rcases hd with rfl | rfl | rfl | rfl | rfl | rfl <;> exact ⟨trivial, rfl, rfl, rfl⟩
    have hcall {m : PyData → Bool} {k : Nat} : ∀ H6, Ex H5 H6 → SpV (spB K TxtOk m) [v] H6 (.bl (m d)) := fun H6 e6 => spB_v (Dp.ext e6 hv) ht.1
    refine s_when (b := false) (et_is (et_not (et_B (ev_lawIs (d := .tuple [.bool (nameD d), .bool (hiddenD d), .bool (termD d)]) (evd_tupD (eda_d (evd_b (ev_call (ea_cons (ev_var rfl) ea_nil) (spB_v hv ht.1))) (eda_d (evd_b (ev_call (ea_cons (ev_var rfl) ea_nil) (spB_v hv ht.1))) (eda_d (evd_b (ev_call (ea_cons (ev_var rfl) ea_nil) (spB_v hv ht.1))) eda_d0))) (show 3 ≤ 100000 by decide))
      (by rw [ht.2.1, ht.2.2.1, ht.2.2.2]; exact evd_tupD (eda_d (evd_b ev_c) (eda_d (evd_b ev_c) (eda_d (evd_b ev_c) eda_d0))) (show 3 ≤ 100000 by decide)) rfl))) rfl) (fun z => nomatch z) (fun _ H6 e6 => hN _ _ ⟨_, _, _, _, rfl⟩ e6)
  · subst e
    exact s_ret ev_c fun H6 e6 => hQ H6 (((Px.of hp e1).trans x2).trans (Px.of hp2 (((e3.trans e4).trans e5).trans e6)))
end
end Kb
set_option Elab.async false
set_option linter.all false
set_option maxRecDepth 100000
set_option maxHeartbeats 4000000
namespace Kb
open PySem PySem.Spec PyProof.Rows L2 LamX Evl
def rw2 (a b : PyData) : PyData := .tuple [a, b]
def wrongA : List PyData := [.none, .int 5, .str "ab", .tuple [rw2 (.str "nil") (.int 0)], .tuple [rw2 (.str ".0") (.int 0)], .tuple [rw2 (.str "x") (.int (-1))], .tuple [rw2 (.str "x") (.bool true)], .tuple [rw2 (.str "x") (.int 1000001)], .tuple [.tuple [.str "x"]], .tuple [.list [.str "x", .int 0]]]
def wrongB : List PyData := [.tuple [rw2 (.str "x") (.int 0), rw2 (.str "x") (.int 0)], .tuple [rw2 (.str "y") (.int 0), rw2 (.str "x") (.int 0)], .tuple [rw2 (.str "x") .none], .tuple [.int 5]]
def oddL : List PyData := [.none, .int 5, .str "ab", .tuple [rw2 (.int 0) (.int 0)], .tuple [rw2 (.int 1) (.int (-1))], .tuple [rw2 (.bool true) (.int 0)], .tuple [rw2 (.int 1) (.bool true)], .tuple [.tuple [.int 1]], .tuple [.list [.int 1, .int 0]], .tuple [rw2 (.int 1) (.int 0), rw2 (.int 1) (.int 2)], .tuple [rw2 (.int 2) (.int 0), rw2 (.int 1) (.int 0)],
  .tuple [rw2 (.int 1000001) (.int 0)], .tuple [rw2 (.int 1) .none]]
def farL : List PyData := (List.range 41).map fun (i : Nat) => rw2 (.int (1 + (i : Int))) (.int 0)
def txtB : PyData → Bool
  | .str z => decide (z.length ≤ 40000)
  | _ => true
theorem txtB_ok {d : PyData} (h : txtB d = true) : TxtOk d := by
  cases d with
  | str z =>
    have h : decide (z.length ≤ 40000) = true := h
    show z.length ≤ 40000
    exact of_decide_eq_true h
  | _ => trivial
def rowsB : PyData → Bool
  | .tuple ds => ds.all fun r => txtB (pr1 r)
  | _ => true
theorem rowsB_ok {d : PyData} (h : rowsB d = true) : RowsTxt d := fun ds e r hr => by
  subst e
  exact txtB_ok (List.all_eq_true.mp h r hr)
def shB (d : PyData) : Bool := d.showable && (PyData.canLay0 d && (decide (d.depth ≤ 5) && (decide (d.weight ≤ 1000) && d.intsShort 13)))
theorem shB_ok {d : PyData} (h : shB d = true) : Sh d := by
  simp only [shB, Bool.and_eq_true, decide_eq_true_eq] at h
  exact sh_of h.1 h.2.1 h.2.2.1 h.2.2.2.1 h.2.2.2.2
theorem wrong_ok : ∀ d ∈ wrongA ++ wrongB, storeD (asTup d) = false ∧ RowsTxt (asTup d) ∧ d.hasDict = false ∧ Sh d := by
  have h : ((wrongA ++ wrongB).all fun d => !storeD (asTup d) && (rowsB (asTup d) && (!d.hasDict && shB d))) = true := by decide +kernel
  intro d hd
  have := List.all_eq_true.mp h d hd
  simp only [Bool.and_eq_true, Bool.not_eq_true'] at this
  exact ⟨this.1, rowsB_ok this.2.1, this.2.2.1, shB_ok this.2.2.2⟩
theorem odd_ok : ∀ d ∈ oddL ++ [PyData.tuple farL], heapD (asTup d) = false ∧ d.hasDict = false ∧ Sh d := by
  have h : ((oddL ++ [PyData.tuple farL]).all fun d => !heapD (asTup d) && (!d.hasDict && shB d)) = true := by decide +kernel
  intro d hd
  have := List.all_eq_true.mp h d hd
  simp only [Bool.and_eq_true, Bool.not_eq_true'] at this
  exact ⟨this.1, this.2.1, shB_ok this.2.2⟩
/-- a triple of the spoils: what is tried, what is told -/
def SpoilAt (K : PySem.W.Frag) (H : Hp) (x : V) : Prop := ∃ t a b due d1 d2, x = .ref t ∧ SqT K H t [a, b, .ref due] ∧ Dp K H a d1 ∧ Dp K H b d2 ∧ RowsTxt (asTup d1) ∧
  ((storeD (asTup d1) = false ∧ SqT K H due [.str "row", .str "store", a] ∧ d1.hasDict = false ∧ Sh d1) ∨ (storeD (asTup d1) = true ∧ heapD (asTup d2) = false ∧ SqT K H due [.str "row", .str "heap", b] ∧ d2.hasDict = false ∧ Sh d2))
theorem SpoilAt.ext {K : PySem.W.Frag} {H H' : Hp} {x : V} (h : SpoilAt K H x) (e : Ex H H') : SpoilAt K H' x := by
  obtain ⟨t, a, b, due, d1, d2, h1, h2, h3, h4, h5, h6⟩ := h
  refine ⟨t, a, b, due, d1, d2, h1, ex_t e h2, Dp.ext e h3, Dp.ext e h4, h5, ?_⟩
  rcases h6 with ⟨a1, a2, a3⟩ | ⟨a1, a2, a3, a4⟩
  · exact .inl ⟨a1, ex_t e a2, a3⟩
  · exact .inr ⟨a1, a2, ex_t e a3, a4⟩
def spSpoils (K : PySem.W.Frag) : Sp := fun vs H Q _ => ∃ (p : Addr × Addr) (v : V) (ns cs : List (Key × Int)), vs = [.ref p.1, v] ∧ Pen H p ∧ LS K H v ns cs ∧ storeD (rowsD ns) = true ∧ RowsTxt (rowsD ns) ∧
  ∀ l xs H', Px p H H' → H' l = some (.lst xs) → xs.length = 3 → (∀ x ∈ xs, SpoilAt K H' x) → Q (.ref l) H'
section
variable {P : Program} {w : World} {K : PySem.W.Frag} {mg : Str → Option Value} {base : Heap} {σ : L2.St} {H : Hp}
theorem evd_spoil {ta tb td : TE} {a b : V} {what : Str} {c : V} {d1 d2 : PyData} (ha : Ev ta σ H a) (hb : Ev tb σ H b) (hc : Ev td σ H c) (h1 : Dp K H a d1) (h2 : Dp K H b d2) (ht : RowsTxt (asTup d1))
    (h : (what = "store" ∧ c = a ∧ storeD (asTup d1) = false ∧ d1.hasDict = false ∧ Sh d1) ∨ (what = "heap" ∧ c = b ∧ storeD (asTup d1) = true ∧ heapD (asTup d2) = false ∧ d2.hasDict = false ∧ Sh d2)) :
    EvD (tTup (tCons ta (tCons tb (tCons (tTup (tCons (tC (.str "row")) (tCons (tC (.str what)) (tCons td tNil)))) tNil)))) σ H (fun w H1 => SpoilAt K H1 w) := fun H1 e Q q =>
  ha H1 e _ fun H2 e2 => hb H2 (e.trans e2) _ fun H3 e3 => eu_tup (vs := [.str "row", .str what, c]) (ea_cons ev_c (ea_cons ev_c (ea_cons hc ea_nil))) (show 3 ≤ 100000 by decide) H3 ((e.trans e2).trans e3) _ fun due H4 hdue e4 h4 => ⟨sz_of (show 3 ≤ 100000 by decide), fun t ht2 => by
    have e6 := Ex.new (o := .tup [a, b, .ref due]) ht2
    have e16 := (((e.trans e2).trans e3).trans e4).trans e6
    refine q _ _ (((e2.trans e3).trans e4).trans e6) ⟨t, a, b, due, d1, d2, rfl, st_of upd_same, Dp.ext e16 h1, Dp.ext e16 h2, ht, ?_⟩
    have hd : SqT K _ due [.str "row", .str what, c] := ex_t e6 (st_of h4)
    rcases h with ⟨rfl, rfl, a1, a2⟩ | ⟨rfl, rfl, a1, a2, a3⟩
    · exact .inl ⟨a1, hd, a2⟩
    · exact .inr ⟨a1, a2, hd, a3⟩⟩
theorem ok_spoils (B : Bi mg) (g__law_pick : Gv P w K mg base CX0 2 "_law_pick" ["pen", "some"] (spPick K)) (D : Df K mg "_law_spoils" s__law_spoils ["pen", "state"]) : Gv P w K mg base CX0 3 "_law_spoils" ["pen", "state"] (spSpoils K) := by
  have nd := sc__law_spoils.nd
  refine D.gv sc__law_spoils (fun vs H Q E h => ?_) (fun f cdv A outer s H vs Q E hr h => ⟨_, (pss_cons (ps_asg (pv 1) (pgK_tup (K := K) (n := 2) rfl rfl (pgs_cons (pg_name (i := 2) nd rfl (.inl rfl)) (pgs_cons (pg_name (i := 3) nd rfl (.inl rfl)) pgs_nil))))
    (pss_cons (ps_set (i := 4) nd rfl (.inl rfl) (pe_lst (pa_cons pe_non (pa_cons pe_int (pa_cons pe_str (pa_cons (pe_tup (pa_cons (pe_tup (pa_cons pe_str (pa_cons pe_int pa_nil))) pa_nil)) (pa_cons (pe_tup (pa_cons (pe_tup (pa_cons pe_str (pa_cons pe_int pa_nil))) pa_nil)) (pa_cons (pe_tup (pa_cons (pe_tup (pa_cons pe_str (pa_cons (pe_un un_neg pe_int) pa_nil))) pa_nil)) (pa_cons (pe_tup (pa_cons (pe_tup (pa_cons pe_str (pa_cons pe_bl pa_nil))) pa_nil)) (pa_cons (pe_tup (pa_cons (pe_tup (pa_cons pe_str (pa_cons (pe_op (r := rAdd K) opA_add (pe_op op_pow pe_int pe_int) pe_int) pa_nil))) pa_nil)) (pa_cons (pe_tup (pa_cons (pe_tup (pa_cons pe_str pa_nil)) pa_nil)) (pa_cons (pe_tup (pa_cons (pe_lst (pa_cons pe_str (pa_cons pe_int pa_nil))) pa_nil)) pa_nil))))))))))))
    (pss_cons (ps_set (i := 5) nd rfl (.inl rfl) (pe_cg g__law_pick hr rfl pass0 (pa_cons (pv 0) (pa_cons (pe_op (r := rAdd K) opA_add (pv 4) (pe_lst (pa_cons (pe_tup (pa_cons (pe_tup (pa_cons pe_str (pa_cons pe_int pa_nil))) (pa_cons (pe_tup (pa_cons pe_str (pa_cons pe_int pa_nil))) pa_nil))) (pa_cons (pe_tup (pa_cons (pe_tup (pa_cons pe_str (pa_cons pe_int pa_nil))) (pa_cons (pe_tup (pa_cons pe_str (pa_cons pe_int pa_nil))) pa_nil))) (pa_cons (pe_tup (pa_cons (pe_tup (pa_cons pe_str (pa_cons pe_non pa_nil))) pa_nil)) (pa_cons (pe_tup (pa_cons pe_int pa_nil)) pa_nil)))))) pa_nil))))
    (pss_cons (ps_set (i := 6) nd rfl (.inl rfl) (pe_cg g__law_pick hr rfl pass0 (pa_cons (pv 0) (pa_cons (pe_lst (pa_cons pe_non (pa_cons pe_int (pa_cons pe_str (pa_cons (pe_tup (pa_cons (pe_tup (pa_cons pe_int (pa_cons pe_int pa_nil))) pa_nil)) (pa_cons (pe_tup (pa_cons (pe_tup (pa_cons pe_int (pa_cons (pe_un un_neg pe_int) pa_nil))) pa_nil)) (pa_cons (pe_tup (pa_cons (pe_tup (pa_cons pe_bl (pa_cons pe_int pa_nil))) pa_nil)) (pa_cons (pe_tup (pa_cons (pe_tup (pa_cons pe_int (pa_cons pe_bl pa_nil))) pa_nil)) (pa_cons (pe_tup (pa_cons (pe_tup (pa_cons pe_int pa_nil)) pa_nil)) (pa_cons (pe_tup (pa_cons (pe_lst (pa_cons pe_int (pa_cons pe_int pa_nil))) pa_nil)) (pa_cons (pe_tup (pa_cons (pe_tup (pa_cons pe_int (pa_cons pe_int pa_nil))) (pa_cons (pe_tup (pa_cons pe_int (pa_cons pe_int pa_nil))) pa_nil))) (pa_cons (pe_tup (pa_cons (pe_tup (pa_cons pe_int (pa_cons pe_int pa_nil))) (pa_cons (pe_tup (pa_cons pe_int (pa_cons pe_int pa_nil))) pa_nil))) (pa_cons (pe_tup (pa_cons (pe_tup (pa_cons (pe_op (r := rAdd K) opA_add (pe_op op_pow pe_int pe_int) pe_int) (pa_cons pe_int pa_nil))) pa_nil)) (pa_cons (pe_tup (pa_cons (pe_tup (pa_cons pe_int (pa_cons pe_non pa_nil))) pa_nil)) pa_nil)))))))))))))) pa_nil))))
    (pss_cons (ps_set (i := 7) nd rfl (.inl rfl) (pe_callTy (r := rTupP K) call_tupleP rfl B.tuple (by decide +kernel) (pa_cons (pe_lc (own := [("address", 8)]) rfl nd (pi_range2 rfl B.range (pa_cons pe_int (pa_cons pe_int pa_nil))) (blk_ok (by kernel_rfl)) (fun _ _ _ _ _ => (pg_name (i := 8) nd rfl (.inl rfl))) (fun _ _ _ _ _ => pts_nil) (fun _ _ _ _ _ => (pe_tup (pa_cons (pv 8) (pa_cons pe_int pa_nil))))) pa_nil)))
    (pss_one (ps_ret (pe_lst (pa_cons (pe_tup (pa_cons (pv 5) (pa_cons (pv 6) (pa_cons (pe_tup (pa_cons pe_str (pa_cons pe_str (pa_cons (pv 5) pa_nil)))) pa_nil)))) (pa_cons (pe_tup (pa_cons (pv 2) (pa_cons (pv 6) (pa_cons (pe_tup (pa_cons pe_str (pa_cons pe_str (pa_cons (pv 6) pa_nil)))) pa_nil)))) (pa_cons (pe_tup (pa_cons (pv 2) (pa_cons (pv 7) (pa_cons (pe_tup (pa_cons pe_str (pa_cons pe_str (pa_cons (pv 7) pa_nil)))) pa_nil)))) pa_nil))))))))))), ?_⟩)
  · obtain ⟨p, v, ns, cs, rfl, _⟩ := h
    rfl
  obtain ⟨p, v, ns, cs, rfl, hp, hv, hst, htx, hQ⟩ := h
  obtain ⟨t, v1, v2, rfl, ht, h1, h2⟩ := hv
  refine q_asgU2 (ev_var rfl) ht (fun H1 e1 => ?_)
  refine qd_asgLD (K := K) (eld_lst (ds := wrongA) (by repeat' first | exact eda_d0 | apply eda_d | (refine evd_tupD ?_ (by decide)) | (refine evd_lstD ?_ (by decide)) | exact evd_i ev_c | exact evd_b ev_c | exact evd_s ev_c | exact evd_n ev_c | exact evd_i (ev_neg ev_c) | exact evd_i (ev_is (ev_op (ev_op ev_c ev_c (rv_I (by unfold CPow; decide))) ev_c rv_add) (by decide))) (by decide)) (fun l xs H2 hl e2 hx hd => ?_)
  have e12 := e1.trans e2
  have hp2 := hp.same e12
  refine qr_asg hp2 (er_pickLD (ds := wrongA ++ wrongB) (fun H3 x3 => ev_var rfl) (fun H3 x3 => eld_catH (ev_var rfl) (x3.at_ hp2 hx (fun _ z => nomatch z)) (x3.dps hp2 hd) (eld_lst (by repeat' first | exact eda_d0 | apply eda_d | (refine evd_tupD ?_ (by decide)) | (refine evd_lstD ?_ (by decide)) | exact evd_i ev_c | exact evd_b ev_c | exact evd_s ev_c | exact evd_n ev_c | exact evd_i (ev_neg ev_c) | exact evd_i (ev_is (ev_op (ev_op ev_c ev_c (rv_I (by unfold CPow; decide))) ev_c rv_add) (by decide))) (by decide)) (by decide)) (by decide)) (fun wv H3 x3 ⟨dw, hdw, hw⟩ => ?_)
  have hp3 := x3.pen
  refine qr_asg hp3 (er_pickLD (ds := oddL) (fun H3 x3 => ev_var rfl) (fun H3 x3 => eld_lst (by repeat' first | exact eda_d0 | apply eda_d | (refine evd_tupD ?_ (by decide)) | (refine evd_lstD ?_ (by decide)) | exact evd_i ev_c | exact evd_b ev_c | exact evd_s ev_c | exact evd_n ev_c | exact evd_i (ev_neg ev_c) | exact evd_i (ev_is (ev_op (ev_op ev_c ev_c (rv_I (by unfold CPow; decide))) ev_c rv_add) (by decide))) (by decide)) (by decide)) (fun ov H4 x4 ⟨dO, hdo, ho⟩ => ?_)
  have x24 := x3.trans x4
  refine qd_asg (evd_tupLD (eld_lcR2 (n := 41) (lo := 1) (fun i => rw2 (.int (1 + (i : Int))) (.int 0)) (ea_cons ev_c (ea_cons ev_c ea_nil)) (by decide) (by decide) (fun _ => rfl) (fun _ _ => et_true fun _ _ _ q => q) (fun m => ?_) (fun i H5 e5 hi => evd_tupD (eda_d (evd_i (ev_var rfl)) (eda_d (evd_i ev_c) eda_d0)) (show 2 ≤ 100000 by decide)))) (fun fv H5 e5 hf => ?_)
  · have h : ∀ l : List Nat, noLs (l.map fun (i : Nat) => rw2 (.int (1 + (i : Int))) (.int 0)) = true := fun l => by
      induction l with
      | nil => rfl
      | cons i l ih =>
        rw [List.map_cons]
        show (true && noLs _) = true
        rw [ih]
        rfl
    exact h _
  have hp4 := x24.pen
  have hp5 : Pen H5 p := hp4.same e5
  have x25 := x24.ex e5
  have a1 : Dp K H5 wv dw := Dp.ext e5 (x4.dp hp3 hw)
  have a2 : Dp K H5 ov dO := Dp.ext e5 ho
  have a3 : Dp K H5 v1 (rowsD ns) := x25.dp hp2 ((h1.ext e12).dp)
  obtain ⟨w1, w2, w3, w4⟩ := wrong_ok dw hdw
  obtain ⟨o1, o2, o3⟩ := odd_ok dO (List.mem_append_left _ hdo)
  obtain ⟨f1, f2, f3⟩ := odd_ok (.tuple farL) (List.mem_append_right _ List.mem_cons_self)
  have hLt : ∀ d, asTup (rowsD d) = rowsD d := fun d => rfl
  have hm : ∀ v H1 H2, Ex H1 H2 → SpoilAt K H1 v → SpoilAt K H2 v := fun v H1 H2 e h => h.ext e
  refine sd_ret (evd_lstAll hm (eda_all hm (evd_spoil (ev_var rfl) (ev_var rfl) (ev_var rfl) a1 a2 w2 (.inl ⟨rfl, rfl, w1, w3, w4⟩)) (eda_all hm (evd_spoil (ev_var rfl) (ev_var rfl) (ev_var rfl) a3 a2 htx (.inr ⟨rfl, rfl, hst, o1, o2, o3⟩))
    (eda_all hm (evd_spoil (ev_var rfl) (ev_var rfl) (ev_var rfl) a3 hf.dp htx (.inr ⟨rfl, rfl, hst, f1, f2, f3⟩)) eda_all0))) (by decide)) (fun v H6 e6 ⟨l, xs, hv, hl, hn, ha⟩ => ?_)
  rw [hv]
  exact hQ l xs H6 ((Px.of hp e12).trans (x25.ex e6)) hl hn ha
end
end Kb
set_option Elab.async false
set_option linter.all false
set_option maxRecDepth 100000
set_option maxHeartbeats 4000000
namespace Kb
open PySem PySem.Spec PyProof.Rows L2 LamX Evl
theorem LS.px {K : PySem.W.Frag} {H H' : Hp} {p : Addr × Addr} {v : V} {ns cs : List (Key × Int)} (h : LS K H v ns cs) (hp : Pen H p) (x : Px p H H') : LS K H' v ns cs := by
  obtain ⟨t, v1, v2, h1, h2, h3, h4⟩ := h
  exact ⟨t, v1, v2, h1, x.t hp h2, x.pd hp h3, x.pd hp h4⟩
theorem noL_rows : ∀ ns : List (Key × Int), noL (rowsD ns) = true := fun ns => by
  show noLs (ns.map rowD) = true
  induction ns with
  | nil => rfl
  | cons p r ih =>
    rw [List.map_cons]
    show (noL (rowD p) && noLs _) = true
    rw [ih]
    obtain ⟨k, i⟩ := p
    cases k <;> rfl
theorem StM.sm {K : PySem.W.Frag} {H H' : Hp} {C a : Addr} {ns cs : List (Key × Int)} (h : StM K H C a ns cs) (e : Sm H H') : StM K H' C a ns cs := by
  obtain ⟨dx, v1, v2, h1, h2, h3⟩ := h.ex
  exact ⟨⟨dx, v1, v2, e _ _ h1 rfl, e.pd h2 (noL_rows _), e.pd h3 (noL_rows _)⟩, h.n1, h.n2⟩
theorem LS.sm {K : PySem.W.Frag} {H H' : Hp} {v : V} {ns cs : List (Key × Int)} (h : LS K H v ns cs) (e : Sm H H') : LS K H' v ns cs := by
  obtain ⟨t, v1, v2, h1, h2, h3, h4⟩ := h
  exact ⟨t, v1, v2, h1, e.t h2, e.pd h3 (noL_rows _), e.pd h4 (noL_rows _)⟩
theorem SpoilAt.sm {K : PySem.W.Frag} {H H' : Hp} {x : V} (h : SpoilAt K H x) (e : ExtN H H') : SpoilAt K H' x := by
  obtain ⟨t, a, b, due, d1, d2, h1, h2, h3, h4, h5, h6⟩ := h
  refine ⟨t, a, b, due, d1, d2, h1, extN_t e h2, dp_extN e h3, dp_extN e h4, h5, ?_⟩
  rcases h6 with ⟨a1, a2, a3⟩ | ⟨a1, a2, a3, a4⟩
  · exact .inl ⟨a1, extN_t e a2, a3⟩
  · exact .inr ⟨a1, a2, extN_t e a3, a4⟩
def oddT : List PyData := [.none, .str ".0", .str "_", .str "new", .int 5, .str "X"]
def noneT : List PyData := [.none, .int 0, .int (-1), .bool true, .int 1000001]
theorem odd_t : ∀ d ∈ oddT, noL d = true ∧ d.hasDict = false ∧ Sh d ∧ plainD d = false ∧ TxtOk d := by
  have h : (oddT.all fun d => noL d && (!d.hasDict && (shB d && (!plainD d && txtB d)))) = true := by decide +kernel
  intro d hd
  have := List.all_eq_true.mp h d hd
  simp only [Bool.and_eq_true, Bool.not_eq_true'] at this
  exact ⟨this.1, this.2.1, shB_ok this.2.2.1, this.2.2.2.1, txtB_ok this.2.2.2.2⟩
theorem none_t : ∀ d ∈ noneT, noL d = true ∧ d.hasDict = false ∧ Sh d ∧ addrD d = false := by
  have h : (noneT.all fun d => noL d && (!d.hasDict && (shB d && !addrD d))) = true := by decide +kernel
  intro d hd
  have := List.all_eq_true.mp h d hd
  simp only [Bool.and_eq_true, Bool.not_eq_true'] at this
  exact ⟨this.1, this.2.1, shB_ok this.2.2.1, this.2.2.2⟩
structure Fc (K : PySem.W.Frag) (C : Addr) (p : Addr × Addr) (a : Addr) (ns : List (Key × Int)) (cells : List (Int × Int)) (T : List (Addr × Str)) (vb vo vn : V) (dB dO dN : PyData) (H : Hp) : Prop where
  p : Pen H p
  t : Tabs T H
  m : StM K H C a ns (cells.map cI)
  b : Dp K H vb dB
  o : Dp K H vo dO
  n : Dp K H vn dN
section
variable {K : PySem.W.Frag} {C : Addr} {p : Addr × Addr} {a : Addr} {ns : List (Key × Int)} {cells : List (Int × Int)} {T : List (Addr × Str)} {vb vo vn : V} {dB dO dN : PyData} {H H' H0 : Hp}
theorem Fc.xn (h : Fc K C p a ns cells T vb vo vn dB dO dN H) (k1 : noL dB = true) (k2 : noL dO = true) (k3 : noL dN = true) (x : XN T H H') : Fc K C p a ns cells T vb vo vn dB dO dN H' :=
  ⟨h.p.extN x.e, x.t, h.m.sm (Sm.extN x.e), dp_extN x.e h.b, dp_extN x.e h.o, dp_extN x.e h.n⟩
theorem Fc.mu (h : Fc K C p a ns cells T vb vo vn dB dO dN H) (k1 : noL dB = true) (k2 : noL dO = true) (k3 : noL dN = true) (h0 : Pen H0 p) {l : Addr} {xs ys : List V} (hl0 : H0 l = none) (hl : H l = some (.lst xs)) : Fc K C p a ns cells T vb vo vn dB dO dN (upd H l (.lst ys)) :=
  ⟨h0.put h.p hl0, Tabs.mu hl h.t, h.m.sm (Sm.mu hl), (Sm.mu hl).dp h.b k1, (Sm.mu hl).dp h.o k2, (Sm.mu hl).dp h.n k3⟩
end
def spRef (K : PySem.W.Frag) (C tb : Addr) : SpZ := fun _ _ vs H Q => ∃ (p : Addr × Addr) (a : Addr) (v : V) (zs : List Str) (ns : List (Key × Int)) (cells : List (Int × Int)), vs = [.ref p.1, .ref a, v] ∧ Pen H p ∧ Tabs (lamT "_law_refusals_right" tb) H ∧ StM K H C a ns (cells.map cI) ∧ LS K H v ns (cells.map cI) ∧
  storeD (rowsD ns) = true ∧ RowsTxt (rowsD ns) ∧ ns.length + 2 * cells.length < 64 ∧ noL (.tuple [rowsD ns, rowsD (cells.map cI)]) = true ∧ Sh (.tuple [rowsD ns, rowsD (cells.map cI)]) ∧ PyData.hasDict (.tuple [rowsD ns, rowsD (cells.map cI)]) = false ∧
  ∀ H', Pen H' p → Tabs (lamT "_law_refusals_right" tb) H' → Q (.bl true) H'
section
variable {P : Program} {w : World} {K : PySem.W.Frag} {mg : Str → Option Value} {base : Heap} {C BR BN : Addr} {cA : Nat → Addr} {cc tb : Addr}
theorem ok_refusals (B : Bi mg) (hc2 : cA 2 = BR) (hc1 : cA 1 = BN) (g__law_pick : Gv P w K mg base CX0 2 "_law_pick" ["pen", "some"] (spPick K)) (g__law_spoils : Gv P w K mg base CX0 3 "_law_spoils" ["pen", "state"] (spSpoils K)) (g__law_raise_so : Gz P w K mg base 9 "_law_raise_so" ["calls"] (spRaiseSo P w K mg base 7 cA))
    (m_State : Mkr P w K mg base (L2.CX P w) 5 "State" C ["self", "store", "heap"] (spSInit K C BR))
    (g_value_of : Gv P w K mg base (L2.CX P w) 4 "value_of" ["state", "term"] (spValueOf K C BR)) (g_content_at : Gv P w K mg base (L2.CX P w) 4 "content_at" ["state", "address"] (spContent K C BR BN)) (g_values_in : Gv P w K mg base (L2.CX P w) 4 "values_in" ["state"] (spValsIn K C BR))
    (g_loose_in : Gv P w K mg base (L2.CX P w) 4 "loose_in" ["state"] (spLooseIn K C BR)) (g_new_address : Gv P w K mg base (L2.CX P w) 4 "new_address" ["state"] (spNew K C BR))
    (TB : TabB base mg cc tb) (D : DfT K mg "_law_refusals_right" s__law_refusals_right ["pen", "made", "state"] cc) : Gz P w K mg base 10 "_law_refusals_right" ["pen", "made", "state"] (spRef K C tb) := by
  have nd := sc__law_refusals_right.nd
  refine D.gz sc__law_refusals_right (fun s fr vs H Q h => ?_) (fun f0 A outer s H vs Q hr hgd h => ?_)
  · obtain ⟨p, a, v, zs, ns, cells, rfl, _⟩ := h
    rfl
  have hu64 := hu64_of hr
  have hmT : (tb, (("_law_refusals_right" : Str) ++ ".<locals>.") ++ "<lambda>") ∈ lamT "_law_refusals_right" tb := List.mem_cons_self
  have huT : ∀ q ∈ lamT "_law_refusals_right" tb, q.1 = tb → q.2 = (("_law_refusals_right" : Str) ++ ".<locals>.") ++ "<lambda>" := fun q hq _ => by rw [List.mem_singleton.mp hq]
  obtain ⟨T, hT0⟩ : ∃ T, T = lamT "_law_refusals_right" tb := ⟨_, rfl⟩
  rw [← hT0] at hmT huT
  refine ⟨_, (pss_cons (ps_for PassesOwn.never rfl (piA_seq (pe_cg g__law_spoils hr rfl pass0 (pa_cons (pv 0) (pa_cons (pv 2) pa_nil)))) (pgK_tup (K := K) (n := 3) rfl rfl (pgs_cons (pg_name (i := 3) nd rfl (.inr rfl)) (pgs_cons (pg_name (i := 4) nd rfl (.inr rfl)) (pgs_cons (pg_name (i := 5) nd rfl (.inl rfl)) pgs_nil)))) (pss_one (ps_if (pt_not (pt_val (pe_cz g__law_raise_so hr hgd rfl (pa_cons (pe_lst (pa_cons (pe_tup (pa_cons (pe_lamT (T := T) TB rfl hmT huT rfl (lamS_by (by kernel_rfl))) (pa_cons (pv 5) pa_nil))) pa_nil)) pa_nil)))) (pss_one (ps_ret pe_bl)) pss_nil)))
    (pss_cons (ps_asg (pe_tup (pa_cons (pe_cg g__law_pick hr rfl pass0 (pa_cons (pv 0) (pa_cons (pe_lst (pa_cons pe_non (pa_cons (pv 2) (pa_cons pe_int pa_nil)))) pa_nil))) (pa_cons (pe_cg g__law_pick hr rfl pass0 (pa_cons (pv 0) (pa_cons (pe_lst (pa_cons pe_non (pa_cons pe_str (pa_cons pe_str (pa_cons pe_str (pa_cons pe_int (pa_cons pe_str pa_nil))))))) pa_nil))) (pa_cons (pe_cg g__law_pick hr rfl pass0 (pa_cons (pv 0) (pa_cons (pe_lst (pa_cons pe_non (pa_cons pe_int (pa_cons (pe_un un_neg pe_int) (pa_cons pe_bl (pa_cons (pe_op (r := rAdd K) opA_add (pe_op op_pow pe_int pe_int) pe_int) pa_nil)))))) pa_nil))) pa_nil)))) (pgK_tup (K := K) (n := 3) rfl rfl (pgs_cons (pg_name (i := 6) nd rfl (.inr rfl)) (pgs_cons (pg_name (i := 7) nd rfl (.inr rfl)) (pgs_cons (pg_name (i := 8) nd rfl (.inr rfl)) pgs_nil)))))
    (pss_cons (ps_set (i := 9) nd rfl (.inl rfl) (pe_lst (pa_cons (pe_tup (pa_cons (pe_lamT (T := T) TB rfl hmT huT rfl (lamS_by (by kernel_rfl))) (pa_cons (pe_tup (pa_cons pe_str (pa_cons pe_str (pa_cons (pv 6) pa_nil)))) pa_nil))) pa_nil)))
    (pss_cons (ps_expr (pe_bmK (K := K) rfl PySem.F.plainAttrs_list PySem.F.slot_list_append PySem.F.type_list_append mt_append (pv 9) (pa_cons (pe_tup (pa_cons (pe_lamT (T := T) TB rfl hmT huT rfl (lamS_by (by kernel_rfl))) (pa_cons (pe_tup (pa_cons pe_str (pa_cons pe_str (pa_cons (pv 7) pa_nil)))) pa_nil))) pa_nil)))
    (pss_cons (ps_expr (pe_bmK (K := K) rfl PySem.F.plainAttrs_list PySem.F.slot_list_append PySem.F.type_list_append mt_append (pv 9) (pa_cons (pe_tup (pa_cons (pe_lamT (T := T) TB rfl hmT huT rfl (lamS_by (by kernel_rfl))) (pa_cons (pe_tup (pa_cons pe_str (pa_cons pe_str (pa_cons (pv 6) pa_nil)))) pa_nil))) pa_nil)))
    (pss_cons (ps_expr (pe_bmK (K := K) rfl PySem.F.plainAttrs_list PySem.F.slot_list_append PySem.F.type_list_append mt_append (pv 9) (pa_cons (pe_tup (pa_cons (pe_lamT (T := T) TB rfl hmT huT rfl (lamS_by (by kernel_rfl))) (pa_cons (pe_tup (pa_cons pe_str (pa_cons pe_str (pa_cons (pv 8) pa_nil)))) pa_nil))) pa_nil)))
    (pss_cons (ps_expr (pe_bmK (K := K) rfl PySem.F.plainAttrs_list PySem.F.slot_list_append PySem.F.type_list_append mt_append (pv 9) (pa_cons (pe_tup (pa_cons (pe_lamT (T := T) TB rfl hmT huT rfl (lamS_by (by kernel_rfl))) (pa_cons (pe_tup (pa_cons pe_str (pa_cons pe_str (pa_cons (pv 6) pa_nil)))) pa_nil))) pa_nil)))
    (pss_cons (ps_expr (pe_bmK (K := K) rfl PySem.F.plainAttrs_list PySem.F.slot_list_append PySem.F.type_list_append mt_append (pv 9) (pa_cons (pe_tup (pa_cons (pe_lamT (T := T) TB rfl hmT huT rfl (lamS_by (by kernel_rfl))) (pa_cons (pe_tup (pa_cons pe_str (pa_cons pe_str (pa_cons (pv 6) pa_nil)))) pa_nil))) pa_nil)))
    (pss_cons (ps_expr (pe_bmK (K := K) rfl PySem.F.plainAttrs_list PySem.F.slot_list_append PySem.F.type_list_append mt_append (pv 9) (pa_cons (pe_tup (pa_cons (pe_lamT (T := T) TB rfl hmT huT rfl (lamS_by (by kernel_rfl))) (pa_cons (pe_tup (pa_cons pe_str (pa_cons pe_str (pa_cons (pv 6) pa_nil)))) pa_nil))) pa_nil)))
    (pss_cons (ps_if (pt_not (pt_val (pe_cz g__law_raise_so hr hgd rfl (pa_cons (pv 9) pa_nil)))) (pss_one (ps_ret pe_bl)) pss_nil)
    (pss_one (ps_ret pe_bl)))))))))))), ?_⟩
  obtain ⟨p, a, v, zs, ns, cells, rfl, hp, hT, hM, hLS, hst, htx, h64, hnL, hSh, hnd, hQ⟩ := h
  rw [← hT0] at hT hQ
  have hsD : Dp K H v (.tuple [rowsD ns, rowsD (cells.map cI)]) := hLS.dp
  refine q_forErD hp (Ψ := fun xs H1 => ∀ x ∈ xs, SpoilAt K H1 x) (fun H1 x1 Q q => ((ea_cons (ev_var rfl) (ea_cons (ev_var rfl) ea_nil)) : EvA _ _ _ [.ref p.1, v]) H1 (Ex.refl H1) _ fun H2 e2 => ⟨p, v, ns, cells.map cI, rfl, x1.pen.same e2, (hLS.px hp x1).ext e2, hst, htx, fun l xs H3 x3 hl hn hall => q _ _ ((Px.of x1.pen e2).trans x3) ⟨l, xs, rfl, hl, hall⟩⟩) (fun l xs H1 x1 hl hall => ?_)
  have hp1 := x1.pen
  have hT1 : Tabs T H1 := Tabs.px hp x1 hT
  refine ⟨fun i σ' H' => (∃ o3 o4 o5, σ' = [some (.ref p.1), some (.ref a), some v, o3, o4, o5, none, none, none, none]) ∧ XN T H1 H', ⟨⟨_, _, _, rfl⟩, XN.of hT1 (Ex.refl H1)⟩, (fun i σ' H' _ z => sq_of (z.2.e _ _ hl (fun _ z => nomatch z))), (fun i x σ' H' hx z => ?_), (fun σ' H' z => ?_)⟩
  · obtain ⟨⟨o3, o4, o5, e⟩, xn⟩ := z
    subst e
    have hp' : Pen H' p := hp1.extN xn.e
    obtain ⟨t, fa, sa, due, d1, d2, rfl, ht, ha1, ha2, htx1, hcase⟩ := (hall x (List.mem_of_getElem? hx)).sm xn.e
    refine ⟨t, _, rfl, ht, rfl, fa, [sa, .ref due], rfl, sa, [.ref due], rfl, .ref due, [], rfl, rfl, ?_⟩
    have hall : ∃ what c d, SqT K H' due ([.str "row", .str what] ++ [c]) ∧ Dp K H' c d ∧ d.hasDict = false ∧ Sh d ∧ ((what = "store" ∧ c = fa ∧ storeD (asTup d1) = false) ∨ (what = "heap" ∧ c = sa ∧ storeD (asTup d1) = true ∧ heapD (asTup d2) = false)) := by
      rcases hcase with ⟨b1, h, b2, b3⟩ | ⟨b1, b2, h, b3, b4⟩
      · exact ⟨"store", fa, d1, h, ha1, b2, b3, .inl ⟨rfl, rfl, b1⟩⟩
      · exact ⟨"heap", sa, d2, h, ha2, b3, b4, .inr ⟨rfl, rfl, b1, b2⟩⟩
    obtain ⟨what, c, d, hdue, hcd, hcn, hcs, hw⟩ := hall
    refine if_cz (lst1 (rd_item (T := T) (ds := [.str "row", .str what] ++ [c]) xn.t (fun H2 e2 Q' q => (ev_var rfl) H2 (Ex.refl H2) _ fun H3 e3 => q due H3 e3 (ex_t e3 ((Sm.extN e2).t hdue))) (fun tup H2 xn2 hitm => ⟨show 1 ≤ sizeLine by decide, fun l2 hl2 pins s1 I => ⟨l2, [.ref tup], rfl, sq_of upd_same, fun x hx => ?_, fun H4 e4 => ⟨true, rfl, ?_⟩⟩⟩)))
    · rw [List.mem_singleton.mp hx]
      have e3 : Ex H2 (upd H2 l2 (.lst [.ref tup])) := Ex.new hl2
      have eN : ExtN H' (upd H2 l2 (.lst [.ref tup])) := xn2.e.trans (ExtN.of e3)
      refine rsItem_of (c := 2) (fs := [("row", c), ("what", .str what)]) (ys := [.str "row", .str what]) (es := [.str "row", .str what]) (d := d) (tb := fun E => tMake C (spSInit K C BR) [] E (tCons (tVar 3) (tCons (tVar 4) tNil))) I (fun _ => rfl) rfl rfl (lamS_by (by kernel_rfl)) (hitm.sm (Sm.of e3)) (fun cl pm cv ctv => by rfl)
        (fun f c' A outer s H E hr' => pe_mk m_State hr' rfl (passes_call (takes_of rfl rfl rfl rfl) (fun _ _ _ _ h => h)) (pa_cons (pv 3) (pa_cons (pv 4) pa_nil))) (by decide) (fun H5 E e5 hR => ?_) ⟨_, _, rfl, rfl, rfl⟩ (.cons (.str _) (.cons (.str _) .nil)) ?_ (dp_extN eN hcd) hcn hcs
      · rw [hc2] at hR
        have eN5 := eN.trans (ExtN.of e5)
        rcases hw with ⟨rfl, rfl, b1⟩ | ⟨rfl, rfl, b1, b2⟩
        · exact rx_state1 (ea_cons (ev_var rfl) (ea_cons (ev_var rfl) ea_nil)) (dp_extN eN5 ha1) (dp_extN eN5 ha2) htx1 b1 hR
        · exact rx_state2 (ea_cons (ev_var rfl) (ea_cons (ev_var rfl) ea_nil)) (dp_extN eN5 ha1) (dp_extN eN5 ha2) htx1 b1 b2 hR
      · rcases hw with ⟨rfl, _⟩ | ⟨rfl, _⟩ <;> decide +kernel
    · show (∃ o3 o4 o5, _ = _) ∧ XN T H1 H4
      exact ⟨⟨_, _, _, rfl⟩, xn.trans (xn2.trans (XN.of xn2.t ((Ex.new hl2).trans e4)))⟩
  · obtain ⟨⟨o3, o4, o5, e⟩, xn⟩ := z
    subst e
    have hp' : Pen H' p := hp1.extN xn.e
    have s0 : Sm H H' := (Sm.px hp x1).trans (Sm.extN xn.e)
    have hM' := hM.sm s0
    have hsD' := (hLS.sm s0).dp
    obtain ⟨stD, hstD⟩ : ∃ d, d = PyData.tuple [rowsD ns, rowsD (cells.map cI)] := ⟨_, rfl⟩
    rw [← hstD] at hsD' hnL hSh hnd
    have sm_none : Sh .none := shB_ok (by decide +kernel)
    refine qr_asgU3 hp' (R := fun x y z H => (∃ d ∈ [.none, stD, .int 5], Dp K H x d) ∧ (∃ d ∈ oddT, Dp K H y d) ∧ ∃ d ∈ noneT, Dp K H z d) ((era_cons (er_pickLD (ds := [.none, stD, .int 5]) (fun H2 x2 => ev_var rfl) (fun H2 x2 => eld_lst (eda_d (evd_n ev_c) (eda_d (evd_c (ev_var rfl) (fun H3 e3 => Dp.ext e3 (x2.dp hp' hsD'))) (eda_d (evd_i ev_c) eda_d0))) (show 3 ≤ 100000 by decide)) ⟨show 0 < 3 by decide, show 3 < 1073741824 by decide⟩)
      (era_cons (er_pickLD (ds := oddT) (fun H2 x2 => ev_var rfl) (fun H2 x2 => eld_lst (by repeat' first | exact eda_d0 | apply eda_d | (refine evd_tupD ?_ (by decide)) | (refine evd_lstD ?_ (by decide)) | exact evd_i ev_c | exact evd_b ev_c | exact evd_s ev_c | exact evd_n ev_c | exact evd_i (ev_neg ev_c) | exact evd_i (ev_is (ev_op (ev_op ev_c ev_c (rv_I (by unfold CPow; decide))) ev_c rv_add) (by decide))) (by decide)) (by decide)) (era1 (er_pickLD (ds := noneT) (fun H2 x2 => ev_var rfl) (fun H2 x2 => eld_lst (by repeat' first | exact eda_d0 | apply eda_d | (refine evd_tupD ?_ (by decide)) | (refine evd_lstD ?_ (by decide)) | exact evd_i ev_c | exact evd_b ev_c | exact evd_s ev_c | exact evd_n ev_c | exact evd_i (ev_neg ev_c) | exact evd_i (ev_is (ev_op (ev_op ev_c ev_c (rv_I (by unfold CPow; decide))) ev_c rv_add) (by decide))) (by decide)) (by decide))) (fun v H2 H3 x2 x3 ⟨d, hd, h⟩ => ⟨d, hd, x3.dp x2.pen h⟩)) (fun v H2 H3 x2 x3 ⟨d, hd, h⟩ => ⟨d, hd, x3.dp x2.pen h⟩)).imp (fun vs H2 x2 ⟨b, r, e, hb, y, r2, e2, hy, z, e3, hz⟩ => ⟨b, y, z, by rw [e, e2, e3], hb, hy, hz⟩))
      (fun x y z H2 H3 e ⟨⟨d1, a1, b1⟩, ⟨d2, a2, b2⟩, ⟨d3, a3, b3⟩⟩ => ⟨⟨d1, a1, Dp.ext e b1⟩, ⟨d2, a2, Dp.ext e b2⟩, ⟨d3, a3, Dp.ext e b3⟩⟩) (fun b y z H2 x2 hR => ?_)
    obtain ⟨⟨dB, hdB, hB⟩, ⟨dO, hdO, hO⟩, ⟨dN, hdN, hN⟩⟩ := hR
    have hp2 := x2.pen
    have hT2 : Tabs T H2 := Tabs.px hp' x2 xn.t
    have hM2 := hM'.sm (Sm.px hp' x2)
    have kB : noL dB = true ∧ dB.hasDict = false ∧ Sh dB := by
      simp only [List.mem_cons, List.not_mem_nil, or_false] at hdB
      rcases hdB with rfl | rfl | rfl
      · exact ⟨rfl, rfl, sm_none⟩
      · exact ⟨hnL, hnd, hSh⟩
      · exact ⟨rfl, rfl, shB_ok (by decide +kernel)⟩
    have kO := odd_t dO hdO
    have kN := none_t dN hdN
    have F2 : Fc K C p a ns cells T b y z dB dO dN H2 := ⟨hp2, hT2, hM2, hB, hO, hN⟩
    refine q_asgT (lst1 (rd_item (K := K) (T := T) (ds := [.str "row", .str "state"] ++ [b]) hT2 (fun Hx ex Q' q => eu3 (x := .str "row") (y := .str "state") (z := b) (ea_cons ev_c (ea_cons ev_c (ea_cons (ev_var rfl) ea_nil))) Hx (Ex.refl Hx) Q' fun due H9 _ e9 h9 => q due H9 e9 (st_of h9)) (fun t1 H3 xn3 i1 => ⟨show 1 ≤ sizeLine by decide, fun lc hlc => ?_⟩)))
    have hlc2 : H2 lc = none := xn3.n lc hlc
    have F3 := F2.xn kB.1 kO.1 kN.1 xn3
    have e4 : Ex H3 (upd H3 lc (.lst [.ref t1])) := Ex.new hlc
    have G1 := F3.xn kB.1 kO.1 kN.1 (XN.of F3.t e4)
    have g1 : upd H3 lc (.lst [.ref t1]) lc = some (.lst [.ref t1]) := upd_same
    have i1 := i1.sm (Sm.of e4)
    revert G1 g1 i1
    generalize upd H3 lc (.lst [.ref t1]) = J1
    intro G1 g1 i1
    refine q_appItm (T := T) (ds := [.str "row", .str "term"] ++ [y]) rfl g1 (show 1 ≤ 1000 by decide) G1.t (fun Hx ex Q' q => eu3 (x := .str "row") (y := .str "term") (z := y) (ea_cons ev_c (ea_cons ev_c (ea_cons (ev_var rfl) ea_nil))) Hx (Ex.refl Hx) Q' fun due H9 _ e9 h9 => q due H9 e9 (st_of h9)) (fun t2 M2 xm2 gm2 i2 => ?_)
    have FM2 := G1.xn kB.1 kO.1 kN.1 xm2
    have sm2 : Sm M2 (upd M2 lc (.lst ([.ref t1] ++ [.ref t2]))) := Sm.mu gm2
    have G2 := FM2.mu kB.1 kO.1 kN.1 hp2 hlc2 gm2 (ys := [.ref t1] ++ [.ref t2])
    have g2 : upd M2 lc (.lst ([.ref t1] ++ [.ref t2])) lc = some (.lst [.ref t1, .ref t2]) := upd_same
    have i1 := (i1.sm (Sm.extN xm2.e)).sm sm2
    have i2 := i2.sm sm2
    clear sm2
    revert G2 g2 i1 i2
    generalize upd M2 lc (.lst ([.ref t1] ++ [.ref t2])) = J2
    intro G2 g2 i1 i2
    refine q_appItm (T := T) (ds := [.str "row", .str "state"] ++ [b]) rfl g2 (show 2 ≤ 1000 by decide) G2.t (fun Hx ex Q' q => eu3 (x := .str "row") (y := .str "state") (z := b) (ea_cons ev_c (ea_cons ev_c (ea_cons (ev_var rfl) ea_nil))) Hx (Ex.refl Hx) Q' fun due H9 _ e9 h9 => q due H9 e9 (st_of h9)) (fun t3 M3 xm3 gm3 i3 => ?_)
    have FM3 := G2.xn kB.1 kO.1 kN.1 xm3
    have sm3 : Sm M3 (upd M3 lc (.lst ([.ref t1, .ref t2] ++ [.ref t3]))) := Sm.mu gm3
    have G3 := FM3.mu kB.1 kO.1 kN.1 hp2 hlc2 gm3 (ys := [.ref t1, .ref t2] ++ [.ref t3])
    have g3 : upd M3 lc (.lst ([.ref t1, .ref t2] ++ [.ref t3])) lc = some (.lst [.ref t1, .ref t2, .ref t3]) := upd_same
    have i1 := (i1.sm (Sm.extN xm3.e)).sm sm3
    have i2 := (i2.sm (Sm.extN xm3.e)).sm sm3
    have i3 := i3.sm sm3
    clear sm3
    revert G3 g3 i1 i2 i3
    generalize upd M3 lc (.lst ([.ref t1, .ref t2] ++ [.ref t3])) = J3
    intro G3 g3 i1 i2 i3
    refine q_appItm (T := T) (ds := [.str "number", .str "address"] ++ [z]) rfl g3 (show 3 ≤ 1000 by decide) G3.t (fun Hx ex Q' q => eu3 (x := .str "number") (y := .str "address") (z := z) (ea_cons ev_c (ea_cons ev_c (ea_cons (ev_var rfl) ea_nil))) Hx (Ex.refl Hx) Q' fun due H9 _ e9 h9 => q due H9 e9 (st_of h9)) (fun t4 M4 xm4 gm4 i4 => ?_)
    have FM4 := G3.xn kB.1 kO.1 kN.1 xm4
    have sm4 : Sm M4 (upd M4 lc (.lst ([.ref t1, .ref t2, .ref t3] ++ [.ref t4]))) := Sm.mu gm4
    have G4 := FM4.mu kB.1 kO.1 kN.1 hp2 hlc2 gm4 (ys := [.ref t1, .ref t2, .ref t3] ++ [.ref t4])
    have g4 : upd M4 lc (.lst ([.ref t1, .ref t2, .ref t3] ++ [.ref t4])) lc = some (.lst [.ref t1, .ref t2, .ref t3, .ref t4]) := upd_same
    have i1 := (i1.sm (Sm.extN xm4.e)).sm sm4
    have i2 := (i2.sm (Sm.extN xm4.e)).sm sm4
    have i3 := (i3.sm (Sm.extN xm4.e)).sm sm4
    have i4 := i4.sm sm4
    clear sm4
    revert G4 g4 i1 i2 i3 i4
    generalize upd M4 lc (.lst ([.ref t1, .ref t2, .ref t3] ++ [.ref t4])) = J4
    intro G4 g4 i1 i2 i3 i4
    refine q_appItm (T := T) (ds := [.str "row", .str "state"] ++ [b]) rfl g4 (show 4 ≤ 1000 by decide) G4.t (fun Hx ex Q' q => eu3 (x := .str "row") (y := .str "state") (z := b) (ea_cons ev_c (ea_cons ev_c (ea_cons (ev_var rfl) ea_nil))) Hx (Ex.refl Hx) Q' fun due H9 _ e9 h9 => q due H9 e9 (st_of h9)) (fun t5 M5 xm5 gm5 i5 => ?_)
    have FM5 := G4.xn kB.1 kO.1 kN.1 xm5
    have sm5 : Sm M5 (upd M5 lc (.lst ([.ref t1, .ref t2, .ref t3, .ref t4] ++ [.ref t5]))) := Sm.mu gm5
    have G5 := FM5.mu kB.1 kO.1 kN.1 hp2 hlc2 gm5 (ys := [.ref t1, .ref t2, .ref t3, .ref t4] ++ [.ref t5])
    have g5 : upd M5 lc (.lst ([.ref t1, .ref t2, .ref t3, .ref t4] ++ [.ref t5])) lc = some (.lst [.ref t1, .ref t2, .ref t3, .ref t4, .ref t5]) := upd_same
    have i1 := (i1.sm (Sm.extN xm5.e)).sm sm5
    have i2 := (i2.sm (Sm.extN xm5.e)).sm sm5
    have i3 := (i3.sm (Sm.extN xm5.e)).sm sm5
    have i4 := (i4.sm (Sm.extN xm5.e)).sm sm5
    have i5 := i5.sm sm5
    clear sm5
    revert G5 g5 i1 i2 i3 i4 i5
    generalize upd M5 lc (.lst ([.ref t1, .ref t2, .ref t3, .ref t4] ++ [.ref t5])) = J5
    intro G5 g5 i1 i2 i3 i4 i5
    refine q_appItm (T := T) (ds := [.str "row", .str "state"] ++ [b]) rfl g5 (show 5 ≤ 1000 by decide) G5.t (fun Hx ex Q' q => eu3 (x := .str "row") (y := .str "state") (z := b) (ea_cons ev_c (ea_cons ev_c (ea_cons (ev_var rfl) ea_nil))) Hx (Ex.refl Hx) Q' fun due H9 _ e9 h9 => q due H9 e9 (st_of h9)) (fun t6 M6 xm6 gm6 i6 => ?_)
    have FM6 := G5.xn kB.1 kO.1 kN.1 xm6
    have sm6 : Sm M6 (upd M6 lc (.lst ([.ref t1, .ref t2, .ref t3, .ref t4, .ref t5] ++ [.ref t6]))) := Sm.mu gm6
    have G6 := FM6.mu kB.1 kO.1 kN.1 hp2 hlc2 gm6 (ys := [.ref t1, .ref t2, .ref t3, .ref t4, .ref t5] ++ [.ref t6])
    have g6 : upd M6 lc (.lst ([.ref t1, .ref t2, .ref t3, .ref t4, .ref t5] ++ [.ref t6])) lc = some (.lst [.ref t1, .ref t2, .ref t3, .ref t4, .ref t5, .ref t6]) := upd_same
    have i1 := (i1.sm (Sm.extN xm6.e)).sm sm6
    have i2 := (i2.sm (Sm.extN xm6.e)).sm sm6
    have i3 := (i3.sm (Sm.extN xm6.e)).sm sm6
    have i4 := (i4.sm (Sm.extN xm6.e)).sm sm6
    have i5 := (i5.sm (Sm.extN xm6.e)).sm sm6
    have i6 := i6.sm sm6
    clear sm6
    revert G6 g6 i1 i2 i3 i4 i5 i6
    generalize upd M6 lc (.lst ([.ref t1, .ref t2, .ref t3, .ref t4, .ref t5] ++ [.ref t6])) = J6
    intro G6 g6 i1 i2 i3 i4 i5 i6
    refine q_appItm (T := T) (ds := [.str "row", .str "state"] ++ [b]) rfl g6 (show 6 ≤ 1000 by decide) G6.t (fun Hx ex Q' q => eu3 (x := .str "row") (y := .str "state") (z := b) (ea_cons ev_c (ea_cons ev_c (ea_cons (ev_var rfl) ea_nil))) Hx (Ex.refl Hx) Q' fun due H9 _ e9 h9 => q due H9 e9 (st_of h9)) (fun t7 M7 xm7 gm7 i7 => ?_)
    have FM7 := G6.xn kB.1 kO.1 kN.1 xm7
    have sm7 : Sm M7 (upd M7 lc (.lst ([.ref t1, .ref t2, .ref t3, .ref t4, .ref t5, .ref t6] ++ [.ref t7]))) := Sm.mu gm7
    have G7 := FM7.mu kB.1 kO.1 kN.1 hp2 hlc2 gm7 (ys := [.ref t1, .ref t2, .ref t3, .ref t4, .ref t5, .ref t6] ++ [.ref t7])
    have g7 : upd M7 lc (.lst ([.ref t1, .ref t2, .ref t3, .ref t4, .ref t5, .ref t6] ++ [.ref t7])) lc = some (.lst [.ref t1, .ref t2, .ref t3, .ref t4, .ref t5, .ref t6, .ref t7]) := upd_same
    have i1 := (i1.sm (Sm.extN xm7.e)).sm sm7
    have i2 := (i2.sm (Sm.extN xm7.e)).sm sm7
    have i3 := (i3.sm (Sm.extN xm7.e)).sm sm7
    have i4 := (i4.sm (Sm.extN xm7.e)).sm sm7
    have i5 := (i5.sm (Sm.extN xm7.e)).sm sm7
    have i6 := (i6.sm (Sm.extN xm7.e)).sm sm7
    have i7 := i7.sm sm7
    clear sm7
    revert G7 g7 i1 i2 i3 i4 i5 i6 i7
    generalize upd M7 lc (.lst ([.ref t1, .ref t2, .ref t3, .ref t4, .ref t5, .ref t6] ++ [.ref t7])) = J7
    intro G7 g7 i1 i2 i3 i4 i5 i6 i7
    refine q_ifcz ((ev_var rfl) J7 (Ex.refl J7) _ fun J8 e8 => fun pins s1 I => ⟨lc, _, rfl, sq_of (e8 _ _ g7), fun x hx => ?_, fun J9 e9 => ⟨true, rfl, ?_⟩⟩)
    · have G8 := G7.xn kB.1 kO.1 kN.1 (XN.of G7.t e8)
      simp only [List.mem_cons, List.not_mem_nil, or_false] at hx
      rcases hx with rfl | rfl | rfl | rfl | rfl | rfl | rfl
      · refine rsItem_of (c := 2) (fs := [("row", b), ("what", .str "state")]) (ys := [.str "row", .str "state"]) (es := [.str "row", .str "state"]) (d := dB) (tb := fun E => tCall (spValueOf K C BR) [] E (tCons (tVar 6) (tCons (tVar 7) tNil))) I (fun _ => rfl) rfl rfl (lamS_by (by kernel_rfl)) (i1.sm (Sm.of e8)) (fun cl pm cv ctv => by rfl)
          (fun f c' A outer s H E hr' => pe_cg g_value_of hr' rfl (passes_call (takes_of rfl rfl rfl rfl) (fun _ _ _ _ h => h)) (pa_cons (pv 6) (pa_cons (pv 7) pa_nil))) (by decide) (fun H5 E e5 hR => ?_) ⟨_, _, rfl, rfl, rfl⟩ (.cons (.str _) (.cons (.str _) .nil)) (by decide +kernel) G8.b kB.2.1 kB.2.2
        rw [hc2] at hR
        exact rx_call (dvs := []) (ea_cons (ev_var rfl) (ea_cons (ev_var rfl) ea_nil)) (fun H6 e69 Q => ⟨_, _, rfl, .inl ⟨dB, Dp.ext e69 (Dp.ext e5 G8.b), hR.ext e69⟩⟩)
      · refine rsItem_of (c := 2) (fs := [("row", y), ("what", .str "term")]) (ys := [.str "row", .str "term"]) (es := [.str "row", .str "term"]) (d := dO) (tb := fun E => tCall (spValueOf K C BR) [] E (tCons (tVar 1) (tCons (tVar 7) tNil))) I (fun _ => rfl) rfl rfl (lamS_by (by kernel_rfl)) (i2.sm (Sm.of e8)) (fun cl pm cv ctv => by rfl)
          (fun f c' A outer s H E hr' => pe_cg g_value_of hr' rfl (passes_call (takes_of rfl rfl rfl rfl) (fun _ _ _ _ h => h)) (pa_cons (pv 1) (pa_cons (pv 7) pa_nil))) (by decide) (fun H5 E e5 hR => ?_) ⟨_, _, rfl, rfl, rfl⟩ (.cons (.str _) (.cons (.str _) .nil)) (by decide +kernel) G8.o kO.2.1 kO.2.2.1
        rw [hc2] at hR
        exact rx_call (dvs := []) (ea_cons (ev_var rfl) (ea_cons (ev_var rfl) ea_nil)) (fun H6 e69 Q => ⟨_, _, rfl, .inr ⟨a, ns, cells.map cI, dO, rfl, (G8.m.ext e5).ext e69, Dp.ext e69 (Dp.ext e5 G8.o), kO.2.2.2.2, fun _ => hR.ext e69, fun z => by rw [kO.2.2.2.1] at z; cases z⟩⟩)
      · refine rsItem_of (c := 2) (fs := [("row", b), ("what", .str "state")]) (ys := [.str "row", .str "state"]) (es := [.str "row", .str "state"]) (d := dB) (tb := fun E => tCall (spContent K C BR BN) [] E (tCons (tVar 6) (tCons (tVar 8) tNil))) I (fun _ => rfl) rfl rfl (lamS_by (by kernel_rfl)) (i3.sm (Sm.of e8)) (fun cl pm cv ctv => by rfl)
          (fun f c' A outer s H E hr' => pe_cg g_content_at hr' rfl (passes_call (takes_of rfl rfl rfl rfl) (fun _ _ _ _ h => h)) (pa_cons (pv 6) (pa_cons (pv 8) pa_nil))) (by decide) (fun H5 E e5 hR => ?_) ⟨_, _, rfl, rfl, rfl⟩ (.cons (.str _) (.cons (.str _) .nil)) (by decide +kernel) G8.b kB.2.1 kB.2.2
        rw [hc2] at hR
        exact rx_call (dvs := []) (ea_cons (ev_var rfl) (ea_cons (ev_var rfl) ea_nil)) (fun H6 e69 Q => ⟨_, _, rfl, .inl ⟨dB, Dp.ext e69 (Dp.ext e5 G8.b), hR.ext e69⟩⟩)
      · refine rsItem_of (c := 1) (fs := [("number", z), ("what", .str "address")]) (ys := [.str "number", .str "address"]) (es := [.str "number", .str "address"]) (d := dN) (tb := fun E => tCall (spContent K C BR BN) [] E (tCons (tVar 1) (tCons (tVar 8) tNil))) I (fun _ => rfl) rfl rfl (lamS_by (by kernel_rfl)) (i4.sm (Sm.of e8)) (fun cl pm cv ctv => by rfl)
          (fun f c' A outer s H E hr' => pe_cg g_content_at hr' rfl (passes_call (takes_of rfl rfl rfl rfl) (fun _ _ _ _ h => h)) (pa_cons (pv 1) (pa_cons (pv 8) pa_nil))) (by decide) (fun H5 E e5 hR => ?_) ⟨_, _, rfl, rfl, rfl⟩ (.cons (.str _) (.cons (.str _) .nil)) (by decide +kernel) G8.n kN.2.1 kN.2.2.1
        rw [hc1] at hR
        exact rx_call (dvs := []) (ea_cons (ev_var rfl) (ea_cons (ev_var rfl) ea_nil)) (fun H6 e69 Q => ⟨_, _, rfl, .inr ⟨a, ns, cells.map cI, dN, rfl, (G8.m.ext e5).ext e69, Dp.ext e69 (Dp.ext e5 G8.n), fun _ => hR.ext e69, fun z => by rw [kN.2.2.2] at z; cases z⟩⟩)
      · refine rsItem_of (c := 2) (fs := [("row", b), ("what", .str "state")]) (ys := [.str "row", .str "state"]) (es := [.str "row", .str "state"]) (d := dB) (tb := fun E => tCall (spValsIn K C BR) [] E (tCons (tVar 6) tNil)) I (fun _ => rfl) rfl rfl (lamS_by (by kernel_rfl)) (i5.sm (Sm.of e8)) (fun cl pm cv ctv => by rfl)
          (fun f c' A outer s H E hr' => pe_cg g_values_in hr' rfl (passes_call (takes_of rfl rfl rfl rfl) (fun _ _ _ _ h => h)) (pa_cons (pv 6) pa_nil)) (by decide) (fun H5 E e5 hR => ?_) ⟨_, _, rfl, rfl, rfl⟩ (.cons (.str _) (.cons (.str _) .nil)) (by decide +kernel) G8.b kB.2.1 kB.2.2
        rw [hc2] at hR
        exact rx_call (dvs := []) (ea_cons (ev_var rfl) ea_nil) (fun H6 e69 Q => ⟨_, rfl, .inl ⟨dB, Dp.ext e69 (Dp.ext e5 G8.b), hR.ext e69⟩⟩)
      · refine rsItem_of (c := 2) (fs := [("row", b), ("what", .str "state")]) (ys := [.str "row", .str "state"]) (es := [.str "row", .str "state"]) (d := dB) (tb := fun E => tCall (spLooseIn K C BR) [] E (tCons (tVar 6) tNil)) I (fun _ => rfl) rfl rfl (lamS_by (by kernel_rfl)) (i6.sm (Sm.of e8)) (fun cl pm cv ctv => by rfl)
          (fun f c' A outer s H E hr' => pe_cg g_loose_in hr' rfl (passes_call (takes_of rfl rfl rfl rfl) (fun _ _ _ _ h => h)) (pa_cons (pv 6) pa_nil)) (by decide) (fun H5 E e5 hR => ?_) ⟨_, _, rfl, rfl, rfl⟩ (.cons (.str _) (.cons (.str _) .nil)) (by decide +kernel) G8.b kB.2.1 kB.2.2
        rw [hc2] at hR
        exact rx_call (dvs := []) (ea_cons (ev_var rfl) ea_nil) (fun H6 e69 Q => ⟨_, rfl, .inl ⟨dB, Dp.ext e69 (Dp.ext e5 G8.b), hR.ext e69⟩⟩)
      · refine rsItem_of (c := 2) (fs := [("row", b), ("what", .str "state")]) (ys := [.str "row", .str "state"]) (es := [.str "row", .str "state"]) (d := dB) (tb := fun E => tCall (spNew K C BR) [] E (tCons (tVar 6) tNil)) I (fun _ => rfl) rfl rfl (lamS_by (by kernel_rfl)) (i7.sm (Sm.of e8)) (fun cl pm cv ctv => by rfl)
          (fun f c' A outer s H E hr' => pe_cg g_new_address hr' rfl (passes_call (takes_of rfl rfl rfl rfl) (fun _ _ _ _ h => h)) (pa_cons (pv 6) pa_nil)) (by decide) (fun H5 E e5 hR => ?_) ⟨_, _, rfl, rfl, rfl⟩ (.cons (.str _) (.cons (.str _) .nil)) (by decide +kernel) G8.b kB.2.1 kB.2.2
        rw [hc2] at hR
        exact rx_call (dvs := []) (ea_cons (ev_var rfl) ea_nil) (fun H6 e69 Q => ⟨_, rfl, .inl ⟨dB, Dp.ext e69 (Dp.ext e5 G8.b), hR.ext e69⟩⟩)
    · have e89 := e8.trans e9
      exact s_ret ev_c fun J10 e10 => hQ J10 (G7.p.same (e89.trans e10)) (G7.t.ext (e89.trans e10))
end
end Kb
set_option Elab.async false
set_option linter.all false
set_option maxRecDepth 100000
set_option maxHeartbeats 4000000
namespace Kb
open PySem PySem.Spec PyProof.Rows L2 LamX Evl
/-! ### the drawn states are right; their data are within measure -/
structure RowG (d : PyData) : Prop where
  s : d.showable = true
  c : d.canLay0 = true
  dp : d.depth ≤ 1
  w : d.weight ≤ 40
  i : d.intsShort 13 = true
  h : d.hasDict = false
def rowGB (d : PyData) : Bool := d.showable && (d.canLay0 && (decide (d.depth ≤ 1) && (decide (d.weight ≤ 40) && (d.intsShort 13 && !d.hasDict))))
theorem rowGB_ok {d : PyData} (h : rowGB d = true) : RowG d := by
  simp only [rowGB, Bool.and_eq_true, decide_eq_true_eq, Bool.not_eq_true'] at h
  exact ⟨h.1, h.2.1, h.2.2.1, h.2.2.2.1, h.2.2.2.2.1, h.2.2.2.2.2⟩
theorem rows_g : ∀ {ds : List PyData}, (∀ d ∈ ds, RowG d) → PyData.showableAll ds = true ∧ PyData.canLayAll0 ds = true ∧ PyData.depthAll ds ≤ 1 ∧ PyData.weightAll ds ≤ 41 * ds.length ∧ PyData.intsShortAll 13 ds = true ∧ PyData.hasDictAll ds = false
  | [], _ => ⟨rfl, rfl, Nat.zero_le _, Nat.le_refl _, rfl, rfl⟩
  | d :: ds, h => by
    obtain ⟨a, b, c, e, f, g⟩ := rows_g fun x hx => h x (List.mem_cons_of_mem _ hx)
    obtain ⟨a', b', c', e', f', g'⟩ := h d List.mem_cons_self
    refine ⟨by simp [PyData.showableAll, a, a'], by simp [PyData.canLayAll0, b, b'], by simp only [PyData.depthAll]; omega, by simp only [PyData.weightAll, List.length_cons]; omega, by simp [PyData.intsShortAll, f, f'], by simp [PyData.hasDictAll, g, g']⟩
structure NsG (ns : List (Key × Int)) (zs : List Str) : Prop where
  keys : ns.map (·.1) = zs.map Sum.inr
  mem : ∀ z ∈ zs, z ∈ base6
  asc : zs.Pairwise fun a b => leS a b ∧ a ≠ b
  len : zs.length ≤ 4
  vals : ∀ q ∈ ns, 0 ≤ q.2 ∧ q.2 ≤ 16
theorem rng_mem {i : Int} {n : Nat} (h : 0 ≤ i ∧ i ≤ n) : i ∈ (List.range (n + 1)).map Int.ofNat := by
  refine List.mem_map.mpr ⟨i.toNat, List.mem_range.mpr (by omega), ?_⟩
  show ((i.toNat : Nat) : Int) = i
  omega
theorem row_name {z : Str} {i : Int} (hz : z ∈ base6) (hi : 0 ≤ i ∧ i ≤ 16) : RowG (rowD (.inr z, i)) ∧ nameD (.str z) = true ∧ valueD (.int i) = true ∧ TxtOk (.str z) := by
  have h : (base6.all fun z => ((List.range (16 + 1)).map Int.ofNat).all fun i => rowGB (rowD (.inr z, i)) && (nameD (.str z) && (valueD (.int i) && txtB (.str z)))) = true := by decide +kernel
  have := List.all_eq_true.mp (List.all_eq_true.mp h z hz) i (rng_mem hi)
  simp only [Bool.and_eq_true] at this
  exact ⟨rowGB_ok this.1, this.2.1, this.2.2.1, txtB_ok this.2.2.2⟩
theorem row_cell {a i : Int} (ha : 1 ≤ a ∧ a ≤ 12) (hi : 0 ≤ i ∧ i ≤ 15) : RowG (rowD (.inl a, i)) ∧ addrD (.int a) = true ∧ valueD (.int i) = true := by
  have h : (((List.range (12 + 1)).map Int.ofNat).all fun a => a == 0 || (((List.range (15 + 1)).map Int.ofNat).all fun i => rowGB (rowD (.inl a, i)) && (addrD (.int a) && valueD (.int i)))) = true := by decide +kernel
  have h1 := List.all_eq_true.mp h a (rng_mem (n := 12) ⟨by omega, by omega⟩)
  rw [beq_eq_false_iff_ne.mpr (by omega), Bool.false_or] at h1
  have := List.all_eq_true.mp h1 i (rng_mem (n := 15) hi)
  simp only [Bool.and_eq_true] at this
  exact ⟨rowGB_ok this.1, this.2.1, this.2.2⟩
theorem risV_of {xs : List V} (h : xs.Pairwise fun a b => ltV a b = true) : risV xs = true := by
  unfold risV
  rw [List.all_map, List.all_eq_true]
  intro i hi
  have hi : i + 1 < xs.length := by
    rw [List.mem_range] at hi
    omega
  have := List.pairwise_iff_getElem.mp h i (i + 1) (by omega) hi (by omega)
  show ltV (xs.getD i .non) (xs.getD (i + 1) .non) = true
  rw [getD_some (List.getElem?_eq_getElem (by omega)), getD_some (List.getElem?_eq_getElem hi)]
  exact this
theorem NsG.pair {ns : List (Key × Int)} {zs : List Str} (h : NsG ns zs) {q : Key × Int} (hq : q ∈ ns) : ∃ z ∈ base6, q.1 = .inr z := by
  have : q.1 ∈ zs.map Sum.inr := by
    rw [← h.keys]
    exact List.mem_map.mpr ⟨q, hq, rfl⟩
  obtain ⟨z, hz, e⟩ := List.mem_map.mp this
  exact ⟨z, h.mem z hz, e.symm⟩
theorem NsG.row {ns : List (Key × Int)} {zs : List Str} (h : NsG ns zs) {d : PyData} (hd : d ∈ ns.map rowD) : ∃ z i, d = rowD (.inr z, i) ∧ RowG d ∧ nameD (.str z) = true ∧ valueD (.int i) = true ∧ TxtOk (.str z) := by
  obtain ⟨q, hq, rfl⟩ := List.mem_map.mp hd
  obtain ⟨z, hz, e⟩ := h.pair hq
  obtain ⟨k, i⟩ := q
  have e : k = .inr z := e
  subst e
  obtain ⟨a, b, c, d⟩ := row_name hz (h.vals _ hq)
  exact ⟨z, i, rfl, a, b, c, d⟩
theorem NsG.len4 {ns : List (Key × Int)} {zs : List Str} (h : NsG ns zs) : ns.length ≤ 4 := by
  have := congrArg List.length h.keys
  rw [List.length_map, List.length_map] at this
  have := h.len
  omega
theorem NsG.ok {ns : List (Key × Int)} {zs : List Str} (h : NsG ns zs) : storeD (rowsD ns) = true ∧ RowsTxt (rowsD ns) := by
  refine ⟨?_, fun ds e r hr => ?_⟩
  · show storeD (.tuple (ns.map rowD)) = true
    rw [storeD_t]
    have h1 : decide (((ns.map rowD).length : Int) > 60) = false := decide_eq_false (by rw [List.length_map]; have := h.len4; omega)
    have h2 : (ns.map rowD).all pairD = true := List.all_eq_true.mpr fun d hd => by
      obtain ⟨z, i, rfl, _⟩ := h.row hd
      rfl
    have h3 : ((ns.map rowD).all fun r => nameD (pr1 r) && valueD (pr2 r)) = true := List.all_eq_true.mpr fun d hd => by
      obtain ⟨z, i, rfl, _, a, b, _⟩ := h.row hd
      show (nameD (.str z) && valueD (.int i)) = true
      rw [a, b]
      rfl
    have h4 : (ns.map rowD).map (fun r => dV (pr1 r)) = zs.map V.str := by
      rw [List.map_map]
      have : zs.map V.str = (zs.map Sum.inr : List Key).map kV := by rw [List.map_map]; rfl
      rw [this, ← h.keys, List.map_map]
      refine List.map_congr_left fun q hq => ?_
      obtain ⟨z, _, e⟩ := h.pair hq
      obtain ⟨k, i⟩ := q
      have e : k = .inr z := e
      subst e
      rfl
    rw [h1, h2, h3, h4, risV_of]
    · rfl
    · rw [List.pairwise_map]
      exact h.asc.imp fun {a b} z => decide_eq_true (leS_lt z)
  · have e : PyData.tuple (ns.map rowD) = .tuple ds := e
    injection e with e
    rw [← e] at hr
    obtain ⟨z, i, rfl, _, _, _, a⟩ := h.row hr
    exact a
theorem CellsOk.row {cells : List (Int × Int)} (h : CellsOk cells) {d : PyData} (hd : d ∈ (cells.map cI).map rowD) : ∃ a i, d = rowD (.inl a, i) ∧ RowG d ∧ addrD (.int a) = true ∧ valueD (.int i) = true := by
  obtain ⟨q, hq, rfl⟩ := List.mem_map.mp hd
  obtain ⟨c, hc, rfl⟩ := List.mem_map.mp hq
  obtain ⟨a, b, e⟩ := row_cell (h.rng c hc) (h.vals c hc)
  exact ⟨c.1, c.2, rfl, a, b, e⟩
theorem CellsOk.ok {cells : List (Int × Int)} (h : CellsOk cells) : heapD (rowsD (cells.map cI)) = true := by
  show heapD (.tuple ((cells.map cI).map rowD)) = true
  rw [heapD_t]
  have h1 : decide ((((cells.map cI).map rowD).length : Int) > 40) = false := decide_eq_false (by rw [List.length_map, List.length_map]; have := h.len; omega)
  have h2 : ((cells.map cI).map rowD).all pairD = true := List.all_eq_true.mpr fun d hd => by
    obtain ⟨z, i, rfl, _⟩ := h.row hd
    rfl
  have h3 : (((cells.map cI).map rowD).all fun r => addrD (pr1 r) && valueD (pr2 r)) = true := List.all_eq_true.mpr fun d hd => by
    obtain ⟨z, i, rfl, _, a, b⟩ := h.row hd
    show (addrD (.int z) && valueD (.int i)) = true
    rw [a, b]
    rfl
  have h4 : ((cells.map cI).map rowD).map (fun r => dV (pr1 r)) = (cells.map (·.1)).map V.int := by
    rw [List.map_map, List.map_map, List.map_map]
    rfl
  rw [h1, h2, h3, h4, risV_of]
  · rfl
  · rw [List.pairwise_map]
    exact h.asc.imp fun {a b} z => decide_eq_true z
theorem CellsOk.tail {c : Int × Int} {cells : List (Int × Int)} (h : CellsOk (c :: cells)) : CellsOk cells := by
  refine ⟨?_, fun x hx => h.rng x (List.mem_cons_of_mem _ hx), fun x hx => h.vals x (List.mem_cons_of_mem _ hx), by have := h.len; simp at this; omega⟩
  have := h.asc
  rw [List.map_cons] at this
  exact (List.pairwise_cons.mp this).2
theorem NsG.tail {q : Key × Int} {ns : List (Key × Int)} {z : Str} {zs : List Str} (h : NsG (q :: ns) (z :: zs)) : NsG ns zs := by
  have hk := h.keys
  rw [List.map_cons, List.map_cons] at hk
  injection hk with _ hk
  exact ⟨hk, fun x hx => h.mem x (List.mem_cons_of_mem _ hx), (List.pairwise_cons.mp h.asc).2, by have := h.len; simp at this; omega, fun x hx => h.vals x (List.mem_cons_of_mem _ hx)⟩
/-- a state's datum -/
def stD (ns : List (Key × Int)) (cells : List (Int × Int)) : PyData := .tuple [rowsD ns, rowsD (cells.map cI)]
theorem st_g {ns : List (Key × Int)} {zs : List Str} {cells : List (Int × Int)} (h1 : NsG ns zs) (h2 : CellsOk cells) : Sh (stD ns cells) ∧ (stD ns cells).hasDict = false ∧ SeqAt.shaped (stD ns cells) = true := by
  obtain ⟨a, b, c, e, f, g⟩ := rows_g (ds := ns.map rowD) fun d hd => by obtain ⟨_, _, _, z, _⟩ := h1.row hd; exact z
  obtain ⟨a', b', c', e', f', g'⟩ := rows_g (ds := (cells.map cI).map rowD) fun d hd => by obtain ⟨_, _, _, z, _⟩ := h2.row hd; exact z
  rw [List.length_map] at e e'
  rw [List.length_map] at e'
  have l1 := h1.len4
  have l2 := h2.len
  have hc : PyData.canLay0 (stD ns cells) = true := by simp [stD, rowsD, -List.map_map, PyData.canLay0, PyData.canLayAll0, b, b']
  have hd : (stD ns cells).depth ≤ 5 := by
    simp only [stD, rowsD, PyData.depth, PyData.depthAll]
    omega
  refine ⟨sh_of (by simp [stD, rowsD, -List.map_map, PyData.showable, PyData.showableAll, a, a']) hc hd (by simp only [stD, rowsD, PyData.weight, PyData.weightAll]; omega) (by simp [stD, rowsD, -List.map_map, PyData.intsShort, PyData.intsShortAll, f, f']), by simp [stD, rowsD, -List.map_map, PyData.hasDict, PyData.hasDictAll, g, g'], ?_⟩
  unfold SeqAt.shaped
  rw [hc, decide_eq_true (by omega)]
  rfl
end Kb
set_option Elab.async false
set_option linter.all false
set_option maxRecDepth 100000
set_option maxHeartbeats 4000000
namespace Kb
open PySem PySem.Spec PyProof.Rows L2 LamX Evl
section
variable {K : PySem.W.Frag} {mg : Str → Option Value} {σ : L2.St} {H H' H1 H2 : Hp} {te ta tb tl tp : TE} {tr : TA} {v w x y : V} {d e s h s2 h2 : PyData} {vs xs ys : List V} {ds es : List PyData} {p : Addr × Addr} {C BR a b : Addr}
theorem dp_tyx (h : Dp K H v d) : ∃ T ∈ tysL, TyX K H v (.type T) := ⟨_, tyOf_mem d, dp_ty h⟩
theorem rv_eqSD (T : Kl K mg "State" C SF) (h1 : StAt K H C a s h) (h2 : Dp K H y d) : RV (rEqO K C (spSEq K C)) (.ref a) y H (.bl false) := fun H1 e Q q => by
  obtain ⟨dx, v1, v2, ha, hs, hh⟩ := h1.ext e
  obtain ⟨t, ht, hty⟩ := dp_tyx (Dp.ext e h2)
  exact .inr ⟨a, dx, _, .type t, rfl, ha, hty, T.nf t ht, a, y, s, h, rfl, ⟨dx, v1, v2, ha, hs, hh⟩, .inl ⟨d, Dp.ext e h2, fun H' e' => q H' e'⟩⟩
theorem nf_self : PySem.W.notFirst K C (.ref C) = true := by simp [PySem.W.notFirst]
theorem rv_eqSS (T : Kl K mg "State" C SF) (h1 : StAt K H C a s h) (h2' : StAt K H C b s2 h2) (g1 : SeqAt.shaped (.tuple [s, h]) = true) (g2 : SeqAt.shaped (.tuple [s2, h2]) = true) : RV (rEqO K C (spSEq K C)) (.ref a) (.ref b) H (.bl (PyData.eqv (.tuple [s, h]) (.tuple [s2, h2]))) := fun H1 e Q q => by
  obtain ⟨dx, v1, v2, ha, hs, hh⟩ := h1.ext e
  obtain ⟨dx2, w1, w2, hb, hs2, hh2⟩ := h2'.ext e
  exact .inr ⟨a, dx, _, .ref C, rfl, ha, T.tyx hb, nf_self, a, _, s, h, rfl, ⟨dx, v1, v2, ha, hs, hh⟩, .inr ⟨b, s2, h2, rfl, ⟨dx2, w1, w2, hb, hs2, hh2⟩, g1, g2, fun H' e' => q H' e'⟩⟩
theorem rv_neSS (T : Kl K mg "State" C SF) (h1 : StAt K H C a s h) (h2' : StAt K H C b s2 h2) (g1 : SeqAt.shaped (.tuple [s, h]) = true) (g2 : SeqAt.shaped (.tuple [s2, h2]) = true) : RV (rNeO K C (spSNe K C)) (.ref a) (.ref b) H (.bl (!PyData.eqv (.tuple [s, h]) (.tuple [s2, h2]))) := fun H1 e Q q => by
  obtain ⟨dx, v1, v2, ha, hs, hh⟩ := h1.ext e
  obtain ⟨dx2, w1, w2, hb, hs2, hh2⟩ := h2'.ext e
  exact .inr ⟨a, dx, _, .ref C, rfl, ha, T.tyx hb, nf_self, a, _, s, h, rfl, ⟨dx, v1, v2, ha, hs, hh⟩, .inr ⟨b, s2, h2, rfl, ⟨dx2, w1, w2, hb, hs2, hh2⟩, g1, g2, fun H' e' => q H' e'⟩⟩
theorem er_call {sp : Sp} {E : XK} {ws : List V} {Φ : V → Hp → Prop} (ha : ErA p tr σ H (fun vs _ => vs = ws)) (hs : ∀ H1, Px p H H1 → ∀ Q : VK, (∀ v H2, Px p H1 H2 → Φ v H2 → Q v H2) → sp ws H1 Q E) : ErD p (tCall sp [] E tr) σ H Φ := fun H1 x1 Q q =>
  ha H1 x1 _ fun vs H2 x2 e => by
    subst e
    rw [List.append_nil]
    exact hs H2 (x1.trans x2) Q fun v H3 x3 h => q v H3 (x2.trans x3) h
/-- State(..) whose arguments are drawn -/
theorem er_state {ns : List (Key × Int)} {cs : List (Key × Int)} (ha : ErA p tr σ H (fun vs H1 => ∃ v1 v2 d1 d2, vs = [v1, v2] ∧ Dp K H1 v1 d1 ∧ Dp K H1 v2 d2 ∧ asTup d1 = rowsD ns ∧ asTup d2 = rowsD cs ∧ ((tupD d1).isSome = true → Pd K H1 v1 d1) ∧ ((tupD d2).isSome = true → Pd K H1 v2 d2)))
    (ht : RowsTxt (rowsD ns)) (hs : storeD (rowsD ns) = true) (hh : heapD (rowsD cs) = true) (n1 : (ns.map (·.1)).Nodup) (n2 : (cs.map (·.1)).Nodup) :
    ErD p (tMake C (spSInit K C BR) [] E0 tr) σ H (fun w H1 => ∃ a, w = .ref a ∧ StM K H1 C a ns cs) := fun H1 x1 Q q =>
  ha H1 x1 _ fun vs H2 x2 ⟨v1, v2, d1, d2, e, h1, h2, a1, a2, p1, p2⟩ => by
    subst e
    intro x dx hx hdx ne
    have E3 : Ex H2 (upd (upd H2 dx (.own x)) x (.ins C dx [])) := (Ex.new hdx).trans (Ex.new (by rw [upd_ne (Ne.symm ne)]; exact hx))
    refine ⟨x, dx, v1, v2, d1, d2, rfl, upd_same, Dp.ext E3 h1, Dp.ext E3 h2, by rw [a1]; exact ht, (fun z => by rw [a1, hs] at z; cases z), (fun _ z => by rw [a2, hh] at z; cases z), fun _ _ w1 w2 H' kp q1 q2 r1 r2 hx' => ⟨rfl, ?_⟩⟩
    have E4 : Ex H2 H' := fun b o hb => kp b o (E3 b o hb) (fun z => by rw [z, hx] at hb; cases hb)
    have r1 := r1 fun t => (p1 t).ext E3
    have r2 := r2 fun t => (p2 t).ext E3
    rw [a1] at r1
    rw [a2] at r2
    exact q _ _ (x2.ex E4) ⟨x, rfl, ⟨dx, w1, w2, hx', r1, r2⟩, n1, n2⟩
theorem ev_opD {r : R2} {Φ : V → Hp → Prop} {z : V} (ha : Ev ta σ H x) (hb : EvD tb σ H Φ) (hr : ∀ y H1, Ex H H1 → Φ y H1 → RV r x y H1 z) : Ev (tOp r ta tb) σ H z := fun H1 e Q q =>
  ha H1 e _ fun H2 e2 => hb H2 (e.trans e2) _ fun y H3 e3 hy => hr y H3 ((e.trans e2).trans e3) hy H3 (Ex.refl H3) _ fun H4 e4 => q H4 ((e2.trans e3).trans e4)
theorem evd_lstate {E : XK} {ns : List (Key × Int)} {cells : List (Int × Int)} (h : EvD te σ H (fun w H1 => Dp K H1 w (stD ns cells))) (ht : RowsTxt (rowsD ns)) (hs : storeD (rowsD ns) = true) (hh : heapD (rowsD (cells.map cI)) = true) :
    EvD (tCall (spLState K C) [] E (tCons te tNil)) σ H (fun w H1 => ∃ b, w = .ref b ∧ StAt K H1 C b (rowsD ns) (rowsD (cells.map cI))) := fun H1 e Q q =>
  h H1 e _ fun w H2 e2 d => by
    cases d with
    | @tup t ys _ h1 h2 =>
      cases h2 with
      | cons a1 h2 =>
        cases h2 with
        | cons a2 h2 =>
          cases h2
          exact ⟨t, _, _, _, _, rfl, h1, a1, a2, ht, hs, hh, fun b H3 e3 hb => q _ _ (e2.trans e3) ⟨b, rfl, hb⟩⟩
theorem evd_plain {E : XK} {d1 d2 : PyData} (h : Ev te σ H (.ref a)) (hs : StAt K H C a d1 d2) : EvD (tCall (spLPlain K C) [] E (tCons te tNil)) σ H (fun w H1 => Dp K H1 w (.tuple [d1, d2])) := fun H1 e Q q =>
  h H1 e _ fun H2 e2 => ⟨a, d1, d2, rfl, hs.ext (e.trans e2), fun w H3 e3 hd => q _ _ (e2.trans e3) hd⟩
theorem lawD_st (ns : List (Key × Int)) (cells : List (Int × Int)) (h1 : ns.length ≤ 1000) (h2 : cells.length ≤ 1000) : lawD 3 (stD ns cells) = true := by
  have key : ∀ l : List (Key × Int), l.length ≤ 1000 → lawD 2 (rowsD l) = true := fun l hl => by
    show (decide ((l.map rowD).length ≤ 1000) && (l.map rowD).all (lawD 1)) = true
    rw [decide_eq_true (by rw [List.length_map]; exact hl), Bool.true_and, List.all_map, List.all_eq_true]
    intro p _
    obtain ⟨k, i⟩ := p
    cases k <;> rfl
  show (decide (2 ≤ 1000) && (lawD 2 (rowsD ns) && (lawD 2 (rowsD (cells.map cI)) && true))) = true
  rw [key ns h1, key _ (by rw [List.length_map]; exact h2)]
  rfl
theorem evd_ofL (h : EvL te σ H xs) (hd : ∀ H1, Ex H H1 → DpAll K H1 xs ds) : EvD te σ H (fun w H1 => Dp K H1 w (.list ds)) := fun H1 e Q q => h H1 e _ fun l H2 hl e2 h2 => q _ _ e2 (.lst (sq_of h2) (hd H2 (e.trans e2)))
end
/-! ### the least address that is free -/
theorem pig : ∀ (xs ys : List Int), xs.Nodup → (∀ x ∈ xs, x ∈ ys) → xs.length ≤ ys.length
  | [], _, _, _ => Nat.zero_le _
  | x :: xs, ys, hn, h => by
    have hx := h x List.mem_cons_self
    have hl := List.length_erase_of_mem hx
    have hpos : 0 < ys.length := List.length_pos_of_mem hx
    have := pig xs (ys.erase x) (List.nodup_cons.mp hn).2 fun y hy => by
      refine (List.mem_erase_of_ne fun e => ?_).mpr (h y (List.mem_cons_of_mem _ hy))
      subst e
      exact (List.nodup_cons.mp hn).1 hy
    rw [List.length_cons]
    omega
theorem least_uniq {ys : List Int} {x y : Int} (h1 : leastI ys x) (h2 : leastI ys y) : x = y := by
  obtain ⟨a1, a2, a3⟩ := h1
  obtain ⟨b1, b2, b3⟩ := h2
  rcases Int.lt_trichotomy x y with h | h | h
  · exact absurd (b3 x a1 h) a2
  · exact h
  · exact absurd (a3 y b1 h) b2
/-- the first of 1 .. n + 1 that is not among n numbers -/
theorem first_free (ys : List Int) : ∃ (x : Int) (r : List Int), ((List.range (ys.length + 1)).filter fun (i : Nat) => !decide ((1 + (i : Int)) ∈ ys)).map (fun (i : Nat) => (1 + (i : Int))) = x :: r ∧ leastI ys x := by
  have key : ∀ (n : Nat) (k : Nat), (∀ i : Nat, i < k → (1 + (i : Int)) ∈ ys) → (∃ i : Nat, k ≤ i ∧ i < k + n ∧ (1 + (i : Int)) ∉ ys) →
      ∃ (x : Int) (r : List Int), ((List.range' k n).filter fun (i : Nat) => !decide ((1 + (i : Int)) ∈ ys)).map (fun (i : Nat) => (1 + (i : Int))) = x :: r ∧ leastI ys x := by
    intro n
    induction n with
    | zero =>
      intro k _ ⟨i, h1, h2, _⟩
      omega
    | succ n ih =>
      intro k hk ⟨i, h1, h2, h3⟩
      rw [List.range'_succ]
      by_cases hm : (1 + (k : Int)) ∈ ys
      · rw [List.filter_cons_of_neg (by simpa using hm)]
        refine ih (k + 1) (fun j hj => ?_) ⟨i, ?_, by omega, h3⟩
        · by_cases e : j = k
          · rw [e]
            exact hm
          · exact hk j (by omega)
        · by_cases e : i = k
          · rw [e] at h3
            exact absurd hm h3
          · omega
      · rw [List.filter_cons_of_pos (by simpa using hm)]
        refine ⟨_, _, List.map_cons .., by omega, hm, fun y y1 y2 => ?_⟩
        have := hk (y - 1).toNat (by omega)
        have e : 1 + (((y - 1).toNat : Nat) : Int) = y := by omega
        rw [e] at this
        exact this
  rw [List.range_eq_range']
  refine key _ 0 (fun i hi => absurd hi (Nat.not_lt_zero i)) ?_
  by_cases hex : ∃ i : Nat, 0 ≤ i ∧ i < 0 + (ys.length + 1) ∧ (1 + (i : Int)) ∉ ys
  · exact hex
  · have hall : ∀ i : Nat, i < ys.length + 1 → (1 + (i : Int)) ∈ ys := fun i hi => by
      by_cases hm : (1 + (i : Int)) ∈ ys
      · exact hm
      · exact absurd ⟨i, Nat.zero_le _, by omega, hm⟩ hex
    have := pig ((List.range (ys.length + 1)).map fun (i : Nat) => (1 + (i : Int))) ys (by
      refine List.pairwise_map.mpr (List.nodup_range.imp fun {a b} hab e => hab ?_)
      have e : (1 + (a : Int)) = 1 + (b : Int) := e
      omega) (fun x hx => by
      obtain ⟨i, hi, rfl⟩ := List.mem_map.mp hx
      exact hall i (List.mem_range.mp hi))
    rw [List.length_map, List.length_range] at this
    omega
end Kb
set_option Elab.async false
set_option linter.all false
set_option maxRecDepth 100000
set_option maxHeartbeats 4000000
namespace Kb
open PySem PySem.Spec PyProof.Rows L2 LamX Evl
section
variable {K : PySem.W.Frag} {mg : Str → Option Value} {σ : L2.St} {H H' H1 H2 : Hp} {te ta tb tl tp : TE} {tr : TA} {tt : TT} {th : TO} {v w x y : V} {d e s h s2 h2 : PyData} {vs xs ys : List V} {ds es : List PyData} {p : Addr × Addr} {C BR BN a b : Addr} {ns : List (Key × Int)} {cells : List (Int × Int)}
theorem rv_neD (h1 : Dp K H x d) (h2 : Dp K H y e) (s1 : SeqAt.shaped d = true) (s2 : SeqAt.shaped e = true) : RV (rNeA K) x y H (.bl (!PyData.eqv d e)) := fun H1 e1 Q q => .inr ⟨d, e, Dp.ext e1 h1, Dp.ext e1 h2, s1, s2, q H1 (Ex.refl H1)⟩
theorem drop_cut : ∀ xs : List V, cutV xs (some 1) none = xs.drop 1
  | [] => by simp [cutV]
  | x :: r => cut_tail x r
theorem dps_drop : ∀ {xs : List V} {ds : List PyData}, DpAll K H xs ds → DpAll K H (xs.drop 1) (ds.drop 1)
  | _, _, .nil => .nil
  | _, _, .cons _ a => a
/-- t[1:] of a tuple -/
theorem evd_sl1 (ha : Ev ta σ H (.ref a)) (hx : SqT K H a xs) (hd : DpAll K H xs ds) (hl : EvO th σ H (some 1)) : EvD (tSl (rSl K) ta th tNoPart) σ H (fun w H1 => Dp K H1 w (.tuple (ds.drop 1))) := fun H1 e Q q =>
  ha H1 e _ fun H2 e2 => hl H2 (e.trans e2) _ fun H3 e3 => .inr (.inl ⟨a, xs, rfl, ex_t ((e.trans e2).trans e3) hx, fun z => by
    have hnil : xs = [] := by
      cases xs with
      | nil => rfl
      | cons u r =>
        have : HT.sIx (u :: r).length 0 (some 1) = 1 := by
          simp only [HT.sIx]
          rw [if_neg (by decide), List.length_cons]
          show min 1 _ = 1
          omega
        rw [this] at z
        exact absurd z.1 (by decide)
    subst hnil
    cases hd
    exact q _ _ (e2.trans e3) (.tup (ex_t ((e.trans e2).trans e3) hx) .nil), fun _ p hp => by
    have e4 := Ex.new (o := .tup (cutV xs (some 1) none)) hp
    have hdd := dps_drop (DpAll.ext (((e.trans e2).trans e3).trans e4) hd)
    rw [← drop_cut] at hdd
    exact q _ _ ((e2.trans e3).trans e4) (.tup (st_of upd_same) hdd)⟩)
/-- two tuples of data -/
theorem evd_catT (ha : EvD ta σ H (fun w H1 => Dp K H1 w (.tuple ds))) (hb : EvD tb σ H (fun w H1 => Dp K H1 w (.tuple es))) (hz : ds.length + es.length ≤ 100000) : EvD (tOp (rAdd K) ta tb) σ H (fun w H1 => Dp K H1 w (.tuple (ds ++ es))) := fun H1 e Q q =>
  ha H1 e _ fun w1 H2 e2 d1 => hb H2 (e.trans e2) _ fun w2 H3 e3 d2 => by
    cases Dp.ext e3 d1 with
    | @tup a xs _ h1 a1 =>
      cases d2 with
      | @tup b ys _ h2 a2 =>
        have l1 := dpAll_len a1
        have l2 := dpAll_len a2
        refine .inr (.inr (.inr ⟨a, b, xs, ys, rfl, rfl, h1, h2, sz_of (by rw [l1, l2]; exact hz), fun z => ?_, fun _ z => ?_, fun _ _ p hp => ?_⟩))
        · subst z
          cases a1
          exact q _ _ (e2.trans e3) (.tup h2 a2)
        · subst z
          cases a2
          exact q _ _ (e2.trans e3) (by rw [List.append_nil]; exact .tup h1 a1)
        · have e4 := Ex.new (o := .tup (xs ++ ys)) hp
          exact q _ _ ((e2.trans e3).trans e4) (.tup (st_of upd_same) (dpAll_app (DpAll.ext e4 a1) (DpAll.ext e4 a2)))
/-- what the State's defs tell -/
theorem evd_valsIn (h : Ev te σ H (.ref a)) (hM : StM K H C a ns (cells.map cI)) (h64 : ns.length + 2 * cells.length < 64) : EvD (tCall (spValsIn K C BR) [] E0 (tCons te tNil)) σ H (fun w H1 => Dp K H1 w (.tuple ((valsI (intsOf ns cells)).map PyData.int))) := fun H1 e Q q =>
  h H1 e _ fun H2 e2 => ⟨_, rfl, .inr ⟨a, ns, cells, rfl, hM.ext (e.trans e2), h64, fun p H' e' hp => q _ _ (e2.trans e') (.tup hp.t dpAll_ints)⟩⟩
theorem evd_looseIn (h : Ev te σ H (.ref a)) (hM : StM K H C a ns (cells.map cI)) (h64 : ns.length + 2 * cells.length < 64) : EvD (tCall (spLooseIn K C BR) [] E0 (tCons te tNil)) σ H (fun w H1 => Dp K H1 w (.tuple ((looseI ns cells).map PyData.int))) := fun H1 e Q q =>
  h H1 e _ fun H2 e2 => ⟨_, rfl, .inr ⟨a, ns, cells, rfl, hM.ext (e.trans e2), h64, fun p H' e' hp => q _ _ (e2.trans e') (.tup hp.t dpAll_ints)⟩⟩
theorem ev_newA {m : Int} (h : Ev te σ H (.ref a)) (hM : StM K H C a ns (cells.map cI)) (h64 : ns.length + 2 * cells.length < 64) (hm : leastI (valsI (intsOf ns cells)) m) : Ev (tCall (spNew K C BR) [] E0 (tCons te tNil)) σ H (.int m) := fun H1 e Q q =>
  h H1 e _ fun H2 e2 => ⟨_, rfl, .inr ⟨a, ns, cells, rfl, hM.ext (e.trans e2), h64, fun x H' hx e' => by rw [least_uniq hx hm]; exact q _ (e2.trans e')⟩⟩
theorem ev_valueOf {z : Str} (ha : Ev te σ H (.ref a)) (hb : Ev tb σ H (.str z)) (hM : StM K H C a ns (cells.map cI)) (ht : TxtOk (.str z)) (hp : plainD (.str z) = true) : Ev (tCall (spValueOf K C BR) [] E0 (tCons te (tCons tb tNil))) σ H (.int ((lookI ns (.inr z)).getD 0)) := fun H1 e Q q =>
  ha H1 e _ fun H2 e2 => hb H2 (e.trans e2) _ fun H3 e3 => ⟨_, _, rfl, .inr ⟨a, ns, cells.map cI, .str z, rfl, hM.ext ((e.trans e2).trans e3), .str z, ht, (fun z0 => by rw [hp] at z0; cases z0), fun _ z' hz' H' e' => by cases hz'; exact q _ ((e2.trans e3).trans e')⟩⟩
theorem ev_contentAt {i : Int} (ha : Ev te σ H (.ref a)) (hb : Ev tb σ H (.int i)) (hM : StM K H C a ns (cells.map cI)) (hp : addrD (.int i) = true) : Ev (tCall (spContent K C BR BN) [] E0 (tCons te (tCons tb tNil))) σ H (((lookI (cells.map cI) (.inl i)).map V.int).getD .non) := fun H1 e Q q =>
  ha H1 e _ fun H2 e2 => hb H2 (e.trans e2) _ fun H3 e3 => ⟨_, _, rfl, .inr ⟨a, ns, cells.map cI, .int i, rfl, hM.ext ((e.trans e2).trans e3), .int i, (fun z0 => by rw [hp] at z0; cases z0), fun _ z' hz' H' e' => by cases hz'; exact q _ ((e2.trans e3).trans e')⟩⟩
theorem ev_lawVal {E : XK} {z : Str} {cs : List (Key × Int)} (ha : Ev te σ H v) (hb : Ev tb σ H (.str z)) (hL : LS K H v ns cs) (hz : ns.length ≤ 1000) : Ev (tCall (spLVal K) [] E (tCons te (tCons tb (tCons (tTup tNil) tNil)))) σ H (.int ((lookI ns (.inr z)).getD 0)) := fun H1 e Q q =>
  ha H1 e _ fun H2 e2 => hb H2 (e.trans e2) _ fun H3 e3 => eu_tup ea_nil (Nat.zero_le _) H3 (Ex.refl H3) _ fun g H4 _ e4 h4 => ⟨v, z, g, ns, cs, rfl, hL.ext (((e.trans e2).trans e3).trans e4), st_of h4, hz, fun H' e' => q _ (((e2.trans e3).trans e4).trans e')⟩
def dOf : Option Int → PyData
  | some j => .int j
  | none => .none
theorem dp_dOf (o : Option Int) : Dp K H ((o.map V.int).getD .non) (dOf o) := by
  cases o
  · exact .non
  · exact .int _
theorem plain_base : ∀ z ∈ base6 ++ (["nil", "other", "x"] : List Str), plainD (.str z) = true ∧ TxtOk (.str z) := by
  have h : ((base6 ++ (["nil", "other", "x"] : List Str)).all fun z => plainD (.str z) && txtB (.str z)) = true := by decide +kernel
  intro z hz
  have := List.all_eq_true.mp h z hz
  rw [Bool.and_eq_true] at this
  exact ⟨this.1, txtB_ok this.2⟩
theorem el_sieveH {ws : List Nat} {j : Nat} {is : List Int} (t : Int → Bool) (h : Ev tl σ H (.ref a)) (hx : SqL K H a (is.map V.int)) (hz : is.length ≤ 40000) (hw : ∀ x, wipe ((wipe σ ws).set j (some x)) ws = wipe σ ws)
    (ht : ∀ (n : Int) H1, Ex H H1 → EvT tt ((wipe σ ws).set j (some (.int n))) H1 (t n)) (he : ∀ (n : Int) H1, Ev te ((wipe σ ws).set j (some (.int n))) H1 (.int n)) :
    EvL (tLc (iSeq K tl) (gName j) tt te ws) σ H ((is.filter t).map V.int) := by
  refine el_is (el_lcQ (fun i => (wipe σ ws).set j (some (.int (is.getD i 0)))) (fun i => t (is.getD i 0)) (fun i => .int (is.getD i 0)) h hx (by rw [List.length_map]; exact hz) (fun i _ => hw _) (fun i x H1 e hi k q => ?_) (fun i x H1 e hi => ht _ _ e) (fun i x H1 e hi _ => he _ _)) ?_
  · rw [List.getElem?_map] at hi
    cases hn : is[i]? with
    | none => rw [hn] at hi; cases hi
    | some n =>
      rw [hn] at hi
      cases hi
      rw [getD_some hn] at q
      exact q
  · rw [List.length_map]
    exact given_map is 0 t V.int
theorem evd_tupL {is : List Int} (h : EvL te σ H (is.map V.int)) : EvD (tCB (rTupP K) (tCons te tNil)) σ H (fun w H1 => Dp K H1 w (.tuple (is.map PyData.int))) := evd_tupPL h fun w H1 e1 ⟨p, hw, hp⟩ => by
  rw [hw]
  exact .tup hp.t dpAll_ints
theorem CellsOk.drop (h : CellsOk cells) : CellsOk (cells.drop 1) := by
  cases cells with
  | nil => exact h
  | cons c r => exact h.tail
theorem lawD_ints (is js : List Int) (h1 : is.length ≤ 1000) (h2 : js.length ≤ 1000) : lawD 3 (.tuple [.tuple (is.map PyData.int), .tuple (js.map PyData.int)]) = true := by
  have key : ∀ l : List Int, l.length ≤ 1000 → lawD 2 (.tuple (l.map PyData.int)) = true := fun l hl => by
    show (decide ((l.map PyData.int).length ≤ 1000) && (l.map PyData.int).all (lawD 1)) = true
    rw [decide_eq_true (by rw [List.length_map]; exact hl), Bool.true_and, List.all_map, List.all_eq_true]
    exact fun _ _ => rfl
  show (decide (2 ≤ 1000) && (lawD 2 _ && (lawD 2 _ && true))) = true
  rw [key is h1, key js h2]
  rfl
end
end Kb
set_option Elab.async false
set_option linter.all false
set_option maxRecDepth 100000
set_option maxHeartbeats 8000000
namespace Kb
open PySem PySem.Spec PyProof.Rows L2 LamX Evl
def spLaw (K : PySem.W.Frag) (tb : Addr) : SpZ := fun _ _ vs H Q => ∃ (a : Addr) (ns : List Int), vs = [.ref a] ∧ SqL K H a (ns.map V.int) ∧ ns.length ≤ 63 ∧ Tabs (lamT "_law_refusals_right" tb) H ∧ ∀ H', Q (.bl true) H'
section
variable {P : Program} {w : World} {K : PySem.W.Frag} {mg : Str → Option Value} {base : Heap} {C BR BN : Addr} {tb : Addr}
theorem ok_law (B : Bi mg) (T : Kl K mg "State" C SF) (g__law_pen : Gv P w K mg base CX0 1 "_law_pen" ["script"] (spPen K)) (g__law_pick : Gv P w K mg base CX0 2 "_law_pick" ["pen", "some"] (spPick K)) (g__law_drawn_names : Gv P w K mg base CX0 3 "_law_drawn_names" ["pen", "most"] (spNames K))
    (g__law_drawn_state : Gv P w K mg base CX0 3 "_law_drawn_state" ["pen", "names", "cells"] (spDState K)) (g__law_is : Gv P w K mg base CX0 4 "_law_is" ["told", "due"] (spIs K 3)) (g__law_plain_state : Gv P w K mg base CX0 1 "_law_plain_state" ["told"] (spLPlain K C)) (g__law_state : Gv P w K mg base CX0 7 "_law_state" ["state"] (spLState K C))
    (g__law_values : Gv P w K mg base CX0 2 "_law_values" ["state"] (spLVals K)) (g__law_value : Gv P w K mg base CX0 1 "_law_value" ["state", "term", "given"] (spLVal K)) (g__law_content : Gv P w K mg base CX0 1 "_law_content" ["heap", "address"] (spLCont K))
    (g__law_refusals_right : Gz P w K mg base 10 "_law_refusals_right" ["pen", "made", "state"] (spRef K C tb)) (g__law_terms_right : Gv P w K mg base CX0 4 "_law_terms_right" ["pen"] spTR)
    (o_eq : Oe P w K mg base 1 C "__eq__" (spSEq K C)) (o_ne : Oe P w K mg base 2 C "__ne__" (spSNe K C)) (m_State : Mkr P w K mg base (L2.CX P w) 5 "State" C ["self", "store", "heap"] (spSInit K C BR))
    (g_value_of : Gv P w K mg base (L2.CX P w) 4 "value_of" ["state", "term"] (spValueOf K C BR)) (g_content_at : Gv P w K mg base (L2.CX P w) 4 "content_at" ["state", "address"] (spContent K C BR BN)) (g_values_in : Gv P w K mg base (L2.CX P w) 4 "values_in" ["state"] (spValsIn K C BR))
    (g_loose_in : Gv P w K mg base (L2.CX P w) 4 "loose_in" ["state"] (spLooseIn K C BR)) (g_new_address : Gv P w K mg base (L2.CX P w) 4 "new_address" ["state"] (spNew K C BR))
    (D : Df K mg "law" s_law ["script"]) : Gz P w K mg base 11 "law" ["script"] (spLaw K tb) := by
  have nd := sc_law.nd
  refine D.gz sc_law (fun s fr vs H Q h => ?_) (fun f0 cdv A outer s H vs Q hr hgd h => ?_)
  · obtain ⟨a, ns, rfl, _⟩ := h
    rfl
  have hu64 := hu64_of hr
  refine ⟨_, (pss_cons (ps_set (i := 1) nd rfl (.inl rfl) (pe_cg g__law_pen hr rfl pass0 (pa_cons (pv 0) pa_nil)))
    (pss_cons (ps_for PassesOwn.never rfl (pi_range1 rfl B.range (pa_cons pe_int pa_nil)) (pg_name (i := 2) nd rfl (.inl rfl)) (pss_cons (ps_set (i := 3) nd rfl (.inl rfl) (pe_cg g__law_drawn_names hr rfl pass0 (pa_cons (pv 1) (pa_cons pe_int pa_nil))))
    (pss_cons (ps_set (i := 4) nd rfl (.inl rfl) (pe_cg g__law_drawn_state hr rfl pass0 (pa_cons (pv 1) (pa_cons (pv 3) (pa_cons pe_int pa_nil)))))
    (pss_cons (ps_par (i := 5) (j := 6) rfl nd rfl rfl (by decide) rfl rfl (pa_cons (pe_callTy (r := rListA K) (callA_list rfl) rfl B.list (by decide +kernel) (pa_cons (pe_ix (r := rIx K) ix_seq (pv 4) pe_int (fun _ _ => rfl)) pa_nil)) (pa_cons (pe_callTy (r := rListA K) (callA_list rfl) rfl B.list (by decide +kernel) (pa_cons (pe_ix (r := rIx K) ix_seq (pv 4) pe_int (fun _ _ => rfl)) pa_nil)) pa_nil)) rfl)
    (pss_cons (ps_set (i := 7) nd rfl (.inl rfl) (pe_mk m_State hr rfl passE0 (pa_cons (pe_cg g__law_pick hr rfl pass0 (pa_cons (pv 1) (pa_cons (pe_lst (pa_cons (pe_ix (r := rIx K) ix_seq (pv 4) pe_int (fun _ _ => rfl)) (pa_cons (pv 5) pa_nil))) pa_nil))) (pa_cons (pe_cg g__law_pick hr rfl pass0 (pa_cons (pv 1) (pa_cons (pe_lst (pa_cons (pe_ix (r := rIx K) ix_seq (pv 4) pe_int (fun _ _ => rfl)) (pa_cons (pv 6) pa_nil))) pa_nil))) pa_nil))))
    (pss_cons (ps_expr (pe_bmK (K := K) rfl PySem.F.plainAttrs_list PySem.F.slot_list_append PySem.F.type_list_append mt_append (pv 5) (pa_cons pe_non pa_nil)))
    (pss_cons (ps_expr (pe_bmK (K := K) rfl PySem.F.plainAttrs_list PySem.F.slot_list_append PySem.F.type_list_append mt_append (pv 6) (pa_cons pe_non pa_nil)))
    (pss_cons (ps_if (PW.pt (pw_or (pt_not (pt_val (pe_cg g__law_is hr rfl pass0 (pa_cons (pe_cg g__law_plain_state hr rfl pass0 (pa_cons (pv 7) pa_nil)) (pa_cons (pv 4) pa_nil))))) (pw_or (pt_not (pt_cmpR (r := rEqO K C (spSEq K C)) (opO_eq o_eq hr hu64) (pv 7) (pe_cg g__law_state hr rfl pass0 (pa_cons (pv 4) pa_nil)) (nomark _))) (pw_or (pt_cmpR (r := rNeO K C (spSNe K C)) (opO_ne o_ne hr hu64) (pv 7) (pe_cg g__law_state hr rfl pass0 (pa_cons (pv 4) pa_nil)) (nomark _)) (pw_or1 (pt_cmpR (r := rEqO K C (spSEq K C)) (opO_eq o_eq hr hu64) (pv 7) (pv 4) (nomark _))))))) (pss_one (ps_ret pe_bl)) pss_nil)
    (pss_cons (ps_set (i := 8) nd rfl (.inl rfl) (pe_lst (pa_cons (pe_tup (pa_cons (pe_slice (r := rSl K) slA (pe_ix (r := rIx K) ix_seq (pv 4) pe_int (fun _ _ => rfl)) (po_some pe_int) po_none) (pa_cons (pe_ix (r := rIx K) ix_seq (pv 4) pe_int (fun _ _ => rfl)) pa_nil))) (pa_cons (pe_tup (pa_cons (pe_ix (r := rIx K) ix_seq (pv 4) pe_int (fun _ _ => rfl)) (pa_cons (pe_slice (r := rSl K) slA (pe_ix (r := rIx K) ix_seq (pv 4) pe_int (fun _ _ => rfl)) (po_some pe_int) po_none) pa_nil))) (pa_cons (pe_tup (pa_cons (pe_op (r := rAdd K) opA_add (pe_tup (pa_cons (pe_tup (pa_cons (pe_ix (r := rIx K) ix_seq (pv 3) pe_int (fun _ _ => rfl)) (pa_cons (pe_op (r := rAdd K) opA_add (pe_ix (r := rIx K) ix_seq (pe_ix (r := rIx K) ix_seq (pe_ix (r := rIx K) ix_seq (pv 4) pe_int (fun _ _ => rfl)) pe_int (fun _ _ => rfl)) pe_int (fun _ _ => rfl)) pe_int) pa_nil))) pa_nil)) (pe_slice (r := rSl K) slA (pe_ix (r := rIx K) ix_seq (pv 4) pe_int (fun _ _ => rfl)) (po_some pe_int) po_none)) (pa_cons (pe_ix (r := rIx K) ix_seq (pv 4) pe_int (fun _ _ => rfl)) pa_nil))) pa_nil)))))
    (pss_cons (ps_for PassesOwn.never rfl (piA_seq (pv 8)) (pg_name (i := 9) nd rfl (.inl rfl)) (pss_one (ps_if (PW.pt (pw_and (pt_cmpR (r := rNeO K C (spSNe K C)) (opO_ne o_ne hr hu64) (pv 9) (pv 4) (nomark _)) (pw_and1 (PW.pt (pw_or (pt_cmpR (r := rEqO K C (spSEq K C)) (opO_eq o_eq hr hu64) (pv 7) (pe_cg g__law_state hr rfl pass0 (pa_cons (pv 9) pa_nil)) (nomark _)) (pw_or1 (pt_not (pt_cmpR (r := rNeO K C (spSNe K C)) (opO_ne o_ne hr hu64) (pv 7) (pe_cg g__law_state hr rfl pass0 (pa_cons (pv 9) pa_nil)) (nomark _))))))))) (pss_one (ps_ret pe_bl)) pss_nil)))
    (pss_cons (ps_set (i := 10) nd rfl (.inr rfl) (pe_cg g__law_values hr rfl pass0 (pa_cons (pv 4) pa_nil)))
    (pss_cons (ps_set (i := 11) nd rfl (.inr rfl) (pe_lc (own := [("address", 13), ("value", 14)]) rfl nd (piA_seq (pe_ix (r := rIx K) ix_seq (pv 4) pe_int (fun _ _ => rfl))) (blk_ok (by kernel_rfl)) (fun _ _ _ _ _ => (pgK_tup (K := K) (n := 2) rfl rfl (pgs_cons (pg_name (i := 13) nd rfl (.inl rfl)) (pgs_cons (pg_name (i := 14) nd rfl (.inl rfl)) pgs_nil)))) (fun _ _ _ _ _ => pts_nil) (fun _ _ _ _ _ => (pv 13))))
    (pss_cons (ps_if (pt_not (pt_val (pe_cg g__law_is hr rfl pass0 (pa_cons (pe_tup (pa_cons (pe_cg g_values_in hr rfl passE0 (pa_cons (pv 7) pa_nil)) (pa_cons (pe_cg g_loose_in hr rfl passE0 (pa_cons (pv 7) pa_nil)) pa_nil))) (pa_cons (pe_tup (pa_cons (pe_callTy (r := rTupP K) call_tupleP rfl B.tuple (by decide +kernel) (pa_cons (pv 10) pa_nil)) (pa_cons (pe_callTy (r := rTupP K) call_tupleP rfl B.tuple (by decide +kernel) (pa_cons (pe_lc (own := [("value", 14)]) rfl nd (piA_seq (pv 10)) (blk_ok (by kernel_rfl)) (fun _ _ _ _ _ => (pg_name (i := 14) nd rfl (.inl rfl))) (fun _ _ _ _ _ => (pts_one (pt_cmpR (r := rNotInA K) (opA_notIn hu64) (pv 14) (pv 11) rfl))) (fun _ _ _ _ _ => (pv 14))) pa_nil)) pa_nil))) pa_nil))))) (pss_one (ps_ret pe_bl)) pss_nil)
    (pss_cons (ps_if (pt_not (pt_val (pe_cg g__law_is hr rfl pass0 (pa_cons (pe_cg g_new_address hr rfl passE0 (pa_cons (pv 7) pa_nil)) (pa_cons (pe_ix (r := rIx K) ix_seq (pe_lc (own := [("address", 13)]) rfl nd (pi_range2 rfl B.range (pa_cons pe_int (pa_cons (pe_op (r := rAdd K) opA_add (pe_callB (r := rLen K) callA_len rfl B.len (by decide +kernel) (pa_cons (pv 10) pa_nil)) pe_int) pa_nil))) (blk_ok (by kernel_rfl)) (fun _ _ _ _ _ => (pg_name (i := 13) nd rfl (.inl rfl))) (fun _ _ _ _ _ => (pts_one (pt_cmpR (r := rNotInA K) (opA_notIn hu64) (pv 13) (pv 10) rfl))) (fun _ _ _ _ _ => (pv 13))) pe_int (fun _ _ => rfl)) pa_nil))))) (pss_one (ps_ret pe_bl)) pss_nil)
    (pss_cons (ps_for PassesOwn.never rfl (piA_seq (pe_op (r := rAdd K) opA_add (pe_callTy (r := rListA K) (callA_list rfl) rfl B.list (by decide +kernel) (pa_cons (pv 3) pa_nil)) (pe_lst (pa_cons pe_str (pa_cons pe_str (pa_cons pe_str pa_nil)))))) (pg_name (i := 12) nd rfl (.inl rfl)) (pss_one (ps_if (pt_not (pt_val (pe_cg g__law_is hr rfl pass0 (pa_cons (pe_cg g_value_of hr rfl passE0 (pa_cons (pv 7) (pa_cons (pv 12) pa_nil))) (pa_cons (pe_cg g__law_value hr rfl pass0 (pa_cons (pv 4) (pa_cons (pv 12) (pa_cons (pe_tup pa_nil) pa_nil)))) pa_nil))))) (pss_one (ps_ret pe_bl)) pss_nil)))
    (pss_cons (ps_for PassesOwn.never rfl (piA_seq (pe_op (r := rAdd K) opA_add (pv 10) (pe_lst (pa_cons pe_int (pa_cons (pe_op op_pow pe_int pe_int) pa_nil))))) (pg_name (i := 13) nd rfl (.inl rfl)) (pss_one (ps_if (pt_not (pt_val (pe_cg g__law_is hr rfl pass0 (pa_cons (pe_cg g_content_at hr rfl passE0 (pa_cons (pv 7) (pa_cons (pv 13) pa_nil))) (pa_cons (pe_cg g__law_content hr rfl pass0 (pa_cons (pe_ix (r := rIx K) ix_seq (pv 4) pe_int (fun _ _ => rfl)) (pa_cons (pv 13) pa_nil))) pa_nil))))) (pss_one (ps_ret pe_bl)) pss_nil)))
    (pss_one (ps_if (pt_not (pt_val (pe_cz g__law_refusals_right hr hgd rfl (pa_cons (pv 1) (pa_cons (pv 7) (pa_cons (pv 4) pa_nil)))))) (pss_one (ps_ret pe_bl)) pss_nil))))))))))))))))))
    (pss_one (ps_ret (pe_cg g__law_terms_right hr rfl pass0 (pa_cons (pv 1) pa_nil)))))), ?_⟩
  obtain ⟨a, is, rfl, hS, h63, hT, hQ⟩ := h
  refine qd_asg (Φ := fun v H1 => ∃ p : Addr × Addr, v = .ref p.1 ∧ Pen H1 p) (evd_call (ea_cons (ev_var rfl) ea_nil) (fun H1 e1 Q q E => ⟨a, is, rfl, ex_l e1 hS, h63, fun p H2 _ _ s2 hp => q _ _ s2 ⟨p, rfl, hp⟩⟩)) (fun v H1 e1 ⟨p, hv, hp⟩ => ?_)
  subst hv
  refine q_forR1 (n := 6) (ea_cons ev_c ea_nil) (by decide) (fun i σ' H' => (∃ o2 o3 o4 o5 o6 o7 o8 o9 o10 o11 o12 o13 o14, σ' = [some (.ref a), some (.ref p.1), o2, o3, o4, o5, o6, o7, o8, o9, o10, o11, o12, o13, o14]) ∧ Pen H' p ∧ Tabs (lamT "_law_refusals_right" tb) H')
    (fun H2 e2 => ⟨⟨_, _, _, _, _, _, _, _, _, _, _, _, _, rfl⟩, hp.same e2, hT.ext (e1.trans e2)⟩) (fun i σ' H2 hi ⟨⟨o2, o3, o4, o5, o6, o7, o8, o9, o10, o11, o12, o13, o14, e⟩, hp2, hT2⟩ => ?_) (fun σ' H2 ⟨⟨o2, o3, o4, o5, o6, o7, o8, o9, o10, o11, o12, o13, o14, e⟩, hp2, hT2⟩ => ?_)
  · subst e
    refine qr_asg hp2 (Φ := fun v H3 => ∃ zs t, NG zs ∧ v = .ref t ∧ SqP H3 t (zs.map V.str)) (er_call (er_eva fun H3 x3 => ea_cons (ev_var rfl) (ea_cons ev_c ea_nil)) (fun H3 x3 Q q => ⟨p, rfl, x3.pen, fun zs t H4 hg x4 ht => q _ _ x4 ⟨zs, t, hg, rfl, ht⟩⟩)) (fun v H3 x3 ⟨zs, tn, hg, hv, htn⟩ => ?_)
    subst hv
    have hp3 := x3.pen
    refine qr_asg hp3 (Φ := fun v H4 => ∃ ns cells, GS zs ns cells ∧ LS K H4 v ns (cells.map cI)) (er_call (er_eva fun H4 x4 => ea_cons (ev_var rfl) (ea_cons (ev_var rfl) (ea_cons ev_c ea_nil))) (fun H4 x4 Q q => ⟨p, tn, zs, rfl, x4.pen, x4.t hp3 htn.t, hg.len, fun v ns cells H5 gs x5 hls => q _ _ x5 ⟨ns, cells, gs, hls⟩⟩)) (fun v H4 x4 ⟨ns, cells, gs, hls⟩ => ?_)
    obtain ⟨z0, zr, rfl⟩ : ∃ z0 zr, zs = z0 :: zr := by
      cases zs with
      | nil => exact absurd rfl hg.ne
      | cons z0 zr => exact ⟨z0, zr, rfl⟩
    obtain ⟨i0, nr, rfl⟩ : ∃ (i0 : Int) (nr : List (Key × Int)), ns = (.inr z0, i0) :: nr := by
      have hk := gs.keys
      cases ns with
      | nil => cases hk
      | cons q nr =>
        obtain ⟨k, i⟩ := q
        rw [List.map_cons, List.map_cons] at hk
        injection hk with hk _
        have hk : k = .inr z0 := hk
        exact ⟨i, nr, by rw [hk]⟩
    obtain ⟨ns, hns⟩ : ∃ ns, ns = ((.inr z0, i0) : Key × Int) :: nr := ⟨_, rfl⟩
    obtain ⟨zs, hzs⟩ : ∃ zs, zs = z0 :: zr := ⟨_, rfl⟩
    rw [← hzs] at gs hg htn
    rw [← hns] at gs hls
    have hp4 := x4.pen
    have hT4 : Tabs (lamT "_law_refusals_right" tb) H4 := Tabs.px hp3 x4 (Tabs.px hp2 x3 hT2)
    have htn4 : SqP H4 tn (zs.map V.str) := x4.sqp hp3 htn
    have nsg : NsG ns zs := ⟨gs.keys, hg.mem, hg.asc, hg.len, fun q hq => by have := gs.nvals q hq; omega⟩
    have cok : CellsOk cells := gs.toCellsOk
    obtain ⟨t, v1, v2, rfl, ht, hd1, hd2⟩ := id hls
    obtain ⟨q1, xs1, ds1, rfl, e1d, hq1, ha1⟩ := hd1
    obtain ⟨q2, xs2, ds2, rfl, e2d, hq2, ha2⟩ := hd2
    have e1d : PyData.tuple (ns.map rowD) = .tuple ds1 := e1d
    injection e1d with e1d
    subst e1d
    have e2d : PyData.tuple ((cells.map cI).map rowD) = .tuple ds2 := e2d
    injection e2d with e2d
    subst e2d
    have hrow : ∃ r0 xr, xs1 = .ref r0 :: xr ∧ SqT K H4 r0 [.str z0, .int i0] := by
      have hz := ha1
      rw [hns] at hz
      cases hz with
      | cons a1 _ =>
        cases a1 with
        | tup b1 b2 =>
          cases b2 with
          | cons c1 b2 =>
            cases b2 with
            | cons c2 b2 =>
              cases b2
              cases c1
              cases c2
              exact ⟨_, _, rfl, b1⟩
    obtain ⟨r0, xr, hxr, hr0⟩ := hrow
    refine q_parLL (el_listT (K := K) (ev_op (ev_var rfl) ev_c (rv_iT ht (atI_nat (j := 0) rfl))) hq1.t) (el_listT (K := K) (ev_op (ev_var rfl) ev_c (rv_iT ht (atI_nat (j := 1) rfl))) hq2.t) (fun l5 l6 H5 n5 n6 n56 e5 h5 h6 => ?_)
    have hp5 := hp4.same e5
    have ok1 := nsg.ok
    have ok2 := cok.ok
    have n1 : (ns.map (·.1)).Nodup := by
      rw [gs.keys]
      exact List.pairwise_map.mpr (hg.asc.imp fun {a b} z e => z.2 (Sum.inr.inj e))
    have n2 : ((cells.map cI).map (·.1)).Nodup := by
      rw [List.map_map]
      refine List.pairwise_map.mpr ((List.pairwise_map.mp cok.asc).imp fun {a b} z e => ?_)
      have e : (Sum.inl a.1 : Key) = .inl b.1 := e
      have := Sum.inl.inj e
      omega
    have P1 : Pd K H5 (.ref q1) (rowsD ns) := Pd.ext (H := H4) ⟨q1, xs1, _, rfl, rfl, hq1, ha1⟩ e5
    have P2 : Pd K H5 (.ref q2) (rowsD (cells.map cI)) := Pd.ext (H := H4) ⟨q2, xs2, _, rfl, rfl, hq2, ha2⟩ e5
    have Ld1 : Dp K H5 (.ref l5) (.list (ns.map rowD)) := .lst (sq_of h5) (DpAll.ext e5 ha1)
    have Ld2 : Dp K H5 (.ref l6) (.list ((cells.map cI).map rowD)) := .lst (sq_of h6) (DpAll.ext e5 ha2)
    refine qr_asg hp5 (er_state (ns := ns) (cs := cells.map cI) ((era_cons (Φ := fun v H1 => ∃ d, Dp K H1 v d ∧ asTup d = rowsD ns ∧ ((tupD d).isSome = true → Pd K H1 v d)) ((er_pickL (Ψ := fun xs _ => xs = [.ref q1, .ref l5]) (fun H x => ev_var rfl) (er_evl fun H x => el_lst (ea_cons (ev_op (ev_var rfl) ev_c (rv_iT (x.t hp5 (ex_t e5 ht)) (atI_nat (j := 0) rfl))) (ea_cons (ev_var rfl) ea_nil)) (show 2 ≤ 100000 by decide)) (fun _ _ _ _ _ h => h) (fun xs H h => by rw [h]; exact ⟨show 0 < 2 by decide, show 2 < 1073741824 by decide⟩)).imp fun v H6 x6 ⟨xs, e, hm⟩ => ?_)
      (era1 (Φ := fun v H1 => ∃ d, Dp K H1 v d ∧ asTup d = rowsD (cells.map cI) ∧ ((tupD d).isSome = true → Pd K H1 v d)) ((er_pickL (Ψ := fun xs _ => xs = [.ref q2, .ref l6]) (fun H x => ev_var rfl) (er_evl fun H x => el_lst (ea_cons (ev_op (ev_var rfl) ev_c (rv_iT (x.t hp5 (ex_t e5 ht)) (atI_nat (j := 1) rfl))) (ea_cons (ev_var rfl) ea_nil)) (show 2 ≤ 100000 by decide)) (fun _ _ _ _ _ h => h) (fun xs H h => by rw [h]; exact ⟨show 0 < 2 by decide, show 2 < 1073741824 by decide⟩)).imp fun v H6 x6 ⟨xs, e, hm⟩ => ?_)) (fun v H6 H7 x6 x7 ⟨d, z1, z2, z3⟩ => ⟨d, x7.dp x6.pen z1, z2, fun t => x7.pd x6.pen (z3 t)⟩)).imp (fun vs H6 x6 ⟨w1, r, ew, ⟨d1, z1, z2, z3⟩, w2, er, ⟨d2, y1, y2, y3⟩⟩ => ⟨w1, w2, d1, d2, by rw [ew, er], z1, y1, z2, y2, z3, y3⟩)) ok1.2 ok1.1 ok2 n1 n2) (fun v H6 x6 ⟨am, hv, hM⟩ => ?_)
    · rw [e] at hm
      simp only [List.mem_cons, List.not_mem_nil, or_false] at hm
      rcases hm with rfl | rfl
      · exact ⟨_, (x6.pd hp5 P1).dp, rfl, fun _ => x6.pd hp5 P1⟩
      · exact ⟨_, x6.dp hp5 Ld1, rfl, fun z => nomatch z⟩
    · rw [e] at hm
      simp only [List.mem_cons, List.not_mem_nil, or_false] at hm
      rcases hm with rfl | rfl
      · exact ⟨_, (x6.pd hp5 P2).dp, rfl, fun _ => x6.pd hp5 P2⟩
      · exact ⟨_, x6.dp hp5 Ld2, rfl, fun z => nomatch z⟩
    subst hv
    have hp6 := x6.pen
    have h56 : H6 l5 = some (.lst xs1) := x6.at_ hp5 h5 (fun _ z => nomatch z)
    have h66 : H6 l6 = some (.lst xs2) := x6.at_ hp5 h6 (fun _ z => nomatch z)
    refine q_app h56 (ev_var rfl) ev_c (by rw [dpAll_len ha1, List.length_map]; have := nsg.len4; omega) (fun H7 e7 => ?_)
    have m1 : Sm H7 (upd H7 l5 (.lst (xs1 ++ [.non]))) := Sm.mu (e7 _ _ h56)
    have p7 : Pen (upd H7 l5 (.lst (xs1 ++ [.non]))) p := hp4.put (hp6.same e7) n5
    have t7 : Tabs (lamT "_law_refusals_right" tb) (upd H7 l5 (.lst (xs1 ++ [.non]))) := Tabs.mu (e7 _ _ h56) ((Tabs.px hp5 x6 (hT4.ext e5)).ext e7)
    have g66 : upd H7 l5 (.lst (xs1 ++ [.non])) l6 = some (.lst xs2) := by rw [upd_ne (Ne.symm n56)]; exact e7 _ _ h66
    refine q_app g66 (ev_var rfl) ev_c (by rw [dpAll_len ha2, List.length_map, List.length_map]; have := cok.len; omega) (fun H8 e8 => ?_)
    have m2 : Sm H8 (upd H8 l6 (.lst (xs2 ++ [.non]))) := Sm.mu (e8 _ _ g66)
    have p8 : Pen (upd H8 l6 (.lst (xs2 ++ [.non]))) p := hp4.put (p7.same e8) n6
    have t8 : Tabs (lamT "_law_refusals_right" tb) (upd H8 l6 (.lst (xs2 ++ [.non]))) := Tabs.mu (e8 _ _ g66) (t7.ext e8)
    have S48 : Sm H4 (upd H8 l6 (.lst (xs2 ++ [.non]))) := ((((Sm.of e5).trans (Sm.px hp5 x6)).trans (Sm.of e7)).trans m1).trans ((Sm.of e8).trans m2)
    have M8 : StM K (upd H8 l6 (.lst (xs2 ++ [.non]))) C am ns (cells.map cI) := (hM.sm (((Sm.of e7).trans m1).trans ((Sm.of e8).trans m2)))
    have LS8 := hls.sm S48
    have tn8 : SqT K (upd H8 l6 (.lst (xs2 ++ [.non]))) tn (zs.map V.str) := S48.t htn4.t
    have ht8 := S48.t ht
    have D1 : Pd K (upd H8 l6 (.lst (xs2 ++ [.non]))) (.ref q1) (rowsD ns) := S48.pd ⟨q1, xs1, _, rfl, rfl, hq1, ha1⟩ (noL_rows _)
    have D2 : Pd K (upd H8 l6 (.lst (xs2 ++ [.non]))) (.ref q2) (rowsD (cells.map cI)) := S48.pd ⟨q2, xs2, _, rfl, rfl, hq2, ha2⟩ (noL_rows _)
    have sq1 : SqT K (upd H8 l6 (.lst (xs2 ++ [.non]))) q1 xs1 := S48.t hq1.t
    have sq2 : SqT K (upd H8 l6 (.lst (xs2 ++ [.non]))) q2 xs2 := S48.t hq2.t
    have da1 : DpAll K (upd H8 l6 (.lst (xs2 ++ [.non]))) xs1 (ns.map rowD) := S48.dps ha1 (noL_rows ns)
    have da2 : DpAll K (upd H8 l6 (.lst (xs2 ++ [.non]))) xs2 ((cells.map cI).map rowD) := S48.dps ha2 (noL_rows (cells.map cI))
    have sr0 : SqT K (upd H8 l6 (.lst (xs2 ++ [.non]))) r0 [.str z0, .int i0] := S48.t hr0
    clear m1 m2 p7 t7 g66 S48
    revert p8 t8 M8 LS8 tn8 ht8 D1 D2 sq1 sq2 da1 da2 sr0
    generalize upd H8 l6 (.lst (xs2 ++ [.non])) = G
    intro pG tG MG LG tnG htG D1 D2 sq1 sq2 da1 da2 sr0
    obtain ⟨gSh, gnd, gsh⟩ := st_g nsg cok
    have hself : PyData.eqv (stD ns cells) (stD ns cells) = true := SeqAt.eqv_refl _ (SeqAt.canLay_of_shaped gsh)
    have evSt : ∀ {σ : L2.St} {H : Hp}, σ[4]? = some (some (.ref t)) → Ex G H → EvD (tVar 4) σ H (fun w H1 => Dp K H1 w (stD ns cells)) := fun hσ e => evd_c (ev_var hσ) (fun H1 e1 => Dp.ext (e.trans e1) LG.dp)
    have evMk : ∀ {σ : L2.St} {H : Hp}, σ[4]? = some (some (.ref t)) → Ex G H → EvD (tCall (spLState K C) [] E0 (tCons (tVar 4) tNil)) σ H (fun w H1 => ∃ b, w = .ref b ∧ StAt K H1 C b (rowsD ns) (rowsD (cells.map cI))) := fun hσ e => evd_lstate (evSt hσ e) ok1.2 ok1.1 ok2
    refine q_when (b := !true || (!PyData.eqv (stD ns cells) (stD ns cells) || (!PyData.eqv (stD ns cells) (stD ns cells) || false))) (et_or (et_not (et_B (ev_lawIs (d := stD ns cells) (evd_plain (ev_var rfl) MG.at_) (evSt rfl (Ex.refl G)) (lawD_st ns cells (by have := nsg.len4; omega) (by have := cok.len; omega)))))
      (fun _ => et_or (et_not (et_test (ev_opD (ev_var rfl) (evMk rfl (Ex.refl G)) (fun y H9 e9 ⟨b, hy, hb⟩ => by rw [hy]; exact rv_eqSS T (MG.at_.ext e9) hb gsh gsh)))) (fun _ => et_or (et_test (ev_opD (ev_var rfl) (evMk rfl (Ex.refl G)) (fun y H9 e9 ⟨b, hy, hb⟩ => by rw [hy]; exact rv_neSS T (MG.at_.ext e9) hb gsh gsh))) (fun _ => et_test (ev_op (ev_var rfl) (ev_var rfl) (rv_eqSD T MG.at_ LG.dp)))))) (fun z => by rw [hself] at z; cases z) (fun _ H9 e9 => ?_)
    have ht9 := ex_t e9 htG
    have sq19 := ex_t e9 sq1
    have sq29 := ex_t e9 sq2
    have da19 := DpAll.ext e9 da1
    have da29 := DpAll.ext e9 da2
    have tn9 := ex_t e9 tnG
    rw [hzs] at tn9
    have sr09 := ex_t e9 sr0
    have D19 := (D1.ext e9).dp
    have D29 := (D2.ext e9).dp
    have dr1 : (ns.map rowD).drop 1 = nr.map rowD := by rw [hns]; rfl
    have dr2 : ((cells.map cI).map rowD).drop 1 = ((cells.drop 1).map cI).map rowD := by rw [← List.map_drop, ← List.map_drop]
    have cut1 : ∀ {σ : L2.St}, σ[4]? = some (some (.ref t)) → EvD (tSl (rSl K) (tOp (rIx K) (tVar 4) (tC (.int 0))) (tPart (tC (.int 1))) tNoPart) σ H9 (fun w H1 => Dp K H1 w (rowsD nr)) := fun hσ => by
      have := evd_sl1 (ev_op (ev_var hσ) ev_c (rv_iT ht9 (atI_nat (j := 0) rfl))) sq19 da19 (eo_some ev_c)
      rw [dr1] at this
      exact this
    have cut2 : ∀ {σ : L2.St}, σ[4]? = some (some (.ref t)) → EvD (tSl (rSl K) (tOp (rIx K) (tVar 4) (tC (.int 1))) (tPart (tC (.int 1))) tNoPart) σ H9 (fun w H1 => Dp K H1 w (rowsD ((cells.drop 1).map cI))) := fun hσ => by
      have := evd_sl1 (ev_op (ev_var hσ) ev_c (rv_iT ht9 (atI_nat (j := 1) rfl))) sq29 da29 (eo_some ev_c)
      rw [dr2] at this
      exact this
    have at0 : atI xs1 0 = some (.ref r0) := by rw [hxr]; exact atI_nat (j := 0) rfl
    refine qd_asgLD (K := K) (eld_lst (ds := [stD nr cells, stD ns (cells.drop 1), stD ((.inr z0, i0 + 1) :: nr) cells]) (eda_d (evd_tupD (eda_d (cut1 rfl) (eda_d (evd_c (ev_op (ev_var rfl) ev_c (rv_iT ht9 (atI_nat (j := 1) rfl))) (fun H1 e1 => Dp.ext e1 D29)) eda_d0)) (show 2 ≤ 100000 by decide))
      (eda_d (evd_tupD (eda_d (evd_c (ev_op (ev_var rfl) ev_c (rv_iT ht9 (atI_nat (j := 0) rfl))) (fun H1 e1 => Dp.ext e1 D19)) (eda_d (cut2 rfl) eda_d0)) (show 2 ≤ 100000 by decide))
      (eda_d (evd_tupD (eda_d (evd_catT (ds := [rowD (.inr z0, i0 + 1)]) (es := nr.map rowD) (evd_tupD (eda_d (evd_tupD (eda_d (evd_s (ev_op (ev_var rfl) ev_c (rv_iT tn9 (atI_nat (j := 0) rfl)))) (eda_d (evd_i (ev_op (ev_op (ev_op (ev_op (ev_var rfl) ev_c (rv_iT ht9 (atI_nat (j := 0) rfl))) ev_c (rv_iT sq19 at0)) ev_c (rv_iT sr09 (atI_nat (j := 1) rfl))) ev_c rv_add)) eda_d0)) (show 2 ≤ 100000 by decide)) eda_d0) (show 1 ≤ 100000 by decide)) (cut1 rfl) ?_)
        (eda_d (evd_c (ev_op (ev_var rfl) ev_c (rv_iT ht9 (atI_nat (j := 1) rfl))) (fun H1 e1 => Dp.ext e1 D29)) eda_d0)) (show 2 ≤ 100000 by decide)) eda_d0))) (show 3 ≤ 100000 by decide)) (fun l8 xs8 H10 n8 e10 h8 d8 => ?_)
    · have := nsg.len4
      rw [hns] at this
      simp at this ⊢
      omega
    have i015 : 0 ≤ i0 ∧ i0 ≤ 15 := gs.nvals (.inr z0, i0) (by rw [hns]; exact List.mem_cons_self)
    have nsr : NsG nr zr := by
      have := nsg
      rw [hns, hzs] at this
      exact this.tail
    have nsb : NsG ((.inr z0, i0 + 1) :: nr) zs := by
      refine ⟨?_, nsg.mem, nsg.asc, nsg.len, fun q hq => ?_⟩
      · rw [← nsg.keys, hns]
        rfl
      · rcases List.mem_cons.mp hq with rfl | hq
        · exact ⟨show 0 ≤ i0 + 1 by omega, show i0 + 1 ≤ 16 by omega⟩
        · exact nsr.vals q hq
    have nearOk : ∀ d ∈ [stD nr cells, stD ns (cells.drop 1), stD ((.inr z0, i0 + 1) :: nr) cells], ∃ n' z' c', d = stD n' c' ∧ NsG n' z' ∧ CellsOk c' := fun d hd => by
      simp only [List.mem_cons, List.not_mem_nil, or_false] at hd
      rcases hd with rfl | rfl | rfl
      · exact ⟨_, _, _, rfl, nsr, cok⟩
      · exact ⟨_, _, _, rfl, nsg, cok.drop⟩
      · exact ⟨_, _, _, rfl, nsb, cok⟩
    have e910 := e9.trans e10
    refine q_forDx (S := fun σ' => ∃ o9, σ' = [some (.ref a), some (.ref p.1), some (.int (i : Int)), some (.ref tn), some (.ref t), some (.ref l5), some (.ref l6), some (.ref am), some (.ref l8), o9, o10, o11, o12, o13, o14]) (evd_c (ev_var rfl) (fun H1 e1 => .lst (sq_of (e1 _ _ h8)) (DpAll.ext e1 d8))) ⟨_, rfl⟩ (fun d v σ' H11 hd ⟨o9', e⟩ e11 hv N hN => ?_) (fun σ' H11 ⟨o9', e⟩ e11 => ?_)
    · subst e
      obtain ⟨n', z', c', rfl, nO, cO⟩ := nearOk d hd
      obtain ⟨_, _, gO⟩ := st_g nO cO
      have eG := e910.trans e11
      have evO : ∀ {σ : L2.St}, σ[9]? = some (some v) → EvD (tCall (spLState K C) [] E0 (tCons (tVar 9) tNil)) σ H11 (fun w H1 => ∃ b, w = .ref b ∧ StAt K H1 C b (rowsD n') (rowsD (c'.map cI))) := fun hσ => evd_lstate (evd_c (ev_var hσ) (fun H1 e1 => Dp.ext e1 hv)) nO.ok.2 nO.ok.1 cO.ok
      refine s_when (b := !PyData.eqv (stD n' c') (stD ns cells) && (PyData.eqv (stD ns cells) (stD n' c') || !(!PyData.eqv (stD ns cells) (stD n' c')))) (et_and (et_test (ev_op (ev_var rfl) (ev_var rfl) (rv_l (rv_neD hv (Dp.ext eG LG.dp) gO gsh)))) (fun _ => et_or (et_test (ev_opD (ev_var rfl) (evO rfl) (fun y H12 e12 ⟨b, hy, hb⟩ => by rw [hy]; exact rv_eqSS T (MG.at_.ext (eG.trans e12)) hb gsh gO)))
        (fun _ => et_not (et_test (ev_opD (ev_var rfl) (evO rfl) (fun y H12 e12 ⟨b, hy, hb⟩ => by rw [hy]; exact rv_neSS T (MG.at_.ext (eG.trans e12)) hb gsh gO)))))) (fun z => ?_) (fun _ H12 e12 => hN _ _ ⟨_, rfl⟩ e12)
      rw [PySem.W.eqv_comm (stD n' c') (stD ns cells)] at z
      cases hq : PyData.eqv (stD ns cells) (stD n' c') <;> rw [hq] at z <;> cases z
    subst e
    have eG := e910.trans e11
    have h64 : ns.length + 2 * cells.length < 64 := by have := nsg.len4; have := cok.len; omega
    obtain ⟨vs0, hvs0⟩ : ∃ vs0, vs0 = valsI (intsOf ns cells) := ⟨_, rfl⟩
    have hvl : vs0.length ≤ 63 := by
      rw [hvs0]
      have h1 := vals_len (intsOf ns cells)
      rw [intsOf_len] at h1
      omega
    -- some
    refine q_asgL (xs := vs0.map V.int) (el_call (ea_cons (ev_var rfl) ea_nil) (fun H1 e1 Q q E => ⟨_, ns, cells, rfl, LG.ext (eG.trans e1), by omega, fun pp H2 z1 z2 z3 => q pp H2 z1 z2 (by rw [hvs0]; exact z3)⟩)) (fun l10 H12 n10 e12 h10 => ?_)
    have eG12 := eG.trans e12
    -- cells
    refine q_asgL (xs := (cells.map (·.1)).map V.int) (el_is (el_prt1 (ev_op (ev_var rfl) ev_c (rv_iT (ex_t eG12 htG) (atI_nat (j := 1) rfl))) (ex_t eG12 sq2) (rows_prt (DpAll.ext eG12 da2)) (by rw [dpAll_len da2, List.length_map, List.length_map]; have := cok.len; omega) (fun _ _ => rfl) (fun _ _ => et_true fun _ _ _ q => q) (fun u H1 => ev_var rfl)) (by rw [List.map_map, List.map_map, List.map_map]; rfl)) (fun l11 H13 n11 e13 h11 => ?_)
    have eG13 := eG12.trans e13
    have h10' := e13 _ _ h10
    -- values_in, loose_in
    refine q_when (b := !true) (et_not (et_B (ev_lawIs (d := .tuple [.tuple (vs0.map PyData.int), .tuple ((looseI ns cells).map PyData.int)]) (evd_tupD (eda_d (by rw [hvs0]; exact evd_valsIn (ev_var rfl) (MG.ext eG13) h64) (eda_d (evd_looseIn (ev_var rfl) (MG.ext eG13) h64) eda_d0)) (show 2 ≤ 100000 by decide))
      (evd_tupD (eda_d ((evd_tupP (ev_var rfl) (sq_of h10') dpAll_ints).imp (fun w H1 e1 h => h.dp)) (eda_d (evd_tupL (is := looseI ns cells) (el_is (el_sieveH (is := vs0) (fun i => !decide (i ∈ cells.map (·.1))) (ev_var rfl) (sq_of h10') (by omega) (fun _ => rfl) (fun n H1 e1 => et_test (ev_is (ev_op (ev_var rfl) (ev_var rfl) (rv_l (rv_niL (sq_of (e1 _ _ h11)) rfl (flat_ints _)))) (by rw [inV_int]))) (fun n H1 => ev_var rfl)) (by rw [hvs0]; rfl))) eda_d0)) (show 2 ≤ 100000 by decide)) ?_))) (fun z => nomatch z) (fun _ H14 e14 => ?_)
    · exact lawD_ints _ _ (by omega) (by rw [show looseI ns cells = vs0.filter fun i => !decide (i ∈ cells.map (·.1)) by rw [hvs0]; rfl]; exact Nat.le_trans (List.length_filter_le _ _) (by omega))
    have eG14 := eG13.trans e14
    have h10'' := e14 _ _ h10'
    -- new_address
    obtain ⟨m, mr, hfm, hlm⟩ := first_free vs0
    have hlm2 : leastI (valsI (intsOf ns cells)) m := by rw [← hvs0]; exact hlm
    refine q_when (b := !true) (et_not (et_B (ev_lawIs (d := .int m) (evd_i (ev_newA (ev_var rfl) (MG.ext eG14) h64 hlm2)) (evd_i (ev_opL1 (xs := (m :: mr).map V.int) (el_is (el_lcR2 (n := vs0.length + 1) (lo := 1) (fun i => !decide ((1 + (i : Int)) ∈ vs0)) (fun i => .int (1 + (i : Int))) (ea_cons ev_c (ea_cons (ev_is (ev_op (ev_lenL (ev_var rfl) (sq_of h10'')) ev_c rv_add) (by rw [List.length_map]; congr 1; omega)) ea_nil)) (by decide) (by omega) (fun _ => rfl)
      (fun i H1 e1 _ => et_test (ev_is (ev_op (ev_var rfl) (ev_var rfl) (rv_l (rv_niL (sq_of (e1 _ _ h10'')) rfl (flat_ints _)))) (by rw [inV_int]))) (fun i H1 e1 _ _ => ev_var rfl)) (by rw [← hfm, List.map_map]; rfl)) (fun H1 e1 => ev_c) (fun pp H1 hp1 e1 => rv_iL (sq_of hp1) (atI_nat (j := 0) rfl)))) rfl))) (fun z => nomatch z) (fun _ H15 e15 => ?_)
    have eG15 := eG14.trans e15
    have h10a := e15 _ _ h10''
    -- values of terms
    have hzl : (zs.map V.str).length ≤ 4 := by rw [List.length_map]; exact hg.len
    refine q_forDx (S := fun σ' => ∃ o12', σ' = [some (.ref a), some (.ref p.1), some (.int (i : Int)), some (.ref tn), some (.ref t), some (.ref l5), some (.ref l6), some (.ref am), some (.ref l8), o9', some (.ref l10), some (.ref l11), o12', o13, o14])
      (evd_ofL (xs := (zs ++ (["nil", "other", "x"] : List Str)).map V.str) (ds := (zs ++ (["nil", "other", "x"] : List Str)).map PyData.str) (el_is (el_cat (el_listT (K := K) (ev_var rfl) (ex_t eG15 tnG)) (el_lst (ea_cons ev_c (ea_cons ev_c (ea_cons ev_c ea_nil))) (show 3 ≤ 100000 by decide)) (show (zs.map V.str).length + 3 ≤ 100000 by omega)) (by rw [List.map_append]; rfl)) (fun H1 e1 => dpAll_strs)) ⟨_, rfl⟩ (fun d v σ' H16 hd ⟨o12', e⟩ e16 hv N hN => ?_) (fun σ' H16 ⟨o12', e⟩ e16 => ?_)
    · subst e
      obtain ⟨z, hz, rfl⟩ := List.mem_map.mp hd
      cases hv
      obtain ⟨pz1, pz2⟩ := plain_base z (by
        rcases List.mem_append.mp hz with hz | hz
        · exact List.mem_append_left _ (hg.mem z hz)
        · exact List.mem_append_right _ hz)
      refine s_when (b := !true) (et_not (et_B (ev_lawIs (d := .int ((lookI ns (.inr z)).getD 0)) (evd_i (ev_valueOf (ev_var rfl) (ev_var rfl) (MG.ext (eG15.trans e16)) pz2 pz1)) (evd_i (ev_lawVal (ev_var rfl) (ev_var rfl) (LG.ext (eG15.trans e16)) (by have := nsg.len4; omega))) rfl))) (fun z => nomatch z) (fun _ H17 e17 => hN _ _ ⟨_, rfl⟩ e17)
    subst e
    have eG16 := eG15.trans e16
    have h10b := e16 _ _ h10a
    -- contents
    refine q_forDx (S := fun σ' => ∃ o13', σ' = [some (.ref a), some (.ref p.1), some (.int (i : Int)), some (.ref tn), some (.ref t), some (.ref l5), some (.ref l6), some (.ref am), some (.ref l8), o9', some (.ref l10), some (.ref l11), o12', o13', o14])
      (evd_ofL (xs := (vs0 ++ [1, 1000000]).map V.int) (ds := (vs0 ++ [1, 1000000]).map PyData.int) (el_is (el_catH (ev_var rfl) h10b (el_lst (vs := [.int 1, .int 1000000]) (ea_cons ev_c (ea_cons (ev_is (ev_op ev_c ev_c (rv_I (by unfold CPow; decide))) (by decide)) ea_nil)) (show 2 ≤ 100000 by decide)) (by rw [List.length_map]; show vs0.length + 2 ≤ 100000; omega)) (by rw [List.map_append]; rfl)) (fun H1 e1 => dpAll_ints)) ⟨_, rfl⟩ (fun d v σ' H17 hd ⟨o13', e⟩ e17 hv N hN => ?_) (fun σ' H17 ⟨o13', e⟩ e17 => ?_)
    · subst e
      obtain ⟨j, hj, rfl⟩ := List.mem_map.mp hd
      cases hv
      have hadr : addrD (.int j) = true := by
        have hb : 1 ≤ j ∧ j ≤ 1000000 := by
          rcases List.mem_append.mp hj with hj | hj
          · rw [hvs0, vals_mem] at hj
            obtain ⟨hj, hpos⟩ := hj
            refine ⟨by omega, ?_⟩
            rcases List.mem_append.mp hj with hj | hj
            · obtain ⟨q, hq, rfl⟩ := List.mem_map.mp hj
              have := nsg.vals q hq
              omega
            · obtain ⟨c, hc, hj⟩ := List.mem_flatMap.mp hj
              have h1 := cok.rng c hc
              have h2 := cok.vals c hc
              simp only [List.mem_cons, List.not_mem_nil, or_false] at hj
              rcases hj with rfl | rfl <;> omega
          · simp only [List.mem_cons, List.not_mem_nil, or_false] at hj
            rcases hj with rfl | rfl <;> decide
        show (decide (1 ≤ j) && decide (j ≤ 1000000)) = true
        rw [decide_eq_true hb.1, decide_eq_true hb.2]
        rfl
      have eG17 := eG16.trans e17
      refine s_when (b := !true) (et_not (et_B (ev_lawIs (d := dOf (lookI (cells.map cI) (.inl j))) (evd_c (ev_contentAt (ev_var rfl) (ev_var rfl) (MG.ext eG17) hadr) (fun H1 e1 => dp_dOf _)) (evd_c (ev_call (z := ((lookI (cells.map cI) (.inl j)).map V.int).getD .non) (ea_cons (ev_op (ev_var rfl) ev_c (rv_iT (ex_t eG17 htG) (atI_nat (j := 1) rfl))) (ea_cons (ev_var rfl) ea_nil)) (fun H1 e1 Q q E => ⟨_, j, cells.map cI, rfl, (D2.ext (eG17.trans e1)).dp, by rw [List.length_map]; have := cok.len; omega, fun q hq => ?_, q⟩)) (fun H1 e1 => dp_dOf _)) ?_))) (fun z => nomatch z) (fun _ H18 e18 => hN _ _ ⟨_, rfl⟩ e18)
      · obtain ⟨c, hc, rfl⟩ := List.mem_map.mp hq
        exact ⟨c.1, rfl⟩
      · cases lookI (cells.map cI) (.inl j) <;> rfl
    subst e
    have eG17 := eG16.trans e17
    refine if_czA ((ea_cons (ev_var rfl) (ea_cons (ev_var rfl) (ea_cons (ev_var rfl) ea_nil))) H17 (Ex.refl H17) _ fun H18 e18 => fun pins s1 I => ⟨p, am, _, zs, ns, cells, rfl, pG.same (eG17.trans e18), tG.ext (eG17.trans e18), MG.ext (eG17.trans e18), LG.ext (eG17.trans e18), ok1.1, ok1.2, h64, ?_, gSh, gnd, fun H' hp' ht' => ⟨true, rfl, ?_⟩⟩)
    · show (noL (rowsD ns) && (noL (rowsD (cells.map cI)) && true)) = true
      rw [noL_rows, noL_rows]
      rfl
    · exact ⟨⟨_, _, _, _, _, _, _, _, _, _, _, _, _, rfl⟩, hp', ht'⟩
  · subst e
    exact sr_ret hp2 (Φ := fun v _ => v = .bl true) (er_call (er_eva fun H3 x3 => ea_cons (ev_var rfl) ea_nil) (fun H3 x3 Q q => ⟨p, rfl, x3.pen, fun H4 x4 => q _ _ x4 rfl⟩)) (fun v H3 x3 hv => by rw [hv]; exact hQ H3)
end
end Kb
set_option Elab.async false
set_option linter.all false
set_option maxRecDepth 100000
set_option maxHeartbeats 0
namespace Kb.Hd
open PySem PySem.Spec PyProof.Rows L2
/-! ### what is read of the heap behind the top (printed by gen_head.py) -/
def bit (b : Bool) (r : Bool) : Bool := match b with
  | true => r
  | false => false
theorem bit_ok {b r : Bool} (h : bit b r = true) : b = true ∧ r = true := by
  cases b with
  | true => exact ⟨rfl, h⟩
  | false => cases h
def oexB (K : PySem.W.Frag) (C : Addr) : Bool := match K.lookup C with
  | some ⟨.type "type", _, .cls cd, sl⟩ => (match cd.mro, sl.toList with
    | .ref C' :: bm, [_, _, _, _, some (.builtin n), _] => (C' == C && n == "ValueError.__new__") && ((!cd.hasDel && cd.hasDict) && HandSPX.refsVE bm)
    | _, _ => false)
  | _ => false
theorem oexB_ok {K : PySem.W.Frag} {C : Addr} (q : oexB K C = true) : ∃ nm q N bs bm sn sub ab col dd k0 k1 k2 k3 k5, K.lookup C = some (excClassObj nm q C N bs bm true sn sub ab col dd k0 k1 k2 k3 k5 "ValueError.__new__") ∧ HandSPX.refsVE bm = true := by
  unfold oexB at q
  split at q
  · rename_i dd cd sl ho
    split at q
    · rename_i C' bm k0 k1 k2 k3 n k5 hm hs
      simp only [Bool.and_eq_true, beq_iff_eq, Bool.not_eq_true'] at q
      obtain ⟨⟨rfl, rfl⟩, ⟨hdel, hdct⟩, ht⟩ := q
      obtain ⟨nm, bs, mro, ns, qn, hd, sn, sub, ab, col, del⟩ := cd
      dsimp only at hm hdel hdct
      subst hm hdel hdct
      have hsl : sl = #[k0, k1, k2, k3, some (.builtin "ValueError.__new__"), k5] := by
        obtain ⟨l⟩ := sl
        dsimp only at hs
        rw [hs]
      subst hsl
      exact ⟨nm, qn, ns, bs, bm, sn, sub, ab, col, dd, k0, k1, k2, k3, k5, ho, ht⟩
    · cases q
  · cases q
def nmK (j : Nat) : Str := match j with
  | 0 => "BadName"
  | 1 => "BadNumber"
  | 2 => "BadRow"
  | 3 => "NoName"
  | 4 => "TakenName"
  | 5 => "TooMany"
  | 6 => "Unlike"
  | _ => "BadText"
def fldsK (j : Nat) : List Str := match j with
  | 0 => ["name"]
  | 1 => ["what", "number"]
  | 2 => ["what", "row"]
  | 3 => ["name"]
  | 4 => ["name"]
  | 5 => ["what", "many", "limit"]
  | 6 => ["what"]
  | _ => ["line", "word"]
abbrev cAt (K : PySem.W.Frag) (j : Nat) : Addr := He.ga K (nmK j)
abbrev iAt (K : PySem.W.Frag) (j : Nat) : Addr := He.ma K (cAt K j) "__init__"
/-- a class of the errors -/
def clB (K : PySem.W.Frag) (C I : Addr) (j : Nat) : Bool :=
  bit (oexB K C) (bit (decide (PySem.W.findIn K (.ref C) "__setattr__" = some (some (.builtin "object.__setattr__")))) (bit (decide (PySem.W.subIn K (.ref C) (.type "BaseException") = some true)) (bit (decide (PySem.W.typeIn K (.ref C) = some (.type "type"))) (bit (PySem.W.keepIn K (.ref C))
  (bit (decide (PySem.W.findIn K (.ref C) "__init__" = some (some (.ref I)))) (bit (decide (PySem.W.typeIn K (.ref I) = some (.type "function"))) (bit (PySem.W.keepIn K (.ref I))
  (bit (decide (PySem.W.findIn K (.ref C) "__getattribute__" = some (some (.builtin "BaseException.__getattribute__")))) (bit (decide (PySem.W.findIn K (.ref C) "__getattr__" = some none)) (bit (PySem.W.hasDictIn K C) (bit (decide (PySem.W.findIn K (.ref C) "__class__" = some (some (.builtin "object.__class__"))))
  (bit (decide (PySem.W.mroIn K C (.type "object") = some true)) (bit ((fldsK j).all fun f => decide (PySem.W.findIn K (.ref C) f = some none))
  (bit ((List.range 8).all fun i => decide (PySem.W.kitOne K (.ref C) (.ref (cAt K i)) = some (decide (j = i)))) (decide (PySem.W.exmOne K (.ref C) (.ref (He.ga K "HeapError")) = some true))))))))))))))))
def heB (K : PySem.W.Frag) : Bool :=
  bit (decide (PySem.W.specialIn K (.ref (He.ga K "HeapError")) "__getattribute__" = some (some (.builtin "type.__getattribute__")))) (bit (PySem.W.readsIn K (He.ga K "HeapError") (.type "type"))
  (bit (match PySem.W.findCls K (.ref (He.ga K "HeapError")) (.type "type") "__init__" with
    | some (.val (.builtin n)) => n == "ValueError.__init__"
    | _ => false)
  (bit (decide (PySem.W.specialIn K (.builtin "object.__class__") "__get__" = some (some (.builtin "getset_descriptor.__get__")))) (decide (PySem.W.takesIn K (.builtin "object.__class__") = some true)))))
/-- an own class, of no errors -/
def ownB (K : PySem.W.Frag) (C : Addr) : Bool :=
  bit (decide (PySem.W.findIn K (.ref C) "__class__" = some (some (.builtin "object.__class__")))) (bit (decide (PySem.W.mroIn K C (.type "object") = some true)) (bit (tysL.all fun T => decide (PySem.W.kitOne K (.type T) (.ref C) = some false))
  (bit (tysL.all fun T => decide (PySem.W.kitOne K (.ref C) (.type T) = some false)) (tysL.all fun T => PySem.W.notFirst K C (.type T)))))
def exB (K : PySem.W.Frag) : Bool := bit (heB K) ((List.range 8).all fun j => clB K (cAt K j) (iAt K j) j)
structure ClF (K : PySem.W.Frag) (C I : Addr) (j : Nat) : Prop where
  T : OexC K C
  iC : PySem.W.findIn K (.ref C) "__init__" = some (some (.ref I))
  tI : PySem.W.typeIn K (.ref I) = some (.type "function")
  kI : PySem.W.keepIn K (.ref I) = true
  ga : PySem.W.findIn K (.ref C) "__getattribute__" = some (some (.builtin "BaseException.__getattribute__"))
  gt : PySem.W.findIn K (.ref C) "__getattr__" = some none
  hd : PySem.W.hasDictIn K C = true
  hc : PySem.W.findIn K (.ref C) "__class__" = some (some (.builtin "object.__class__"))
  hm : PySem.W.mroIn K C (.type "object") = some true
  no : ∀ f ∈ fldsK j, PySem.W.findIn K (.ref C) f = some none
  iso : ∀ i, i < 8 → PySem.W.kitOne K (.ref C) (.ref (cAt K i)) = some (decide (j = i))
  te : PySem.W.exmOne K (.ref C) (.ref (He.ga K "HeapError")) = some true
theorem clB_ok {K : PySem.W.Frag} {C I : Addr} {j : Nat} (h : clB K C I j = true) : ClF K C I j := by
  unfold clB at h
  obtain ⟨a1, h⟩ := bit_ok h
  obtain ⟨a2, h⟩ := bit_ok h
  obtain ⟨a3, h⟩ := bit_ok h
  obtain ⟨a4, h⟩ := bit_ok h
  obtain ⟨a5, h⟩ := bit_ok h
  obtain ⟨a6, h⟩ := bit_ok h
  obtain ⟨a7, h⟩ := bit_ok h
  obtain ⟨a8, h⟩ := bit_ok h
  obtain ⟨a9, h⟩ := bit_ok h
  obtain ⟨a10, h⟩ := bit_ok h
  obtain ⟨a11, h⟩ := bit_ok h
  obtain ⟨a12, h⟩ := bit_ok h
  obtain ⟨a13, h⟩ := bit_ok h
  obtain ⟨a14, h⟩ := bit_ok h
  obtain ⟨a15, a16⟩ := bit_ok h
  exact ⟨⟨oexB_ok a1, of_decide_eq_true a2, of_decide_eq_true a3, of_decide_eq_true a4, a5⟩, of_decide_eq_true a6, of_decide_eq_true a7, a8, of_decide_eq_true a9, of_decide_eq_true a10, a11, of_decide_eq_true a12, of_decide_eq_true a13,
    fun f hf => of_decide_eq_true (List.all_eq_true.mp a14 f hf), fun i hi => of_decide_eq_true (List.all_eq_true.mp a15 i (List.mem_range.mpr hi)), of_decide_eq_true a16⟩
structure OwF (K : PySem.W.Frag) (C : Addr) : Prop where
  ca : PySem.W.findIn K (.ref C) "__class__" = some (some (.builtin "object.__class__"))
  hm : PySem.W.mroIn K C (.type "object") = some true
  ty : ∀ T ∈ tysL, PySem.W.kitOne K (.type T) (.ref C) = some false
  un : ∀ T ∈ tysL, PySem.W.kitOne K (.ref C) (.type T) = some false
  nf : ∀ T ∈ tysL, PySem.W.notFirst K C (.type T) = true
theorem ownB_ok {K : PySem.W.Frag} {C : Addr} (h : ownB K C = true) : OwF K C := by
  unfold ownB at h
  obtain ⟨a1, h⟩ := bit_ok h
  obtain ⟨a2, h⟩ := bit_ok h
  obtain ⟨a3, h⟩ := bit_ok h
  obtain ⟨a4, a5⟩ := bit_ok h
  exact ⟨of_decide_eq_true a1, of_decide_eq_true a2, fun T hT => of_decide_eq_true (List.all_eq_true.mp a3 T hT), fun T hT => of_decide_eq_true (List.all_eq_true.mp a4 T hT), fun T hT => List.all_eq_true.mp a5 T hT⟩
/-! ### the Hook -/
def tab0 : List He.FnD := [⟨("is_plain_name", none), "is_plain_name", "is_plain_name", defArgs (topS 16), defBody (topS 16), defScope (topS 16)⟩, ⟨("is_hidden", none), "is_hidden", "is_hidden", defArgs (topS 17), defBody (topS 17), defScope (topS 17)⟩, ⟨("is_plain", none), "is_plain", "is_plain", defArgs (topS 18), defBody (topS 18), defScope (topS 18)⟩, ⟨("is_term", none), "is_term", "is_term", defArgs (topS 19), defBody (topS 19), defScope (topS 19)⟩, ⟨("rising", none), "rising", "rising", defArgs (topS 20), defBody (topS 20), defScope (topS 20)⟩, ⟨("is_whole", none), "is_whole", "is_whole", defArgs (topS 22), defBody (topS 22), defScope (topS 22)⟩, ⟨("is_number", none), "is_number", "is_number", defArgs (topS 23), defBody (topS 23), defScope (topS 23)⟩, ⟨("is_value", none), "is_value", "is_value", defArgs (topS 29), defBody (topS 29), defScope (topS 29)⟩, ⟨("is_address", none), "is_address", "is_address", defArgs (topS 30), defBody (topS 30), defScope (topS 30)⟩, ⟨("is_store", none), "is_store", "is_store", defArgs (topS 31), defBody (topS 31), defScope (topS 31)⟩, ⟨("is_heap", none), "is_heap", "is_heap", defArgs (topS 32), defBody (topS 32), defScope (topS 32)⟩, ⟨("need_state", none), "need_state", "need_state", defArgs (topS 33), defBody (topS 33), defScope (topS 33)⟩]
def tab1 : List He.FnD := [⟨("value_by", none), "value_by", "value_by", defArgs (topS 34), defBody (topS 34), defScope (topS 34)⟩, ⟨("value_of", none), "value_of", "value_of", defArgs (topS 35), defBody (topS 35), defScope (topS 35)⟩, ⟨("need_address", none), "need_address", "need_address", defArgs (topS 36), defBody (topS 36), defScope (topS 36)⟩, ⟨("content_at", none), "content_at", "content_at", defArgs (topS 37), defBody (topS 37), defScope (topS 37)⟩, ⟨("values_by", none), "values_by", "values_by", defArgs (topS 38), defBody (topS 38), defScope (topS 38)⟩, ⟨("values_in", none), "values_in", "values_in", defArgs (topS 39), defBody (topS 39), defScope (topS 39)⟩, ⟨("loose_by", none), "loose_by", "loose_by", defArgs (topS 40), defBody (topS 40), defScope (topS 40)⟩, ⟨("loose_in", none), "loose_in", "loose_in", defArgs (topS 41), defBody (topS 41), defScope (topS 41)⟩, ⟨("least_others", none), "least_others", "least_others", defArgs (topS 42), defBody (topS 42), defScope (topS 42)⟩, ⟨("new_address", none), "new_address", "new_address", defArgs (topS 43), defBody (topS 43), defScope (topS 43)⟩, ⟨("_law_pen", none), "_law_pen", "_law_pen", defArgs (topS 45), defBody (topS 45), defScope (topS 45)⟩, ⟨("_law_draw", none), "_law_draw", "_law_draw", defArgs (topS 46), defBody (topS 46), defScope (topS 46)⟩]
def tab2 : List He.FnD := [⟨("_law_pick", none), "_law_pick", "_law_pick", defArgs (topS 47), defBody (topS 47), defScope (topS 47)⟩, ⟨("_law_shuffled", none), "_law_shuffled", "_law_shuffled", defArgs (topS 48), defBody (topS 48), defScope (topS 48)⟩, ⟨("_law_is", none), "_law_is", "_law_is", defArgs (topS 49), defBody (topS 49), defScope (topS 49)⟩, ⟨("_law_caught", none), "_law_caught", "_law_caught", defArgs (topS 50), defBody (topS 50), defScope (topS 50)⟩, ⟨("_law_raise_so", none), "_law_raise_so", "_law_raise_so", defArgs (topS 51), defBody (topS 51), defScope (topS 51)⟩, ⟨("_law_unlike", none), "_law_unlike", "_law_unlike", defArgs (topS 52), defBody (topS 52), defScope (topS 52)⟩, ⟨("_law_words", none), "_law_words", "_law_words", defArgs (topS 53), defBody (topS 53), defScope (topS 53)⟩, ⟨("_law_is_name_text", none), "_law_is_name_text", "_law_is_name_text", defArgs (topS 54), defBody (topS 54), defScope (topS 54)⟩, ⟨("_law_is_hidden_text", none), "_law_is_hidden_text", "_law_is_hidden_text", defArgs (topS 55), defBody (topS 55), defScope (topS 55)⟩, ⟨("_law_value", none), "_law_value", "_law_value", defArgs (topS 56), defBody (topS 56), defScope (topS 56)⟩, ⟨("_law_values", none), "_law_values", "_law_values", defArgs (topS 57), defBody (topS 57), defScope (topS 57)⟩, ⟨("_law_content", none), "_law_content", "_law_content", defArgs (topS 58), defBody (topS 58), defScope (topS 58)⟩]
def tab3 : List He.FnD := [⟨("_law_drawn_names", none), "_law_drawn_names", "_law_drawn_names", defArgs (topS 59), defBody (topS 59), defScope (topS 59)⟩, ⟨("_law_drawn_state", none), "_law_drawn_state", "_law_drawn_state", defArgs (topS 60), defBody (topS 60), defScope (topS 60)⟩, ⟨("_law_state", none), "_law_state", "_law_state", defArgs (topS 61), defBody (topS 61), defScope (topS 61)⟩, ⟨("_law_plain_state", none), "_law_plain_state", "_law_plain_state", defArgs (topS 62), defBody (topS 62), defScope (topS 62)⟩, ⟨("_law_terms_right", none), "_law_terms_right", "_law_terms_right", defArgs (topS 63), defBody (topS 63), defScope (topS 63)⟩, ⟨("_law_spoils", none), "_law_spoils", "_law_spoils", defArgs (topS 64), defBody (topS 64), defScope (topS 64)⟩, ⟨("_law_refusals_right", none), "_law_refusals_right", "_law_refusals_right", defArgs (topS 65), defBody (topS 65), defScope (topS 65)⟩, ⟨("law", none), "law", "law", defArgs (topS 66), defBody (topS 66), defScope (topS 66)⟩]
def tab : List He.FnD := tab0 ++ tab1 ++ tab2 ++ tab3
def tac0 : List He.FnD := [⟨("BadName", some "__init__"), "__init__", "BadName.__init__", defArgs (inClass (topS 3) 0), defBody (inClass (topS 3) 0), defScope (inClass (topS 3) 0)⟩, ⟨("BadNumber", some "__init__"), "__init__", "BadNumber.__init__", defArgs (inClass (topS 4) 0), defBody (inClass (topS 4) 0), defScope (inClass (topS 4) 0)⟩, ⟨("BadRow", some "__init__"), "__init__", "BadRow.__init__", defArgs (inClass (topS 5) 0), defBody (inClass (topS 5) 0), defScope (inClass (topS 5) 0)⟩, ⟨("NoName", some "__init__"), "__init__", "NoName.__init__", defArgs (inClass (topS 6) 0), defBody (inClass (topS 6) 0), defScope (inClass (topS 6) 0)⟩, ⟨("TakenName", some "__init__"), "__init__", "TakenName.__init__", defArgs (inClass (topS 7) 0), defBody (inClass (topS 7) 0), defScope (inClass (topS 7) 0)⟩, ⟨("TooMany", some "__init__"), "__init__", "TooMany.__init__", defArgs (inClass (topS 9) 0), defBody (inClass (topS 9) 0), defScope (inClass (topS 9) 0)⟩, ⟨("Unlike", some "__init__"), "__init__", "Unlike.__init__", defArgs (inClass (topS 8) 0), defBody (inClass (topS 8) 0), defScope (inClass (topS 8) 0)⟩, ⟨("BadText", some "__init__"), "__init__", "BadText.__init__", defArgs (inClass (topS 2) 0), defBody (inClass (topS 2) 0), defScope (inClass (topS 2) 0)⟩, ⟨("State", some "__init__"), "__init__", "State.__init__", defArgs (inClass (topS 28) 0), defBody (inClass (topS 28) 0), defScope (inClass (topS 28) 0)⟩, ⟨("State", some "__eq__"), "__eq__", "State.__eq__", defArgs (inClass (topS 28) 1), defBody (inClass (topS 28) 1), defScope (inClass (topS 28) 1)⟩, ⟨("State", some "__ne__"), "__ne__", "State.__ne__", defArgs (inClass (topS 28) 2), defBody (inClass (topS 28) 2), defScope (inClass (topS 28) 2)⟩]
def tac : List He.FnD := tac0
def gls0 : List He.Fa := [.glo "is_plain_name", .glo "is_hidden", .glo "is_plain", .glo "is_term", .glo "rising", .glo "is_whole", .glo "is_number", .glo "is_value", .glo "is_address", .glo "is_store", .glo "is_heap", .glo "need_state"]
def gls1 : List He.Fa := [.glo "value_by", .glo "value_of", .glo "need_address", .glo "content_at", .glo "values_by", .glo "values_in", .glo "loose_by", .glo "loose_in", .glo "least_others", .glo "new_address", .glo "_law_pen", .glo "_law_draw"]
def gls2 : List He.Fa := [.glo "_law_pick", .glo "_law_shuffled", .glo "_law_is", .glo "_law_caught", .glo "_law_raise_so", .glo "_law_unlike", .glo "_law_words", .glo "_law_is_name_text", .glo "_law_is_hidden_text", .glo "_law_value", .glo "_law_values", .glo "_law_content"]
def gls3 : List He.Fa := [.glo "_law_drawn_names", .glo "_law_drawn_state", .glo "_law_state", .glo "_law_plain_state", .glo "_law_terms_right", .glo "_law_spoils", .glo "_law_refusals_right", .glo "law", .glo "BadName", .glo "BadNumber", .glo "BadRow", .glo "NoName"]
def gls4 : List He.Fa := [.glo "TakenName", .glo "TooMany", .glo "Unlike", .glo "BadText", .glo "HeapError", .glo "State"]
def gls : List He.Fa := gls0 ++ gls1 ++ gls2 ++ gls3 ++ gls4
def fre0 : List He.Fa := [.free "int", .free "range", .free "list", .free "isinstance", .free "len", .free "all", .free "bool", .free "str", .free "sorted", .free "tuple", .free "enumerate", .free "zip"]
def fre1 : List He.Fa := [.free "dict", .free "any", .free "repr", .free "max", .free "min", .free "sum", .free "ValueError"]
def fre : List He.Fa := fre0 ++ fre1
def kps0 : List He.Fa := [.keep "is_plain_name", .keep "is_hidden", .keep "is_plain", .keep "is_term", .keep "rising", .keep "is_whole", .keep "is_number", .keep "is_value", .keep "is_address", .keep "is_store", .keep "is_heap", .keep "need_state"]
def kps1 : List He.Fa := [.keep "value_by", .keep "value_of", .keep "need_address", .keep "content_at", .keep "values_by", .keep "values_in", .keep "loose_by", .keep "loose_in", .keep "least_others", .keep "new_address", .keep "_law_pen", .keep "_law_draw"]
def kps2 : List He.Fa := [.keep "_law_pick", .keep "_law_shuffled", .keep "_law_is", .keep "_law_caught", .keep "_law_raise_so", .keep "_law_unlike", .keep "_law_words", .keep "_law_is_name_text", .keep "_law_is_hidden_text", .keep "_law_value", .keep "_law_values", .keep "_law_content"]
def kps3 : List He.Fa := [.keep "_law_drawn_names", .keep "_law_drawn_state", .keep "_law_state", .keep "_law_plain_state", .keep "_law_terms_right", .keep "_law_spoils", .keep "_law_refusals_right", .keep "law"]
def kps : List He.Fa := kps0 ++ kps1 ++ kps2 ++ kps3
def cns0 : List He.Fa := [.str "LETTERS" "abcdefghijklmnopqrstuvwxyz", .str "DIGITS" "0123456789", .int "MOST_SIGNS" 12, .int "MOST_DIGITS" 6, .glo "WORDS", .int "MOST_VALUE" 1000000, .int "MOST_NAMES" 60, .int "MOST_CELLS" 40]
def cns : List He.Fa := cns0
def kls0 : List He.Fa := [.cls "State", .mkr "State", .noat "State" "store", .noat "State" "heap", .meth "State" "__init__", .meth "State" "__eq__", .meth "State" "__ne__"]
def kls : List He.Fa := kls0
def owns : List Str := ["State"]
def tups : List (Str × List He.Dv) := [("WORDS", [.str "nil", .str "new", .str "free", .str "if", .str "else", .str "while", .str "keep", .str "end", .str "call", .str "with", .str "needs", .str "gives", .str "routine"])]
def tbs : List He.Defn := [("_law_refusals_right", none)]
abbrev ObsT : Type := (Bool × List He.FnV) × Bool
def asK (g : Addr → Option Obj) : List Addr := PySem.cStatics :: He.asD g 4
def fctB (K : PySem.W.Frag) : Bool := bit (gls.all fun f => f.ok K) (bit (fre.all fun f => f.ok K) (bit (kps.all fun f => f.ok K) (bit (cns.all fun f => f.ok K) (bit (kls.all fun f => f.ok K) (bit (owns.all fun x => ownB K (He.ga K x)) (bit (tups.all fun x => He.tupB K x.1 x.2)
  (bit ((tab ++ tac).all fun d => (He.Fa.code d.at_ d.qual).ok K) (exB K))))))))
def obsK (K : PySem.W.Frag) : Bool × List He.FnV := (fctB K, (tab ++ tac).map fun d => He.fnObs K d.at_)
def valK : Bool × List He.FnV := (true, (tab ++ tac).map He.FnD.val)
def obsG (g : Addr → Option Obj) : ObsT := (obsK (He.frT g (asK g)), He.tabsB g tbs (He.frT g (asK g)))
structure Says (h : Heap) (K : PySem.W.Frag) : Prop where
  kin : K.In h
  t : obsK K = valK
  hd : ∀ p ∈ tbs, PySem.W.codeHdIn K (He.cT K p).1 (He.cT K p).2 = true
  out : ∀ p ∈ tbs, K.lookup (He.cT K p).2 = none
  empty : ∀ p ∈ tbs, h.get? (He.cT K p).2 = some { cls := .none, data := .fields #[] }
theorem says_of {h : Heap} (e : obsG h.get? = (valK, true)) : Says h (He.frT h.get? (asK h.get?)) := by
  have e1 : obsK (He.frT h.get? (asK h.get?)) = valK := congrArg (fun z : ObsT => z.1) e
  have e2 : He.tabsB h.get? tbs (He.frT h.get? (asK h.get?)) = true := congrArg (fun z : ObsT => z.2) e
  have key : ∀ p ∈ tbs, PySem.W.codeHdIn (He.frT h.get? (asK h.get?)) (He.cT (He.frT h.get? (asK h.get?)) p).1 (He.cT (He.frT h.get? (asK h.get?)) p).2 = true ∧ ∃ o, h.get? (He.cT (He.frT h.get? (asK h.get?)) p).2 = some o ∧ He.emptyTab o = true := fun p hp => by
    obtain ⟨h3, h4⟩ := He.ba (List.all_eq_true.mp e2 p hp)
    refine ⟨h3, ?_⟩
    cases q : h.get? (He.cT (He.frT h.get? (asK h.get?)) p).2 with
    | none =>
      rw [q] at h4
      cases h4
    | some o =>
      rw [q] at h4
      exact ⟨o, rfl, h4⟩
  exact ⟨He.frT_in, e1, fun p hp => (key p hp).1, fun p hp => by
    obtain ⟨_, o, q, z⟩ := key p hp
    exact He.frT_none q z, fun p hp => by
    obtain ⟨_, o, q, z⟩ := key p hp
    rw [q, He.emptyTab_eq z]⟩
def hookK : PySem.W.Hook where
  α := ObsT
  obs := fun s => obsG s.heap.get?
  val := fun _ => (valK, true)
  says := fun _ h => ∃ K : PySem.W.Frag, Says h K
  of := fun _ _ e => ⟨_, says_of e⟩
  keeps := fun _ _ _ ⟨K, c⟩ k => ⟨K, ⟨PySem.W.Frag.In.keeps c.kin k, c.t, c.hd, c.out, fun p hp => k _ _ (c.empty p hp)⟩⟩
abbrev R : PySem.W.OpenRow := PySem.W.OpenLaw.row PySem.Challenge.rw_heapshown_k01_terms_and_states
def ob (s : PySem.W.SharedT) : ObsT := obsG (HandSHeadRun.getT s)
theorem ob_eq (s : PySem.W.SharedT) : ob s = hookK.obs s.abs := by
  have e : HandSHeadRun.getT s = s.abs.heap.get? := funext fun a => HandSHeadRun.getT_eq s a
  show obsG (HandSHeadRun.getT s) = obsG s.abs.heap.get?
  rw [e]
def loose0 : List PySem.Str := ["is_plain_name", "is_hidden", "is_plain", "is_term", "rising", "is_whole", "is_number", "is_value", "is_address", "is_store", "is_heap", "need_state"]
def loose1 : List PySem.Str := ["value_by", "value_of", "need_address", "content_at", "values_by", "values_in", "loose_by", "loose_in", "least_others", "new_address", "_law_pen", "_law_draw"]
def loose2 : List PySem.Str := ["_law_pick", "_law_shuffled", "_law_is", "_law_caught", "_law_raise_so", "_law_unlike", "_law_words", "_law_is_name_text", "_law_is_hidden_text", "_law_value", "_law_values", "_law_content"]
def loose3 : List PySem.Str := ["_law_drawn_names", "_law_drawn_state", "_law_state", "_law_plain_state", "_law_terms_right", "_law_spoils", "_law_refusals_right", "BadName", "BadNumber", "BadRow", "NoName", "TakenName"]
def loose4 : List PySem.Str := ["TooMany", "Unlike", "BadText", "HeapError", "State", "LETTERS", "DIGITS", "MOST_SIGNS", "MOST_DIGITS", "WORDS", "MOST_VALUE", "MOST_NAMES"]
def loose5 : List PySem.Str := ["MOST_CELLS"]
def loose : List PySem.Str := loose0 ++ loose1 ++ loose2 ++ loose3 ++ loose4 ++ loose5
end Kb.Hd
set_option Elab.async false
set_option linter.all false
set_option maxRecDepth 100000
set_option maxHeartbeats 0
namespace Kb.Hd
open PySem PySem.Spec PyProof.Rows L2
theorem run (w : World) : HandSHeadRun.RunEq R (PySem.W.view R.prog [66]) hookK ob 20000 loose w := by
  intro os
  kernel_rfl
end Kb.Hd
set_option Elab.async false
set_option linter.all false
set_option maxRecDepth 100000
set_option maxHeartbeats 4000000
namespace Kb.Hd
open PySem PySem.Spec PyProof.Rows L2 LamX
/-! ### the facts, by names (printed by gen_asm.py) -/
section
variable {K : PySem.W.Frag} {h : Heap} {mg : Str → Option Value}
structure Pa (K : PySem.W.Frag) : Prop where
  gl : ∀ f ∈ gls, f.ok K = true
  fr : ∀ f ∈ fre, f.ok K = true
  kp : ∀ f ∈ kps, f.ok K = true
  cn : ∀ f ∈ cns, f.ok K = true
  kl : ∀ f ∈ kls, f.ok K = true
  ow : ∀ x ∈ owns, OwF K (He.ga K x)
  tu : ∀ x ∈ tups, He.tupB K x.1 x.2 = true
  co : ∀ d ∈ tab ++ tac, (He.Fa.code d.at_ d.qual).ok K = true
  he : heB K = true
  cl : ∀ j, j < 8 → ClF K (cAt K j) (iAt K j) j
  fn : ∀ (i : Nat) (d : He.FnD), (tab ++ tac)[i]? = some d → He.fnObs K d.at_ = d.val
theorem pa_of (c : obsK K = valK) : Pa K := by
  have c1 : fctB K = true := congrArg (fun z : Bool × List He.FnV => z.1) c
  have c2 : (tab ++ tac).map (fun d => He.fnObs K d.at_) = (tab ++ tac).map He.FnD.val := congrArg (fun z : Bool × List He.FnV => z.2) c
  unfold fctB at c1
  obtain ⟨h1, c1⟩ := bit_ok c1
  obtain ⟨h2, c1⟩ := bit_ok c1
  obtain ⟨h3, c1⟩ := bit_ok c1
  obtain ⟨h4, c1⟩ := bit_ok c1
  obtain ⟨h5, c1⟩ := bit_ok c1
  obtain ⟨h6, c1⟩ := bit_ok c1
  obtain ⟨h7, c1⟩ := bit_ok c1
  obtain ⟨h8, c1⟩ := bit_ok c1
  unfold exB at c1
  obtain ⟨h9, h10⟩ := bit_ok c1
  refine ⟨fun f hf => List.all_eq_true.mp h1 f hf, fun f hf => List.all_eq_true.mp h2 f hf, fun f hf => List.all_eq_true.mp h3 f hf, fun f hf => List.all_eq_true.mp h4 f hf, fun f hf => List.all_eq_true.mp h5 f hf, fun x hx => ownB_ok (List.all_eq_true.mp h6 x hx), fun x hx => List.all_eq_true.mp h7 x hx,
    fun d hd => List.all_eq_true.mp h8 d hd, h9, fun j hj => clB_ok (List.all_eq_true.mp h10 j (List.mem_range.mpr hj)), fun i d hi => ?_⟩
  have e2 : ((tab ++ tac).map fun d => He.fnObs K d.at_)[i]? = ((tab ++ tac).map He.FnD.val)[i]? := by rw [c2]
  rw [List.getElem?_map, List.getElem?_map, hi] at e2
  exact Option.some.inj e2
theorem glo_of (X : K.In h) (G : h.Ns mainGlobals mg) (c : Pa K) {x : Str} (i : Nat) (e : gls[i]? = some (.glo x)) : mg x = some (.ref (He.ga K x)) := He.glo_ok X G (c.gl _ (List.mem_of_getElem? e))
theorem free_of (X : K.In h) (G : h.Ns mainGlobals mg) (c : Pa K) {x : Str} (i : Nat) (e : fre[i]? = some (.free x)) : mg x = none := He.free_ok X G (c.fr _ (List.mem_of_getElem? e))
theorem keep_of (c : Pa K) {x : Str} (i : Nat) (e : kps[i]? = some (.keep x)) : PySem.W.keepIn K (.ref (He.ga K x)) = true := c.kp _ (List.mem_of_getElem? e)
theorem fun_of (c : Pa K) {p : Str × Option Str} {x q : Str} {st : Stmt} (i : Nat) (e : (tab ++ tac)[i]? = some ⟨p, x, q, defArgs st, defBody st, defScope st⟩) (k : PySem.W.keepIn K (.ref (He.fAd K p)) = true) : ∃ fd, Fun K x q st (He.fAd K p) fd := by
  obtain ⟨oc, od, osl, kV, doc, pm, an, cdv, ct, l, cd⟩ := He.fn_ok (c.fn i _ e) (c.co _ (List.mem_of_getElem? e))
  exact ⟨_, fun_mk l cd k⟩
theorem he_of (X : K.In h) (G : h.Ns mainGlobals mg) (c : Pa K) : HeC K mg (He.ga K "HeapError") ∧ PySem.W.specialIn K (.builtin "object.__class__") "__get__" = some (some (.builtin "getset_descriptor.__get__")) ∧ PySem.W.takesIn K (.builtin "object.__class__") = some true := by
  have hb := c.he
  unfold heB at hb
  obtain ⟨a1, hb⟩ := bit_ok hb
  obtain ⟨a2, hb⟩ := bit_ok hb
  obtain ⟨a3, hb⟩ := bit_ok hb
  obtain ⟨a4, a5⟩ := bit_ok hb
  refine ⟨⟨glo_of X G c 52 rfl, of_decide_eq_true a1, a2, ?_⟩, of_decide_eq_true a4, of_decide_eq_true a5⟩
  split at a3
  · rename_i n hn
    rw [hn, beq_iff_eq.mp a3]
  · cases a3
theorem kx_of (X : K.In h) (G : h.Ns mainGlobals mg) (c : Pa K) : KX K mg (He.ga K "HeapError") (cAt K) := by
  have C := c.cl
  obtain ⟨_, hn, ht⟩ := he_of X G c
  exact {
    iso := fun j i hj hi => (C j hj).iso i hi
    ex := fun j hj => ⟨(C j hj).ga, (C j hj).gt, (C j hj).T.exC, (C j hj).hd, (C j hj).hc, hn, ht, (C j hj).hm⟩
    xf := fun j hj => ⟨(C j hj).ga, (C j hj).gt, (C j hj).T.exC, (C j hj).hd⟩
    te := fun j hj => (C j hj).te
    gHE := glo_of X G c 52 rfl
    g0 := glo_of X G c 44 rfl
    g1 := glo_of X G c 45 rfl
    g2 := glo_of X G c 46 rfl
    g3 := glo_of X G c 47 rfl
    g4 := glo_of X G c 48 rfl
    g5 := glo_of X G c 49 rfl
    g6 := glo_of X G c 50 rfl
    g7 := glo_of X G c 51 rfl
    n0name := (C 0 (by decide)).no "name" (by decide)
    n1what := (C 1 (by decide)).no "what" (by decide)
    n1number := (C 1 (by decide)).no "number" (by decide)
    n2what := (C 2 (by decide)).no "what" (by decide)
    n2row := (C 2 (by decide)).no "row" (by decide)
    n3name := (C 3 (by decide)).no "name" (by decide)
    n4name := (C 4 (by decide)).no "name" (by decide)
    n5what := (C 5 (by decide)).no "what" (by decide)
    n5many := (C 5 (by decide)).no "many" (by decide)
    n5limit := (C 5 (by decide)).no "limit" (by decide)
    n6what := (C 6 (by decide)).no "what" (by decide)
    n7line := (C 7 (by decide)).no "line" (by decide)
    n7word := (C 7 (by decide)).no "word" (by decide)
  }
theorem bi_of (X : K.In h) (G : h.Ns mainGlobals mg) (c : Pa K) : Bi mg := ⟨free_of X G c 0 rfl, free_of X G c 1 rfl, free_of X G c 2 rfl, free_of X G c 3 rfl, free_of X G c 4 rfl, free_of X G c 5 rfl, free_of X G c 6 rfl, free_of X G c 7 rfl, free_of X G c 8 rfl, free_of X G c 9 rfl, free_of X G c 10 rfl, free_of X G c 11 rfl, free_of X G c 12 rfl, free_of X G c 13 rfl, free_of X G c 14 rfl, free_of X G c 15 rfl, free_of X G c 16 rfl, free_of X G c 17 rfl, free_of X G c 18 rfl⟩
theorem gc_LETTERS (X : K.In h) (G : h.Ns mainGlobals mg) (c : Pa K) : Gc mg "LETTERS" (.str "abcdefghijklmnopqrstuvwxyz") := let ⟨t, e⟩ := He.str_ok X G (c.cn _ (List.mem_of_getElem? (i := 0) rfl)); ⟨_, e, ⟨t, rfl⟩⟩
theorem gc_DIGITS (X : K.In h) (G : h.Ns mainGlobals mg) (c : Pa K) : Gc mg "DIGITS" (.str "0123456789") := let ⟨t, e⟩ := He.str_ok X G (c.cn _ (List.mem_of_getElem? (i := 1) rfl)); ⟨_, e, ⟨t, rfl⟩⟩
theorem gc_MOST_SIGNS (X : K.In h) (G : h.Ns mainGlobals mg) (c : Pa K) : Gc mg "MOST_SIGNS" (.int 12) := let ⟨t, e⟩ := He.int_ok X G (c.cn _ (List.mem_of_getElem? (i := 2) rfl)); ⟨_, e, ⟨t, rfl⟩⟩
theorem gc_MOST_DIGITS (X : K.In h) (G : h.Ns mainGlobals mg) (c : Pa K) : Gc mg "MOST_DIGITS" (.int 6) := let ⟨t, e⟩ := He.int_ok X G (c.cn _ (List.mem_of_getElem? (i := 3) rfl)); ⟨_, e, ⟨t, rfl⟩⟩
theorem gc_WORDS (X : K.In h) (G : h.Ns mainGlobals mg) (c : Pa K) : Gc mg "WORDS" (.ref (He.ga K "WORDS")) := ⟨_, He.glo_ok X G (c.cn _ (List.mem_of_getElem? (i := 4) rfl)), rfl⟩
theorem tu_WORDS (c : Pa K) : ∀ H, SqT K H (He.ga K "WORDS") [V.str "nil", V.str "new", V.str "free", V.str "if", V.str "else", V.str "while", V.str "keep", V.str "end", V.str "call", V.str "with", V.str "needs", V.str "gives", V.str "routine"] := fun H => He.tupB_ok (vs := [.str "nil", .str "new", .str "free", .str "if", .str "else", .str "while", .str "keep", .str "end", .str "call", .str "with", .str "needs", .str "gives", .str "routine"]) (c.tu _ (List.mem_of_getElem? (i := 0) rfl)) H
theorem gc_MOST_VALUE (X : K.In h) (G : h.Ns mainGlobals mg) (c : Pa K) : Gc mg "MOST_VALUE" (.int 1000000) := let ⟨t, e⟩ := He.int_ok X G (c.cn _ (List.mem_of_getElem? (i := 5) rfl)); ⟨_, e, ⟨t, rfl⟩⟩
theorem gc_MOST_NAMES (X : K.In h) (G : h.Ns mainGlobals mg) (c : Pa K) : Gc mg "MOST_NAMES" (.int 60) := let ⟨t, e⟩ := He.int_ok X G (c.cn _ (List.mem_of_getElem? (i := 6) rfl)); ⟨_, e, ⟨t, rfl⟩⟩
theorem gc_MOST_CELLS (X : K.In h) (G : h.Ns mainGlobals mg) (c : Pa K) : Gc mg "MOST_CELLS" (.int 40) := let ⟨t, e⟩ := He.int_ok X G (c.cn _ (List.mem_of_getElem? (i := 7) rfl)); ⟨_, e, ⟨t, rfl⟩⟩
theorem ws_of (X : K.In h) (G : h.Ns mainGlobals mg) (c : Pa K) : WS K mg := { LETTERS := gc_LETTERS X G c, DIGITS := gc_DIGITS X G c, MOST_SIGNS := gc_MOST_SIGNS X G c, MOST_DIGITS := gc_MOST_DIGITS X G c, WORDS := gc_WORDS X G c, words := tu_WORDS c, MOST_VALUE := gc_MOST_VALUE X G c, MOST_NAMES := gc_MOST_NAMES X G c, MOST_CELLS := gc_MOST_CELLS X G c }
theorem kl_State (X : K.In h) (G : h.Ns mainGlobals mg) (c : Pa K) : Kl K mg "State" (He.ga K "State") ["store", "heap"] := by
  have O := c.ow "State" (List.mem_of_getElem? (i := 0) rfl)
  obtain ⟨_, hn, ht⟩ := he_of X G c
  refine ⟨glo_of X G c 53 rfl, He.cls_ok (c.kl _ (List.mem_of_getElem? (i := 0) rfl)), fun f hf => ?_, O.ca, hn, ht, O.hm, O.ty, O.un, O.nf⟩
  rcases List.mem_cons.mp hf with rfl | hf
  · exact He.noat_ok (c.kl _ (List.mem_of_getElem? (i := 2) rfl))
  rcases List.mem_cons.mp hf with rfl | hf
  · exact He.noat_ok (c.kl _ (List.mem_of_getElem? (i := 3) rfl))
  cases hf
theorem mk_State (c : Pa K) : L2.Mk K (He.ga K "State") (He.ma K (He.ga K "State") "__init__") := He.mkr_ok (c.kl _ (List.mem_of_getElem? (i := 1) rfl))
theorem me_State__init__ (c : Pa K) : L2.Meth K (He.ga K "State") "__init__" (He.ma K (He.ga K "State") "__init__") := He.meth_ok (c.kl _ (List.mem_of_getElem? (i := 4) rfl))
theorem me_State__eq__ (c : Pa K) : L2.Meth K (He.ga K "State") "__eq__" (He.ma K (He.ga K "State") "__eq__") := He.meth_ok (c.kl _ (List.mem_of_getElem? (i := 5) rfl))
theorem me_State__ne__ (c : Pa K) : L2.Meth K (He.ga K "State") "__ne__" (He.ma K (He.ga K "State") "__ne__") := He.meth_ok (c.kl _ (List.mem_of_getElem? (i := 6) rfl))
theorem df_is_plain_name (X : K.In h) (G : h.Ns mainGlobals mg) (c : Pa K) : Df K mg "is_plain_name" s_is_plain_name ["value"] := by
  obtain ⟨fd, F⟩ := fun_of (x := "is_plain_name") (q := "is_plain_name") (st := topS 16) (p := ("is_plain_name", none)) c 0 rfl (keep_of c 0 rfl)
  exact ⟨_, fd, F, F.binds (fun _ _ _ _ _ _ us hl => match us, hl with | [_], _ => rfl), F.kp, glo_of X G c 0 rfl⟩
theorem df_is_hidden (X : K.In h) (G : h.Ns mainGlobals mg) (c : Pa K) : Df K mg "is_hidden" s_is_hidden ["value"] := by
  obtain ⟨fd, F⟩ := fun_of (x := "is_hidden") (q := "is_hidden") (st := topS 17) (p := ("is_hidden", none)) c 1 rfl (keep_of c 1 rfl)
  exact ⟨_, fd, F, F.binds (fun _ _ _ _ _ _ us hl => match us, hl with | [_], _ => rfl), F.kp, glo_of X G c 1 rfl⟩
theorem df_is_plain (X : K.In h) (G : h.Ns mainGlobals mg) (c : Pa K) : Df K mg "is_plain" s_is_plain ["value"] := by
  obtain ⟨fd, F⟩ := fun_of (x := "is_plain") (q := "is_plain") (st := topS 18) (p := ("is_plain", none)) c 2 rfl (keep_of c 2 rfl)
  exact ⟨_, fd, F, F.binds (fun _ _ _ _ _ _ us hl => match us, hl with | [_], _ => rfl), F.kp, glo_of X G c 2 rfl⟩
theorem df_is_term (X : K.In h) (G : h.Ns mainGlobals mg) (c : Pa K) : Df K mg "is_term" s_is_term ["value"] := by
  obtain ⟨fd, F⟩ := fun_of (x := "is_term") (q := "is_term") (st := topS 19) (p := ("is_term", none)) c 3 rfl (keep_of c 3 rfl)
  exact ⟨_, fd, F, F.binds (fun _ _ _ _ _ _ us hl => match us, hl with | [_], _ => rfl), F.kp, glo_of X G c 3 rfl⟩
theorem df_rising (X : K.In h) (G : h.Ns mainGlobals mg) (c : Pa K) : Df K mg "rising" s_rising ["value"] := by
  obtain ⟨fd, F⟩ := fun_of (x := "rising") (q := "rising") (st := topS 20) (p := ("rising", none)) c 4 rfl (keep_of c 4 rfl)
  exact ⟨_, fd, F, F.binds (fun _ _ _ _ _ _ us hl => match us, hl with | [_], _ => rfl), F.kp, glo_of X G c 4 rfl⟩
theorem df_is_whole (X : K.In h) (G : h.Ns mainGlobals mg) (c : Pa K) : Df K mg "is_whole" s_is_whole ["value"] := by
  obtain ⟨fd, F⟩ := fun_of (x := "is_whole") (q := "is_whole") (st := topS 22) (p := ("is_whole", none)) c 5 rfl (keep_of c 5 rfl)
  exact ⟨_, fd, F, F.binds (fun _ _ _ _ _ _ us hl => match us, hl with | [_], _ => rfl), F.kp, glo_of X G c 5 rfl⟩
theorem df_is_number (X : K.In h) (G : h.Ns mainGlobals mg) (c : Pa K) : Df K mg "is_number" s_is_number ["value"] := by
  obtain ⟨fd, F⟩ := fun_of (x := "is_number") (q := "is_number") (st := topS 23) (p := ("is_number", none)) c 6 rfl (keep_of c 6 rfl)
  exact ⟨_, fd, F, F.binds (fun _ _ _ _ _ _ us hl => match us, hl with | [_], _ => rfl), F.kp, glo_of X G c 6 rfl⟩
theorem df_is_value (X : K.In h) (G : h.Ns mainGlobals mg) (c : Pa K) : Df K mg "is_value" s_is_value ["value"] := by
  obtain ⟨fd, F⟩ := fun_of (x := "is_value") (q := "is_value") (st := topS 29) (p := ("is_value", none)) c 7 rfl (keep_of c 7 rfl)
  exact ⟨_, fd, F, F.binds (fun _ _ _ _ _ _ us hl => match us, hl with | [_], _ => rfl), F.kp, glo_of X G c 7 rfl⟩
theorem df_is_address (X : K.In h) (G : h.Ns mainGlobals mg) (c : Pa K) : Df K mg "is_address" s_is_address ["value"] := by
  obtain ⟨fd, F⟩ := fun_of (x := "is_address") (q := "is_address") (st := topS 30) (p := ("is_address", none)) c 8 rfl (keep_of c 8 rfl)
  exact ⟨_, fd, F, F.binds (fun _ _ _ _ _ _ us hl => match us, hl with | [_], _ => rfl), F.kp, glo_of X G c 8 rfl⟩
theorem df_is_store (X : K.In h) (G : h.Ns mainGlobals mg) (c : Pa K) : Df K mg "is_store" s_is_store ["value"] := by
  obtain ⟨fd, F⟩ := fun_of (x := "is_store") (q := "is_store") (st := topS 31) (p := ("is_store", none)) c 9 rfl (keep_of c 9 rfl)
  exact ⟨_, fd, F, F.binds (fun _ _ _ _ _ _ us hl => match us, hl with | [_], _ => rfl), F.kp, glo_of X G c 9 rfl⟩
theorem df_is_heap (X : K.In h) (G : h.Ns mainGlobals mg) (c : Pa K) : Df K mg "is_heap" s_is_heap ["value"] := by
  obtain ⟨fd, F⟩ := fun_of (x := "is_heap") (q := "is_heap") (st := topS 32) (p := ("is_heap", none)) c 10 rfl (keep_of c 10 rfl)
  exact ⟨_, fd, F, F.binds (fun _ _ _ _ _ _ us hl => match us, hl with | [_], _ => rfl), F.kp, glo_of X G c 10 rfl⟩
theorem df_need_state (X : K.In h) (G : h.Ns mainGlobals mg) (c : Pa K) : Df K mg "need_state" s_need_state ["what", "value"] := by
  obtain ⟨fd, F⟩ := fun_of (x := "need_state") (q := "need_state") (st := topS 33) (p := ("need_state", none)) c 11 rfl (keep_of c 11 rfl)
  exact ⟨_, fd, F, F.binds (fun _ _ _ _ _ _ us hl => match us, hl with | [_, _], _ => rfl), F.kp, glo_of X G c 11 rfl⟩
theorem df_value_by (X : K.In h) (G : h.Ns mainGlobals mg) (c : Pa K) : Df K mg "value_by" s_value_by ["state", "term"] := by
  obtain ⟨fd, F⟩ := fun_of (x := "value_by") (q := "value_by") (st := topS 34) (p := ("value_by", none)) c 12 rfl (keep_of c 12 rfl)
  exact ⟨_, fd, F, F.binds (fun _ _ _ _ _ _ us hl => match us, hl with | [_, _], _ => rfl), F.kp, glo_of X G c 12 rfl⟩
theorem df_value_of (X : K.In h) (G : h.Ns mainGlobals mg) (c : Pa K) : Df K mg "value_of" s_value_of ["state", "term"] := by
  obtain ⟨fd, F⟩ := fun_of (x := "value_of") (q := "value_of") (st := topS 35) (p := ("value_of", none)) c 13 rfl (keep_of c 13 rfl)
  exact ⟨_, fd, F, F.binds (fun _ _ _ _ _ _ us hl => match us, hl with | [_, _], _ => rfl), F.kp, glo_of X G c 13 rfl⟩
theorem df_need_address (X : K.In h) (G : h.Ns mainGlobals mg) (c : Pa K) : Df K mg "need_address" s_need_address ["address"] := by
  obtain ⟨fd, F⟩ := fun_of (x := "need_address") (q := "need_address") (st := topS 36) (p := ("need_address", none)) c 14 rfl (keep_of c 14 rfl)
  exact ⟨_, fd, F, F.binds (fun _ _ _ _ _ _ us hl => match us, hl with | [_], _ => rfl), F.kp, glo_of X G c 14 rfl⟩
theorem df_content_at (X : K.In h) (G : h.Ns mainGlobals mg) (c : Pa K) : Df K mg "content_at" s_content_at ["state", "address"] := by
  obtain ⟨fd, F⟩ := fun_of (x := "content_at") (q := "content_at") (st := topS 37) (p := ("content_at", none)) c 15 rfl (keep_of c 15 rfl)
  exact ⟨_, fd, F, F.binds (fun _ _ _ _ _ _ us hl => match us, hl with | [_, _], _ => rfl), F.kp, glo_of X G c 15 rfl⟩
theorem df_values_by (X : K.In h) (G : h.Ns mainGlobals mg) (c : Pa K) : Df K mg "values_by" s_values_by ["state"] := by
  obtain ⟨fd, F⟩ := fun_of (x := "values_by") (q := "values_by") (st := topS 38) (p := ("values_by", none)) c 16 rfl (keep_of c 16 rfl)
  exact ⟨_, fd, F, F.binds (fun _ _ _ _ _ _ us hl => match us, hl with | [_], _ => rfl), F.kp, glo_of X G c 16 rfl⟩
theorem df_values_in (X : K.In h) (G : h.Ns mainGlobals mg) (c : Pa K) : Df K mg "values_in" s_values_in ["state"] := by
  obtain ⟨fd, F⟩ := fun_of (x := "values_in") (q := "values_in") (st := topS 39) (p := ("values_in", none)) c 17 rfl (keep_of c 17 rfl)
  exact ⟨_, fd, F, F.binds (fun _ _ _ _ _ _ us hl => match us, hl with | [_], _ => rfl), F.kp, glo_of X G c 17 rfl⟩
theorem df_loose_by (X : K.In h) (G : h.Ns mainGlobals mg) (c : Pa K) : Df K mg "loose_by" s_loose_by ["state"] := by
  obtain ⟨fd, F⟩ := fun_of (x := "loose_by") (q := "loose_by") (st := topS 40) (p := ("loose_by", none)) c 18 rfl (keep_of c 18 rfl)
  exact ⟨_, fd, F, F.binds (fun _ _ _ _ _ _ us hl => match us, hl with | [_], _ => rfl), F.kp, glo_of X G c 18 rfl⟩
theorem df_loose_in (X : K.In h) (G : h.Ns mainGlobals mg) (c : Pa K) : Df K mg "loose_in" s_loose_in ["state"] := by
  obtain ⟨fd, F⟩ := fun_of (x := "loose_in") (q := "loose_in") (st := topS 41) (p := ("loose_in", none)) c 19 rfl (keep_of c 19 rfl)
  exact ⟨_, fd, F, F.binds (fun _ _ _ _ _ _ us hl => match us, hl with | [_], _ => rfl), F.kp, glo_of X G c 19 rfl⟩
theorem df_least_others (X : K.In h) (G : h.Ns mainGlobals mg) (c : Pa K) : Df K mg "least_others" s_least_others ["values", "many"] := by
  obtain ⟨fd, F⟩ := fun_of (x := "least_others") (q := "least_others") (st := topS 42) (p := ("least_others", none)) c 20 rfl (keep_of c 20 rfl)
  exact ⟨_, fd, F, F.binds (fun _ _ _ _ _ _ us hl => match us, hl with | [_, _], _ => rfl), F.kp, glo_of X G c 20 rfl⟩
theorem df_new_address (X : K.In h) (G : h.Ns mainGlobals mg) (c : Pa K) : Df K mg "new_address" s_new_address ["state"] := by
  obtain ⟨fd, F⟩ := fun_of (x := "new_address") (q := "new_address") (st := topS 43) (p := ("new_address", none)) c 21 rfl (keep_of c 21 rfl)
  exact ⟨_, fd, F, F.binds (fun _ _ _ _ _ _ us hl => match us, hl with | [_], _ => rfl), F.kp, glo_of X G c 21 rfl⟩
theorem df__law_pen (X : K.In h) (G : h.Ns mainGlobals mg) (c : Pa K) : Df K mg "_law_pen" s__law_pen ["script"] := by
  obtain ⟨fd, F⟩ := fun_of (x := "_law_pen") (q := "_law_pen") (st := topS 45) (p := ("_law_pen", none)) c 22 rfl (keep_of c 22 rfl)
  exact ⟨_, fd, F, F.binds (fun _ _ _ _ _ _ us hl => match us, hl with | [_], _ => rfl), F.kp, glo_of X G c 22 rfl⟩
theorem df__law_draw (X : K.In h) (G : h.Ns mainGlobals mg) (c : Pa K) : Df K mg "_law_draw" s__law_draw ["pen", "many"] := by
  obtain ⟨fd, F⟩ := fun_of (x := "_law_draw") (q := "_law_draw") (st := topS 46) (p := ("_law_draw", none)) c 23 rfl (keep_of c 23 rfl)
  exact ⟨_, fd, F, F.binds (fun _ _ _ _ _ _ us hl => match us, hl with | [_, _], _ => rfl), F.kp, glo_of X G c 23 rfl⟩
theorem df__law_pick (X : K.In h) (G : h.Ns mainGlobals mg) (c : Pa K) : Df K mg "_law_pick" s__law_pick ["pen", "some"] := by
  obtain ⟨fd, F⟩ := fun_of (x := "_law_pick") (q := "_law_pick") (st := topS 47) (p := ("_law_pick", none)) c 24 rfl (keep_of c 24 rfl)
  exact ⟨_, fd, F, F.binds (fun _ _ _ _ _ _ us hl => match us, hl with | [_, _], _ => rfl), F.kp, glo_of X G c 24 rfl⟩
theorem df__law_shuffled (X : K.In h) (G : h.Ns mainGlobals mg) (c : Pa K) : Df K mg "_law_shuffled" s__law_shuffled ["pen", "some"] := by
  obtain ⟨fd, F⟩ := fun_of (x := "_law_shuffled") (q := "_law_shuffled") (st := topS 48) (p := ("_law_shuffled", none)) c 25 rfl (keep_of c 25 rfl)
  exact ⟨_, fd, F, F.binds (fun _ _ _ _ _ _ us hl => match us, hl with | [_, _], _ => rfl), F.kp, glo_of X G c 25 rfl⟩
theorem df__law_is (X : K.In h) (G : h.Ns mainGlobals mg) (c : Pa K) : Df K mg "_law_is" s__law_is ["told", "due"] := by
  obtain ⟨fd, F⟩ := fun_of (x := "_law_is") (q := "_law_is") (st := topS 49) (p := ("_law_is", none)) c 26 rfl (keep_of c 26 rfl)
  exact ⟨_, fd, F, F.binds (fun _ _ _ _ _ _ us hl => match us, hl with | [_, _], _ => rfl), F.kp, glo_of X G c 26 rfl⟩
theorem df__law_caught (X : K.In h) (G : h.Ns mainGlobals mg) (c : Pa K) : Df K mg "_law_caught" s__law_caught ["action"] := by
  obtain ⟨fd, F⟩ := fun_of (x := "_law_caught") (q := "_law_caught") (st := topS 50) (p := ("_law_caught", none)) c 27 rfl (keep_of c 27 rfl)
  exact ⟨_, fd, F, F.binds (fun _ _ _ _ _ _ us hl => match us, hl with | [_], _ => rfl), F.kp, glo_of X G c 27 rfl⟩
theorem df__law_raise_so (X : K.In h) (G : h.Ns mainGlobals mg) (c : Pa K) : Df K mg "_law_raise_so" s__law_raise_so ["calls"] := by
  obtain ⟨fd, F⟩ := fun_of (x := "_law_raise_so") (q := "_law_raise_so") (st := topS 51) (p := ("_law_raise_so", none)) c 28 rfl (keep_of c 28 rfl)
  exact ⟨_, fd, F, F.binds (fun _ _ _ _ _ _ us hl => match us, hl with | [_], _ => rfl), F.kp, glo_of X G c 28 rfl⟩
theorem df__law_unlike (X : K.In h) (G : h.Ns mainGlobals mg) (c : Pa K) : Df K mg "_law_unlike" s__law_unlike ["row"] := by
  obtain ⟨fd, F⟩ := fun_of (x := "_law_unlike") (q := "_law_unlike") (st := topS 52) (p := ("_law_unlike", none)) c 29 rfl (keep_of c 29 rfl)
  exact ⟨_, fd, F, F.binds (fun _ _ _ _ _ _ us hl => match us, hl with | [_], _ => rfl), F.kp, glo_of X G c 29 rfl⟩
theorem df__law_words (X : K.In h) (G : h.Ns mainGlobals mg) (c : Pa K) : Df K mg "_law_words" s__law_words [] := by
  obtain ⟨fd, F⟩ := fun_of (x := "_law_words") (q := "_law_words") (st := topS 53) (p := ("_law_words", none)) c 30 rfl (keep_of c 30 rfl)
  exact ⟨_, fd, F, F.binds (fun _ _ _ _ _ _ us hl => match us, hl with | [], _ => rfl), F.kp, glo_of X G c 30 rfl⟩
theorem df__law_is_name_text (X : K.In h) (G : h.Ns mainGlobals mg) (c : Pa K) : Df K mg "_law_is_name_text" s__law_is_name_text ["value"] := by
  obtain ⟨fd, F⟩ := fun_of (x := "_law_is_name_text") (q := "_law_is_name_text") (st := topS 54) (p := ("_law_is_name_text", none)) c 31 rfl (keep_of c 31 rfl)
  exact ⟨_, fd, F, F.binds (fun _ _ _ _ _ _ us hl => match us, hl with | [_], _ => rfl), F.kp, glo_of X G c 31 rfl⟩
theorem df__law_is_hidden_text (X : K.In h) (G : h.Ns mainGlobals mg) (c : Pa K) : Df K mg "_law_is_hidden_text" s__law_is_hidden_text ["value"] := by
  obtain ⟨fd, F⟩ := fun_of (x := "_law_is_hidden_text") (q := "_law_is_hidden_text") (st := topS 55) (p := ("_law_is_hidden_text", none)) c 32 rfl (keep_of c 32 rfl)
  exact ⟨_, fd, F, F.binds (fun _ _ _ _ _ _ us hl => match us, hl with | [_], _ => rfl), F.kp, glo_of X G c 32 rfl⟩
theorem df__law_value (X : K.In h) (G : h.Ns mainGlobals mg) (c : Pa K) : Df K mg "_law_value" s__law_value ["state", "term", "given"] := by
  obtain ⟨fd, F⟩ := fun_of (x := "_law_value") (q := "_law_value") (st := topS 56) (p := ("_law_value", none)) c 33 rfl (keep_of c 33 rfl)
  exact ⟨_, fd, F, F.binds (fun _ _ _ _ _ _ us hl => match us, hl with | [_, _, _], _ => rfl), F.kp, glo_of X G c 33 rfl⟩
theorem df__law_values (X : K.In h) (G : h.Ns mainGlobals mg) (c : Pa K) : Df K mg "_law_values" s__law_values ["state"] := by
  obtain ⟨fd, F⟩ := fun_of (x := "_law_values") (q := "_law_values") (st := topS 57) (p := ("_law_values", none)) c 34 rfl (keep_of c 34 rfl)
  exact ⟨_, fd, F, F.binds (fun _ _ _ _ _ _ us hl => match us, hl with | [_], _ => rfl), F.kp, glo_of X G c 34 rfl⟩
theorem df__law_content (X : K.In h) (G : h.Ns mainGlobals mg) (c : Pa K) : Df K mg "_law_content" s__law_content ["heap", "address"] := by
  obtain ⟨fd, F⟩ := fun_of (x := "_law_content") (q := "_law_content") (st := topS 58) (p := ("_law_content", none)) c 35 rfl (keep_of c 35 rfl)
  exact ⟨_, fd, F, F.binds (fun _ _ _ _ _ _ us hl => match us, hl with | [_, _], _ => rfl), F.kp, glo_of X G c 35 rfl⟩
theorem df__law_drawn_names (X : K.In h) (G : h.Ns mainGlobals mg) (c : Pa K) : Df K mg "_law_drawn_names" s__law_drawn_names ["pen", "most"] := by
  obtain ⟨fd, F⟩ := fun_of (x := "_law_drawn_names") (q := "_law_drawn_names") (st := topS 59) (p := ("_law_drawn_names", none)) c 36 rfl (keep_of c 36 rfl)
  exact ⟨_, fd, F, F.binds (fun _ _ _ _ _ _ us hl => match us, hl with | [_, _], _ => rfl), F.kp, glo_of X G c 36 rfl⟩
theorem df__law_drawn_state (X : K.In h) (G : h.Ns mainGlobals mg) (c : Pa K) : Df K mg "_law_drawn_state" s__law_drawn_state ["pen", "names", "cells"] := by
  obtain ⟨fd, F⟩ := fun_of (x := "_law_drawn_state") (q := "_law_drawn_state") (st := topS 60) (p := ("_law_drawn_state", none)) c 37 rfl (keep_of c 37 rfl)
  exact ⟨_, fd, F, F.binds (fun _ _ _ _ _ _ us hl => match us, hl with | [_, _, _], _ => rfl), F.kp, glo_of X G c 37 rfl⟩
theorem df__law_state (X : K.In h) (G : h.Ns mainGlobals mg) (c : Pa K) : Df K mg "_law_state" s__law_state ["state"] := by
  obtain ⟨fd, F⟩ := fun_of (x := "_law_state") (q := "_law_state") (st := topS 61) (p := ("_law_state", none)) c 38 rfl (keep_of c 38 rfl)
  exact ⟨_, fd, F, F.binds (fun _ _ _ _ _ _ us hl => match us, hl with | [_], _ => rfl), F.kp, glo_of X G c 38 rfl⟩
theorem df__law_plain_state (X : K.In h) (G : h.Ns mainGlobals mg) (c : Pa K) : Df K mg "_law_plain_state" s__law_plain_state ["told"] := by
  obtain ⟨fd, F⟩ := fun_of (x := "_law_plain_state") (q := "_law_plain_state") (st := topS 62) (p := ("_law_plain_state", none)) c 39 rfl (keep_of c 39 rfl)
  exact ⟨_, fd, F, F.binds (fun _ _ _ _ _ _ us hl => match us, hl with | [_], _ => rfl), F.kp, glo_of X G c 39 rfl⟩
theorem df__law_terms_right (X : K.In h) (G : h.Ns mainGlobals mg) (c : Pa K) : Df K mg "_law_terms_right" s__law_terms_right ["pen"] := by
  obtain ⟨fd, F⟩ := fun_of (x := "_law_terms_right") (q := "_law_terms_right") (st := topS 63) (p := ("_law_terms_right", none)) c 40 rfl (keep_of c 40 rfl)
  exact ⟨_, fd, F, F.binds (fun _ _ _ _ _ _ us hl => match us, hl with | [_], _ => rfl), F.kp, glo_of X G c 40 rfl⟩
theorem df__law_spoils (X : K.In h) (G : h.Ns mainGlobals mg) (c : Pa K) : Df K mg "_law_spoils" s__law_spoils ["pen", "state"] := by
  obtain ⟨fd, F⟩ := fun_of (x := "_law_spoils") (q := "_law_spoils") (st := topS 64) (p := ("_law_spoils", none)) c 41 rfl (keep_of c 41 rfl)
  exact ⟨_, fd, F, F.binds (fun _ _ _ _ _ _ us hl => match us, hl with | [_, _], _ => rfl), F.kp, glo_of X G c 41 rfl⟩
theorem df__law_refusals_right (X : K.In h) (G : h.Ns mainGlobals mg) (c : Pa K) (hd : PySem.W.codeHdIn K (He.cT K ("_law_refusals_right", none)).1 (He.cT K ("_law_refusals_right", none)).2 = true) : DfT K mg "_law_refusals_right" s__law_refusals_right ["pen", "made", "state"] (He.cT K ("_law_refusals_right", none)).1 := by
  obtain ⟨fd, F⟩ := fun_of (x := "_law_refusals_right") (q := "_law_refusals_right") (st := topS 65) (p := ("_law_refusals_right", none)) c 42 rfl (keep_of c 42 rfl)
  have b : L2.Binds K fd ["pen", "made", "state"] [] := F.binds (fun _ _ _ _ _ _ us hl => match us, hl with | [_, _, _], _ => rfl)
  obtain ⟨oc, od, kV, doc, pm, an, cdv, ct, osl, e, lk, hcd⟩ := F.ex
  obtain ⟨cc, ec⟩ := He.codeIn_ref hcd
  have e2 : fd.code = .ref cc := by rw [e]; exact ec
  have e3 : He.codeOf K ("_law_refusals_right", none) = cc := He.codeOf_eq lk e2
  exact ⟨_, fd, F, b, F.kp, glo_of X G c 42 rfl, by rw [e2, ← e3]; rfl⟩
theorem df_law (X : K.In h) (G : h.Ns mainGlobals mg) (c : Pa K) : Df K mg "law" s_law ["script"] := by
  obtain ⟨fd, F⟩ := fun_of (x := "law") (q := "law") (st := topS 66) (p := ("law", none)) c 43 rfl (keep_of c 43 rfl)
  exact ⟨_, fd, F, F.binds (fun _ _ _ _ _ _ us hl => match us, hl with | [_], _ => rfl), F.kp, glo_of X G c 43 rfl⟩
end
section
variable {P : Program} {w : World} {K : PySem.W.Frag} {h base : Heap} {mg : Str → Option Value}
theorem xc_BadName (X : K.In h) (G : h.Ns mainGlobals mg) (c : Pa K) : XC P w K mg base "BadName" (cAt K 0) ["self", "name"] (spI1 (cAt K 0) "name") := by
  have C := c.cl 0 (by decide)
  obtain ⟨fd, F⟩ := fun_of (x := "__init__") (q := "BadName.__init__") (st := s_BadName_init) (p := ("BadName", some "__init__")) c 44 rfl C.kI
  exact ⟨C.T, glo_of X G c 44 rfl, iAt K 0, fd, C.iC, C.tI, ok_BadName F (he_of X G c).1 C.T (C.no "name" (by decide)), F.binds (fun _ _ _ _ _ _ us hl => match us, hl with | [_, _], _ => rfl)⟩
theorem xc_BadNumber (X : K.In h) (G : h.Ns mainGlobals mg) (c : Pa K) : XC P w K mg base "BadNumber" (cAt K 1) ["self", "what", "number"] (spI2 (cAt K 1) "what" "number") := by
  have C := c.cl 1 (by decide)
  obtain ⟨fd, F⟩ := fun_of (x := "__init__") (q := "BadNumber.__init__") (st := s_BadNumber_init) (p := ("BadNumber", some "__init__")) c 45 rfl C.kI
  exact ⟨C.T, glo_of X G c 45 rfl, iAt K 1, fd, C.iC, C.tI, ok_BadNumber F (he_of X G c).1 C.T (C.no "what" (by decide)) (C.no "number" (by decide)), F.binds (fun _ _ _ _ _ _ us hl => match us, hl with | [_, _, _], _ => rfl)⟩
theorem xc_BadRow (X : K.In h) (G : h.Ns mainGlobals mg) (c : Pa K) : XC P w K mg base "BadRow" (cAt K 2) ["self", "what", "row"] (spI2 (cAt K 2) "what" "row") := by
  have C := c.cl 2 (by decide)
  obtain ⟨fd, F⟩ := fun_of (x := "__init__") (q := "BadRow.__init__") (st := s_BadRow_init) (p := ("BadRow", some "__init__")) c 46 rfl C.kI
  exact ⟨C.T, glo_of X G c 46 rfl, iAt K 2, fd, C.iC, C.tI, ok_BadRow F (he_of X G c).1 C.T (C.no "what" (by decide)) (C.no "row" (by decide)), F.binds (fun _ _ _ _ _ _ us hl => match us, hl with | [_, _, _], _ => rfl)⟩
theorem xc_NoName (X : K.In h) (G : h.Ns mainGlobals mg) (c : Pa K) : XC P w K mg base "NoName" (cAt K 3) ["self", "name"] (spI1 (cAt K 3) "name") := by
  have C := c.cl 3 (by decide)
  obtain ⟨fd, F⟩ := fun_of (x := "__init__") (q := "NoName.__init__") (st := s_NoName_init) (p := ("NoName", some "__init__")) c 47 rfl C.kI
  exact ⟨C.T, glo_of X G c 47 rfl, iAt K 3, fd, C.iC, C.tI, ok_NoName F (he_of X G c).1 C.T (C.no "name" (by decide)), F.binds (fun _ _ _ _ _ _ us hl => match us, hl with | [_, _], _ => rfl)⟩
theorem xc_TakenName (X : K.In h) (G : h.Ns mainGlobals mg) (c : Pa K) : XC P w K mg base "TakenName" (cAt K 4) ["self", "name"] (spI1 (cAt K 4) "name") := by
  have C := c.cl 4 (by decide)
  obtain ⟨fd, F⟩ := fun_of (x := "__init__") (q := "TakenName.__init__") (st := s_TakenName_init) (p := ("TakenName", some "__init__")) c 48 rfl C.kI
  exact ⟨C.T, glo_of X G c 48 rfl, iAt K 4, fd, C.iC, C.tI, ok_TakenName F (he_of X G c).1 C.T (C.no "name" (by decide)), F.binds (fun _ _ _ _ _ _ us hl => match us, hl with | [_, _], _ => rfl)⟩
theorem xc_TooMany (X : K.In h) (G : h.Ns mainGlobals mg) (c : Pa K) : XC P w K mg base "TooMany" (cAt K 5) ["self", "what", "many", "limit"] (spI3 (cAt K 5) "what" "many" "limit") := by
  have C := c.cl 5 (by decide)
  obtain ⟨fd, F⟩ := fun_of (x := "__init__") (q := "TooMany.__init__") (st := s_TooMany_init) (p := ("TooMany", some "__init__")) c 49 rfl C.kI
  exact ⟨C.T, glo_of X G c 49 rfl, iAt K 5, fd, C.iC, C.tI, ok_TooMany F (he_of X G c).1 C.T (C.no "what" (by decide)) (C.no "many" (by decide)) (C.no "limit" (by decide)), F.binds (fun _ _ _ _ _ _ us hl => match us, hl with | [_, _, _, _], _ => rfl)⟩
theorem xc_Unlike (X : K.In h) (G : h.Ns mainGlobals mg) (c : Pa K) : XC P w K mg base "Unlike" (cAt K 6) ["self", "what"] (spI1 (cAt K 6) "what") := by
  have C := c.cl 6 (by decide)
  obtain ⟨fd, F⟩ := fun_of (x := "__init__") (q := "Unlike.__init__") (st := s_Unlike_init) (p := ("Unlike", some "__init__")) c 50 rfl C.kI
  exact ⟨C.T, glo_of X G c 50 rfl, iAt K 6, fd, C.iC, C.tI, ok_Unlike F (he_of X G c).1 C.T (C.no "what" (by decide)), F.binds (fun _ _ _ _ _ _ us hl => match us, hl with | [_, _], _ => rfl)⟩
theorem xc_BadText (X : K.In h) (G : h.Ns mainGlobals mg) (c : Pa K) : XC P w K mg base "BadText" (cAt K 7) ["self", "line", "word"] (spI2 (cAt K 7) "line" "word") := by
  have C := c.cl 7 (by decide)
  obtain ⟨fd, F⟩ := fun_of (x := "__init__") (q := "BadText.__init__") (st := s_BadText_init) (p := ("BadText", some "__init__")) c 51 rfl C.kI
  exact ⟨C.T, glo_of X G c 51 rfl, iAt K 7, fd, C.iC, C.tI, ok_BadText F (he_of X G c).1 C.T (C.no "line" (by decide)) (C.no "word" (by decide)), F.binds (fun _ _ _ _ _ _ us hl => match us, hl with | [_, _, _], _ => rfl)⟩
theorem law_gz (X : K.In h) (G : h.Ns mainGlobals mg) (c : Pa K) (hd : PySem.W.codeHdIn K (He.cT K ("_law_refusals_right", none)).1 (He.cT K ("_law_refusals_right", none)).2 = true) (TB : TabB base mg (He.cT K ("_law_refusals_right", none)).1 (He.cT K ("_law_refusals_right", none)).2) : Gz P w K mg base 11 "law" ["script"] (spLaw K (He.cT K ("_law_refusals_right", none)).2) := by
  have B := bi_of X G c
  have W := ws_of X G c
  have k_State := kl_State X G c
  have hc2 : cAt K 2 = cAt K 2 := rfl
  have hc1 : cAt K 1 = cAt K 1 := rfl
  have x_BadName : XC P w K mg base "BadName" (cAt K 0) _ _ := xc_BadName X G c
  have x_BadNumber : XC P w K mg base "BadNumber" (cAt K 1) _ _ := xc_BadNumber X G c
  have x_BadRow : XC P w K mg base "BadRow" (cAt K 2) _ _ := xc_BadRow X G c
  have x_NoName : XC P w K mg base "NoName" (cAt K 3) _ _ := xc_NoName X G c
  have x_TakenName : XC P w K mg base "TakenName" (cAt K 4) _ _ := xc_TakenName X G c
  have x_TooMany : XC P w K mg base "TooMany" (cAt K 5) _ _ := xc_TooMany X G c
  have x_Unlike : XC P w K mg base "Unlike" (cAt K 6) _ _ := xc_Unlike X G c
  have x_BadText : XC P w K mg base "BadText" (cAt K 7) _ _ := xc_BadText X G c
  have g__law_pen := gv_pen (P := P) (w := w) (base := base) B (df__law_pen X G c)
  have g__law_draw := gv_draw (P := P) (w := w) (base := base) B (df__law_draw X G c)
  have g__law_pick := gv_pick (P := P) (w := w) (base := base) B g__law_draw (df__law_pick X G c)
  have g_is_plain_name := ok_is_plain_name (P := P) (w := w) (base := base) B W.toWT (df_is_plain_name X G c)
  have g_is_hidden := ok_is_hidden (P := P) (w := w) (base := base) B W.toWT (df_is_hidden X G c)
  have g_is_plain := ok_is_plain (k := 0) (P := P) (w := w) (base := base) B g_is_plain_name (df_is_plain X G c)
  have g_is_term := ok_is_term (P := P) (w := w) (base := base) B g_is_plain g_is_hidden (df_is_term X G c)
  have g_rising := ok_rising (P := P) (w := w) (base := base) B (df_rising X G c)
  have g_is_whole := ok_is_whole (P := P) (w := w) (base := base) B (df_is_whole X G c)
  have g_is_number := ok_is_number (P := P) (w := w) (base := base) B g_is_whole (df_is_number X G c)
  have g_is_value := ok_is_value (P := P) (w := w) (base := base) B W g_is_number (df_is_value X G c)
  have g_is_address := ok_is_address (P := P) (w := w) (base := base) B W g_is_whole (df_is_address X G c)
  have g_is_store := ok_is_store (P := P) (w := w) (base := base) B W g_is_plain_name g_is_value g_rising (df_is_store X G c)
  have g_is_heap := ok_is_heap (P := P) (w := w) (base := base) B W g_is_address g_is_value g_rising (df_is_heap X G c)
  have F_keep_State_init : PySem.W.keepIn K (.ref (He.fAd K ("State", some "__init__"))) = true := (me_State__init__ c).kp
  obtain ⟨fd_State_init, F_State_init⟩ := fun_of (x := "__init__") (q := "State.__init__") (st := s_State_init) (p := ("State", some "__init__")) c 52 rfl F_keep_State_init
  have f_State_init := ok_State_init (P := P) (w := w) (base := base) B g_is_store g_is_heap k_State x_BadRow F_State_init
  have b_State_init : L2.Binds K fd_State_init ["self", "store", "heap"] [] := F_State_init.binds (fun _ _ _ _ _ _ us hl => match us, hl with | [_, _, _], _ => rfl)
  have m_State : Mkr P w K mg base (L2.CX P w) 5 "State" (He.ga K "State") _ _ := ⟨k_State.g, _, _, mk_State c, f_State_init, b_State_init⟩
  have F_keep_State_eq : PySem.W.keepIn K (.ref (He.fAd K ("State", some "__eq__"))) = true := (me_State__eq__ c).kp
  obtain ⟨fd_State_eq, F_State_eq⟩ := fun_of (x := "__eq__") (q := "State.__eq__") (st := s_State_eq) (p := ("State", some "__eq__")) c 53 rfl F_keep_State_eq
  have f_State_eq := ok_State_eq (P := P) (w := w) (base := base) B k_State F_State_eq
  have b_State_eq : L2.Binds K fd_State_eq ["self", "other"] [] := F_State_eq.binds (fun _ _ _ _ _ _ us hl => match us, hl with | [_, _], _ => rfl)
  have o_eq : Oe P w K mg base 1 (He.ga K "State") "__eq__" _ := ⟨_, _, _, (me_State__eq__ c).at_, (me_State__eq__ c).fn, f_State_eq, b_State_eq⟩
  have F_keep_State_ne : PySem.W.keepIn K (.ref (He.fAd K ("State", some "__ne__"))) = true := (me_State__ne__ c).kp
  obtain ⟨fd_State_ne, F_State_ne⟩ := fun_of (x := "__ne__") (q := "State.__ne__") (st := s_State_ne) (p := ("State", some "__ne__")) c 54 rfl F_keep_State_ne
  have f_State_ne := ok_State_ne (P := P) (w := w) (base := base) B k_State o_eq F_State_ne
  have b_State_ne : L2.Binds K fd_State_ne ["self", "other"] [] := F_State_ne.binds (fun _ _ _ _ _ _ us hl => match us, hl with | [_, _], _ => rfl)
  have o_ne : Oe P w K mg base 2 (He.ga K "State") "__ne__" _ := ⟨_, _, _, (me_State__ne__ c).at_, (me_State__ne__ c).fn, f_State_ne, b_State_ne⟩
  have g_need_state := ok_need_state (P := P) (w := w) (base := base) B k_State x_BadRow (df_need_state X G c)
  have g_value_by := ok_value_by (P := P) (w := w) (base := base) B k_State (df_value_by X G c)
  have g_value_of := ok_value_of (P := P) (w := w) (base := base) B g_need_state g_is_plain g_value_by x_BadRow (df_value_of X G c)
  have g_need_address := ok_need_address (P := P) (w := w) (base := base) B g_is_address x_BadNumber (df_need_address X G c)
  have g_content_at := ok_content_at (P := P) (w := w) (base := base) B k_State g_need_state g_need_address (df_content_at X G c)
  have g_values_by := ok_values_by (P := P) (w := w) (base := base) B k_State (df_values_by X G c)
  have g_values_in := ok_values_in (P := P) (w := w) (base := base) B g_need_state g_values_by (df_values_in X G c)
  have g_loose_by := ok_loose_by (P := P) (w := w) (base := base) B k_State g_values_by (df_loose_by X G c)
  have g_loose_in := ok_loose_in (P := P) (w := w) (base := base) B g_need_state g_loose_by (df_loose_in X G c)
  have g_least_others := ok_least_others (P := P) (w := w) (base := base) B (df_least_others X G c)
  have g_new_address := ok_new_address (P := P) (w := w) (base := base) B g_need_state g_values_by g_least_others (df_new_address X G c)
  have g__law_words := ok_law_words (P := P) (w := w) (base := base) B (df__law_words X G c)
  have g__law_is_name_text := ok_name_text (P := P) (w := w) (base := base) B g__law_words (df__law_is_name_text X G c)
  have g__law_is_hidden_text := ok_hidden_text (P := P) (w := w) (base := base) B (df__law_is_hidden_text X G c)
  have g__law_unlike := ok_unlike (P := P) (w := w) (base := base) B (df__law_unlike X G c)
  have g__law_caught := ok_caught (k := 7) (P := P) (w := w) (base := base) B (kx_of X G c) (df__law_caught X G c)
  have g__law_raise_so := ok_raise_so (P := P) (w := w) (base := base) B g__law_caught (df__law_raise_so X G c)
  have g__law_is1 := ok_law_is (P := P) (w := w) (base := base) B (df__law_is X G c) 1
  have g__law_is3 := ok_law_is (P := P) (w := w) (base := base) B (df__law_is X G c) 3
  have g__law_content := ok_law_content (P := P) (w := w) (base := base) B (df__law_content X G c)
  have g__law_value := ok_law_value (P := P) (w := w) (base := base) B (df__law_value X G c)
  have g__law_values := ok_law_values (P := P) (w := w) (base := base) B g__law_unlike (df__law_values X G c)
  have g__law_state := ok_law_state (P := P) (w := w) (base := base) B m_State (df__law_state X G c)
  have g__law_plain_state := ok_plain_state (P := P) (w := w) (base := base) B k_State (df__law_plain_state X G c)
  have g__law_shuffled := ok_shuffled (P := P) (w := w) (base := base) B g__law_draw (df__law_shuffled X G c)
  have g__law_drawn_names := ok_drawn_names (P := P) (w := w) (base := base) B g__law_draw g__law_pick g__law_unlike (df__law_drawn_names X G c)
  have g__law_drawn_state := ok_drawn_state (P := P) (w := w) (base := base) B g__law_draw g__law_pick g__law_unlike g__law_shuffled (df__law_drawn_state X G c)
  have g__law_terms_right := ok_terms_right (P := P) (w := w) (base := base) B g__law_draw g__law_pick g__law_words g__law_is_name_text g__law_is_hidden_text g__law_is1 g_is_plain_name g_is_hidden g_is_term (df__law_terms_right X G c)
  have g__law_spoils := ok_spoils (P := P) (w := w) (base := base) B g__law_pick (df__law_spoils X G c)
  have g__law_refusals_right := ok_refusals (P := P) (w := w) (base := base) B hc2 hc1 g__law_pick g__law_spoils g__law_raise_so m_State g_value_of g_content_at g_values_in g_loose_in g_new_address TB (df__law_refusals_right X G c hd)
  exact ok_law B k_State g__law_pen g__law_pick g__law_drawn_names g__law_drawn_state g__law_is3 g__law_plain_state g__law_state g__law_values g__law_value g__law_content g__law_refusals_right g__law_terms_right o_eq o_ne m_State g_value_of g_content_at g_values_in g_loose_in g_new_address (df_law X G c)
end
end Kb.Hd
set_option Elab.async false
set_option linter.all false
set_option maxRecDepth 100000
set_option maxHeartbeats 4000000
namespace Kb.Hd
open PySem PySem.Spec PyProof.Rows L2 LamX
/-! ### the law's call: promises that speak of the very state, empty tables of code objects tracked -/
theorem tabs_nil {H : Hp} {x : Str} {tb : Addr} (h : H tb = some (.tbl #[])) : Tabs (lamT x tb) H := fun p hp => by
  rcases List.mem_cons.mp hp with rfl | hp
  · exact ⟨#[], h, True.intro, fun pos cv hc => nomatch (show (none : Option Value) = some cv from hc)⟩
  · cases hp
/-- neither a row of values nor an empty record -/
def solid : Data → Bool
  | .seq _ _ => false
  | .fields us => !us.isEmpty
  | _ => true
def noTab : Obj := { cls := .none, data := .fields #[] }
section
variable {P : Program} {w : World} {K : PySem.W.Frag} {mg mb : Str → Option Value} {k : Nat} {fa a : Addr} {cs : List (Addr × Addr)} {xl x : Str} {sp : SpZ} {s₁ : Shared} {vs : List Value} {ns : List Int}
/-- what is tracked at the start: the script, perhaps; the tables -/
inductive Trk (K : PySem.W.Frag) (cs : List (Addr × Addr)) (a b : Addr) : HO → Prop where
  | scr (o : Obj) (y : HO) (e : b = a) (n : K.lookup a = none) : Trk K cs a b (.frz o y)
  | tab (c : Addr) (m : (c, b) ∈ cs) : Trk K cs a b (.tbl #[])
theorem call_fromZ (KX : K.In s₁.heap) (hns : s₁.heap.Ns mainGlobals mg) (hb : s₁.heap.Ns builtinsNs mb) (hbb : ∀ x : Str, x ≠ "__name__" → mb x = bootBuiltins x) (hlim : s₁.heap.NoLimit) (hg : s₁.gens = #[])
    (empt : ∀ c b, (c, b) ∈ cs → s₁.heap.get? b = some noTab) (outK : ∀ c b, (c, b) ∈ cs → K.lookup b = none) (head : ∀ c b, (c, b) ∈ cs → PySem.W.codeHdIn K c b = true)
    (hbm : ∃ (bm : Addr) (ob : Obj), mg "__builtins__" = some (.ref bm) ∧ bm ≠ builtinsNs ∧ s₁.heap.get? bm = some ob ∧ ob.cls = .type "module" ∧ ob.dict = some builtinsNs ∧ ob.data = .plain)
    (ha : s₁.heap.get? a = some { cls := .type "list", data := .seq vs.toArray }) (hr : Room k callerA) (hfa : mg xl = some (.ref fa))
    (F : ∀ base : Heap, K.In base → base.Ns mainGlobals mg → (∀ c b, (c, b) ∈ cs → TabB base mg c b) → Gz P w K mg base k xl [x] sp)
    {H : Hp} (hsp : sp s₁ (frs []) [.ref a] H (fun v _ => v = .bl true)) (hok : HOk P w H s₁.heap) (hA : ∀ b u, H b = some u → Trk K cs a b u) :
    codeAny (model P w) callerA (.call (.ref fa) ⟨[.ref a], []⟩) (fun r s' => r = .ok (.ret (.bool true)) ∧ OldK s₁.heap s'.heap ∧ s'.os = s₁.os ∧ AllBare s'.gens) s₁ := by
  have off : ∀ {b : Addr} {o : Obj}, s₁.heap.get? b = some o → solid o.data = true → (hidT s₁.heap H).get? b = some o := fun {b o} e hs => hidT_get e (by
    cases q : H b with
    | none => rfl
    | some u =>
      cases hA b u q with
      | scr o1 y e1 n =>
        rw [e1, ha] at e
        cases e
        cases hs
      | tab c m =>
        rw [empt c b m] at e
        cases e
        cases hs)
  have nsB : ∀ {b : Addr} {m : Str → Option Value}, s₁.heap.Ns b m → (hidT s₁.heap H).Ns b m := fun {b m} ⟨o, es, ep, e, d, r⟩ => ⟨o, es, ep, off e (by rw [d]; rfl), d, r⟩
  have inB : K.In (hidT s₁.heap H) := fun b o e => hidT_get (KX b o e) (by
    cases q : H b with
    | none => rfl
    | some u =>
      cases hA b u q with
      | scr o1 y e1 n =>
        rw [e1, n] at e
        cases e
      | tab c m =>
        rw [outK c b m] at e
        cases e)
  have hM : L2.Mod K mg (hidT s₁.heap H) := ⟨inB, nsB hns, ⟨mb, nsB hb, hbb⟩, let ⟨mc, h1, h2⟩ := hlim; ⟨mc, nsB h1, h2⟩⟩
  have notG : ∀ {b : Addr} {o : Obj}, s₁.heap.get? b = some o → (∀ es n, o.data ≠ .dict es n) → b ≠ mainGlobals := fun {b o} e hd z => by
    obtain ⟨o2, es, ep, e2, d, _⟩ := hns
    rw [z, e2] at e
    cases e
    exact hd _ _ d
  have TB : ∀ c b, (c, b) ∈ cs → TabB (hidT s₁.heap H) mg c b := fun c b m => by
    obtain ⟨bm, ob, b1, b2, b3, b4, b5, b6⟩ := hbm
    have n2 : bm ≠ b := fun z => by
      rw [z, empt c b m] at b3
      cases b3
      cases b6
    exact NdefX.tabB_of_K inB (head c b m) ⟨bm, ob, b1, b2, notG b3 (fun es n z => by rw [b6] at z; cases z), n2, off b3 (by rw [b6]; rfl), b4, b5, b6⟩ (Ne.symm (notG (empt c b m) fun es n z => by cases z))
  have e0 : Env0 P w K mg (hidT s₁.heap H) callerA [] s₁ H := ⟨rfl, hM, fun b o e => of_hidT e, Nat.le_of_eq (hidT_size _ _), trivial, (fun b hb => absurd (show b ∈ ([] : List Addr) from hb) List.not_mem_nil), hok, .of_eq hg⟩
  obtain ⟨f, fd, FZ, bn, kp, hf⟩ := (F _ inB (nsB hns) TB).ex
  obtain rfl : f = fa := by
    rw [hfa] at hf
    cases hf
    rfl
  have bd : BindsTo s₁ fd ⟨[.ref a], []⟩ ([x].zip [.ref a]) := by
    have z := bn s₁ [.ref a] KX rfl
    rwa [List.append_nil] at z
  refine codeAny_mono (FZ.run callerA [] s₁ H ⟨[.ref a], []⟩ [.ref a] [.ref a] _ hr rfl e0 bd (.cons rfl .nil) hsp) fun r s' h => ?_
  cases r with
  | error e => exact False.elim h
  | ok fl =>
    cases fl with
    | next => exact False.elim h
    | brk => exact False.elim h
    | cont => exact False.elim h
    | ret u =>
      obtain ⟨v, H', os, bare, un, hok', rv, q⟩ := h
      obtain rfl : v = .bl true := q
      obtain rfl : u = Value.bool true := rv
      have old : ∀ b o, s₁.heap.get? b = some o → s'.heap.get? b = some o ∨ ∃ c more, (c, b) ∈ cs ∧ o = noTab ∧ s'.heap.get? b = some { cls := .none, data := .fields more } := fun b o e => by
        cases q : H b with
        | none => exact .inl (un.keep b o e q (fun z => nomatch (show b ∈ ([] : List Addr) from z)) (fun z => nomatch z))
        | some u =>
          cases hA b u q with
          | scr o1 y e1 n =>
            obtain ⟨z1, _⟩ := hok b _ q
            obtain ⟨z2, _⟩ := hok' b _ (un.frzs b o1 _ q)
            rw [e] at z1
            cases z1
            exact .inl z2
          | tab c m =>
            obtain ⟨more, z⟩ := un.tbls b #[] q
            rw [empt c b m] at e
            exact .inr ⟨c, _, m, (Option.some.inj e).symm, hok' b _ z⟩
      refine ⟨rfl, ⟨fun b o e => ?_, fun b o e => ?_⟩, os, bare⟩
      · rcases old b o e with z | ⟨c, more, m, rfl, z⟩
        · exact .inl z
        · exact .inr (.inl ⟨((PySem.W.codeHd_of_K KX (head c b m)).tab (empt c b m)).isCodeTable, rfl, #[], more, rfl, by rw [Array.empty_append]; exact z⟩)
      · rcases old b o e with z | ⟨c, more, m, _, z⟩ <;> exact ⟨_, z⟩
/-- the tables, and all that H has beside -/
def withT (cs : List (Addr × Addr)) (H : Hp) : Hp := fun b => match (cs.map (·.2)).contains b with
  | true => some (.tbl #[])
  | false => H b
theorem withT_in {H : Hp} {c b : Addr} (m : (c, b) ∈ cs) : withT cs H b = some (.tbl #[]) := by
  unfold withT
  rw [List.contains_iff_mem.mpr (List.mem_map.mpr ⟨_, m, rfl⟩)]
theorem withT_cases {H : Hp} {b : Addr} {u : HO} (h : withT cs H b = some u) : (u = .tbl #[] ∧ ∃ c, (c, b) ∈ cs) ∨ H b = some u := by
  unfold withT at h
  cases q : (cs.map (·.2)).contains b with
  | true =>
    rw [q] at h
    obtain ⟨⟨c, b'⟩, m, rfl⟩ := List.mem_map.mp (List.contains_iff_mem.mp q)
    exact .inl ⟨(Option.some.inj h).symm, c, m⟩
  | false =>
    rw [q] at h
    exact .inr h
theorem withT_out {H : Hp} {b : Addr} (n : ∀ c, (c, b) ∉ cs) : withT cs H b = H b := by
  unfold withT
  cases q : (cs.map (·.2)).contains b with
  | true =>
    obtain ⟨⟨c, b'⟩, m, rfl⟩ := List.mem_map.mp (List.contains_iff_mem.mp q)
    exact absurd m (n c)
  | false => rfl
theorem law_callZ (KX : K.In s₁.heap) (hns : s₁.heap.Ns mainGlobals mg) (hb : s₁.heap.Ns builtinsNs mb) (hbb : ∀ x : Str, x ≠ "__name__" → mb x = bootBuiltins x) (hlim : s₁.heap.NoLimit) (hg : s₁.gens = #[])
    (empt : ∀ c b, (c, b) ∈ cs → s₁.heap.get? b = some noTab) (outK : ∀ c b, (c, b) ∈ cs → K.lookup b = none) (head : ∀ c b, (c, b) ∈ cs → PySem.W.codeHdIn K c b = true)
    (hbm : ∃ (bm : Addr) (ob : Obj), mg "__builtins__" = some (.ref bm) ∧ bm ≠ builtinsNs ∧ s₁.heap.get? bm = some ob ∧ ob.cls = .type "module" ∧ ob.dict = some builtinsNs ∧ ob.data = .plain)
    (ha : s₁.heap.get? a = some { cls := .type "list", data := .seq vs.toArray }) (hi : IntsAre vs ns) (hl : ns.length ≤ sizeLine) (hr : Room k callerA) (hfa : mg xl = some (.ref fa))
    (F : ∀ base : Heap, K.In base → base.Ns mainGlobals mg → (∀ c b, (c, b) ∈ cs → TabB base mg c b) → Gz P w K mg base k xl [x] sp)
    (hsp : ∀ H : Hp, (∀ c b, (c, b) ∈ cs → H b = some (.tbl #[])) → SqL K H a (ns.map V.int) → sp s₁ (frs []) [.ref a] H (fun v _ => v = .bl true)) :
    codeAny (model P w) callerA (.call (.ref fa) ⟨[.ref a], []⟩) (fun r s' => r = .ok (.ret (.bool true)) ∧ OldK s₁.heap s'.heap ∧ s'.os = s₁.os ∧ AllBare s'.gens) s₁ := by
  have rv := vals_ints hi
  have aN : ∀ c, (c, a) ∉ cs := fun c m => by
    have z := empt c a m
    rw [ha] at z
    cases z
  have okT : ∀ (H : Hp) b u, (u = HO.tbl #[] ∧ ∃ c, (c, b) ∈ cs) → ObjOk P w H s₁.heap b u := fun H b u z => by
    obtain ⟨rfl, c, m⟩ := z
    exact empt c b m
  cases hk : K.lookup a with
  | some o =>
    have e := KX a o hk
    rw [ha] at e
    cases e
    refine call_fromZ KX hns hb hbb hlim hg empt outK head hbm ha hr hfa F (H := withT cs fun _ => none) (hsp _ (fun c b m => withT_in m) (.inr ⟨_, vs.toArray, _, hk, rfl, rfl, rfl, by rw [List.size_toArray, hi.length]; exact hl, by simpa using rv⟩)) (fun b u z => ?_) (fun b u z => ?_)
    · rcases withT_cases z with z | z
      · exact okT _ b u z
      · cases z
    · rcases withT_cases z with ⟨rfl, c, m⟩ | z
      · exact .tab c m
      · cases z
  | none =>
    have hS : withT cs (upd (fun _ => none) a (.frz { cls := .type "list", data := .seq vs.toArray } (.lst (ns.map V.int)))) a = some (.frz { cls := .type "list", data := .seq vs.toArray } (.lst (ns.map V.int))) := by
      rw [withT_out aN]
      exact upd_same
    have only : ∀ {b : Addr} {u : HO}, upd (fun _ => none) a (.frz { cls := .type "list", data := .seq vs.toArray } (.lst (ns.map V.int))) b = some u → b = a ∧ u = .frz { cls := .type "list", data := .seq vs.toArray } (.lst (ns.map V.int)) := fun {b u} z => by
      by_cases hba : b = a
      · rw [hba, upd_same] at z
        exact ⟨hba, (Option.some.inj z).symm⟩
      · rw [upd_ne hba] at z
        cases z
    refine call_fromZ KX hns hb hbb hlim hg empt outK head hbm ha hr hfa F (hsp _ (fun c b m => withT_in m) (.inl (.inr ⟨_, hS⟩))) (fun b u z => ?_) (fun b u z => ?_)
    · rcases withT_cases z with z | z
      · exact okT _ b u z
      · obtain ⟨rfl, rfl⟩ := only z
        exact ⟨ha, by rw [List.length_map]; exact hl, vs, _, rv, ha⟩
    · rcases withT_cases z with ⟨rfl, c, m⟩ | z
      · exact .tab c m
      · obtain ⟨rfl, rfl⟩ := only z
        exact .scr _ _ rfl hk
end
end Kb.Hd
set_option Elab.async false
set_option linter.all false
set_option maxRecDepth 100000
set_option maxHeartbeats 4000000
open PySem PySem.W PySem.Calls PyProof.Rows
theorem PySem.Challenge.cw_heapshown_k01_terms_and_states_holds : PySem.Challenge.rw_heapshown_k01_terms_and_states.Holds := by
  w_on; o_law
  refine HandSHeadRun.head_any (r := OpenLaw.row PySem.Challenge.rw_heapshown_k01_terms_and_states) (q := view (OpenLaw.row PySem.Challenge.rw_heapshown_k01_terms_and_states).prog [66]) (H := Kb.Hd.hookK) (ob := Kb.Hd.ob) (M := 20000) (loose := Kb.Hd.loose) (d := HandSHeadRun.topDef (OpenLaw.row PySem.Challenge.rw_heapshown_k01_terms_and_states).prog 66) (kwd := []) Kb.Hd.ob_eq
    (by kernel_rfl) (fun s => by kernel_rfl) Kb.Hd.run (by kernel_rfl) (by kernel_rfl) (by kernel_rfl) (by rfl) (by first | assumption | decide +kernel) (by decide +kernel) ⟨rfl, rfl, rfl, rfl, rfl, by decide +kernel⟩ ?hw ?hc
  case hw => w_witness2
  case hc =>
    refine Att.attach_call (n := 63) rfl (by kernel_rfl) fun w s₀ s₁ mg mb fa o pm cd doc a vs ns G Y ho hd hcd hmg0 hobj hints hlen hg => ?_
    obtain ⟨K, S⟩ := Y
    have hmg : mg ("law" : PySem.Str) = some (.ref fa) := by
      have e : (HandSHeadRun.topDef (OpenLaw.row PySem.Challenge.rw_heapshown_k01_terms_and_states).prog 66).name = ("law" : PySem.Str) := by kernel_rfl
      rw [← e]
      exact hmg0
    have mem1 : ∀ c b, (c, b) ∈ [He.cT K ("_law_refusals_right", none)] → (c, b) = He.cT K ("_law_refusals_right", none) := fun c b m => List.mem_singleton.mp m
    have c := Kb.Hd.pa_of S.t
    exact Kb.Hd.law_callZ (P := (PySem.Challenge.rw_heapshown_k01_terms_and_states).prog) (k := 11) (cs := [He.cT K ("_law_refusals_right", none)]) (xl := "law") (x := "script") (sp := Kb.spLaw K (He.cT K ("_law_refusals_right", none)).2) S.kin G.T.g G.T.b G.T.builtins G.T.nolimit hg
      (fun c b m => by
        have z := S.empty _ List.mem_cons_self
        rwa [← mem1 c b m] at z)
      (fun c b m => by
        have z := S.out _ List.mem_cons_self
        rwa [← mem1 c b m] at z)
      (fun c b m => by
        have z := S.hd _ List.mem_cons_self
        rwa [← mem1 c b m] at z)
      G.T.bmain hobj hints (Nat.le_trans hlen (by decide)) ⟨rfl, by decide, by decide⟩ hmg
      (fun base hK hG hT => Kb.Hd.law_gz S.kin G.T.g c (S.hd _ List.mem_cons_self) (hT _ _ List.mem_cons_self))
      (fun H hH hS => ⟨a, ns, rfl, hS, hlen, Kb.Hd.tabs_nil (hH _ _ List.mem_cons_self), fun _ => rfl⟩)
