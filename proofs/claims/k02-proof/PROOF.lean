import PyProof.Rows.All
import Wide.All
import OpenK.AllK
import Wide.FinOn
import KE.LcSums
import HandS.ForMost
import HandS.ForExc
import HandS.Evl
import HandS.Steps
import HandS.Codes
import HandS.IsInst
import HandS.Words
import HandS.WordsExc
import HandS.StrMore
import HandS.Text
import HandS.Dict
import HandS.Comp
import HandS.Iter
import HandS.TupAny
import HandS.WordsDict
import HandS.More
import HandS.Head0
import HandS.Head1
import HandS.Head2
import HandS.HeadEnd
import HandS.HeadHook1
import HandS.HeadHook2
import HandS.Walk
import HandS.DictTup
import KE.KDictPairs
import HandS.ExcInit
import HandS.ExcIs
import HandS.ExcField
import HandS.HotCalls
import HandS.SlotsOwn
import HandS.DictComp
import HandS.SortRule
import HandS.SortInts
import HandS.RaiseMore
import HandS.Zip
import HandS.Style
import PyProof.ListStr
import HandS.Lambda
import HandS.ExcOwn
import HandS.Nested
import HandS.SortOrd
import KE.KSortTupAny
import KE.KNestM
import HandS.HeadHook3
import HandS.HeadHook4
import HandS.NestedK
import PySem.Challenge.RW_heapshown_k02_whole_states_changed
set_option Elab.async false
set_option linter.all false
set_option maxRecDepth 100000
set_option maxHeartbeats 4000000
namespace Kb
open PySem PySem.Spec PyProof.Rows L2
/-! ### all, any of a list of truths -/
theorem boolsAre_of : ∀ {bs : List Bool} {us : List Value}, Vals (bs.map V.bl) us → LSm.BoolsAre us bs
  | [], _, .nil => .nil
  | b :: bs, _, .cons r rr => by
    cases r
    exact .cons b (boolsAre_of rr)
def rAllB (K : PySem.W.Frag) : List V → Hp → VK → Prop := fun xs H Q => ∃ (p : Addr) (bs : List Bool), xs = [.ref p] ∧ SqL K H p (bs.map V.bl) ∧ Q (.bl (bs.all id)) H
theorem call_all {X : Cx} (hc : X.calm = true) : CallR X (.builtin "all") (rAllB X.K) := by
  intro pins s σ H xs us Q I r h
  obtain ⟨p, bs, rfl, hq, q⟩ := h
  obtain ⟨u, rfl, rx⟩ := vals1 r
  cases rx
  obtain ⟨its, r', pl, hz⟩ := I.list hq
  have hb := boolsAre_of r'
  have hl := pl.isList
  have hh := I.ok.hd hc
  have hlt : p < s.heap.objs.size := by obtain ⟨_, e, _⟩ := hl; exact Heap.lt_size e
  refine call_all_walk (wpAny_pyIter_list hl ?_)
  refine ⟨s.heap.objs.size, [s.heap.objs.size, p], [s.heap.objs.size], its.toArray.size, _, _, fun i => (bs[i]?).getD true, rfl, Walks.list (A := X.A.in1) hh _ p (Nat.ne_of_lt hlt) its.toArray,
    ⟨⟨_, Heap.get?_push_size _ rfl, rfl, rfl⟩, hl.push _⟩, fun i v s' Q' E' hP hQ => ?_, fun h' tk hk => ?_⟩
  · obtain ⟨b, e, rfl⟩ := hb.get i v (by simpa using hP)
    simp only [e, Option.getD_some] at hQ
    exact wpAny_truthy_bool hQ
  · have e : ((List.range its.toArray.size).all fun i => (bs[i]?).getD true) = bs.all id := by
      rw [List.size_toArray, hb.length]; exact LSm.range_all bs
    rw [e]
    exact ⟨.bl _, H, I.kept (LSm.kept_iter hk), rfl, q⟩
/-! ### the world of a law: builtins, defs, what defs promise -/
structure Bi (mg : Str → Option Value) : Prop where
  int : mg "int" = none
  range : mg "range" = none
  list : mg "list" = none
  isi : mg "isinstance" = none
  len : mg "len" = none
  all : mg "all" = none
  bool : mg "bool" = none
  str : mg "str" = none
  sorted : mg "sorted" = none
  tuple : mg "tuple" = none
  enumerate : mg "enumerate" = none
  zip : mg "zip" = none
  dict : mg "dict" = none
  any : mg "any" = none
  repr : mg "repr" = none
  max : mg "max" = none
  min : mg "min" = none
  sum : mg "sum" = none
  ve : mg "ValueError" = none
structure Df (K : PySem.W.Frag) (mg : Str → Option Value) (x : Str) (st : Stmt) (ps : List Str) : Prop where
  ex : ∃ (f : Addr) (fd : FuncData), Fun K x x st f fd ∧ L2.Binds K fd ps [] ∧ PySem.W.keepIn K (.ref f) = true ∧ mg x = some (.ref f)
structure Gv (P : Program) (w : World) (K : PySem.W.Frag) (mg : Str → Option Value) (base : Heap) (CX : CXT) (k : Nat) (x : Str) (ps : List Str) (sp : Sp) : Prop where
  ex : ∃ (f : Addr) (fd : FuncData), FnOk P w K mg base CX k f fd ps sp ∧ L2.Binds K fd ps [] ∧ PySem.W.keepIn K (.ref f) = true ∧ mg x = some (.ref f)
section
variable {P : Program} {w : World} {K : PySem.W.Frag} {mg : Str → Option Value} {base : Heap}
theorem Gv.mono {CX : CXT} {j k : Nat} {x : Str} {ps : List Str} {sp : Sp} (G : Gv P w K mg base CX j x ps sp) (h : j ≤ k) : Gv P w K mg base CX k x ps sp := by
  obtain ⟨f, fd, F, r⟩ := G.ex
  exact ⟨f, fd, F.mono h, r⟩
theorem Gv.imp {CX : CXT} {k : Nat} {x : Str} {ps : List Str} {sp sp' : Sp} (G : Gv P w K mg base CX k x ps sp) (h : ∀ vs H Q E, sp' vs H Q E → sp vs H Q E) : Gv P w K mg base CX k x ps sp' := by
  obtain ⟨f, fd, F, r⟩ := G.ex
  exact ⟨f, fd, F.imp h, r⟩
/-- a def that raises nothing -/
theorem Df.gv {x : Str} {st : Stmt} {N ps : List Str} {k : Nat} {sp : Sp} (D : Df K mg x st ps) (S : FnScope N ps (defScope st)) (len : ∀ vs H Q E, sp vs H Q E → vs.length = ps.length)
    (hbody : ∀ (f : Addr) (cdv : Value) (A : Around) (outer : List Env) (s : Shared) (H : Hp) (vs : List V) (Q : VK) (E : XK), Room k (A.deeper (envOfC x (defScope st) s.heap.objs.size f cdv)) → sp vs H Q E →
      ∃ t, PSs (cxOf CX0 P w K mg base N x (defScope st) f cdv A outer s H E).nox (defBody st) t ∧ t { nx := fun _ H' => Q .non H', rt := Q } (L2.start N vs) H) : Gv P w K mg base CX0 (k + 1) x ps sp := by
  obtain ⟨f, fd, F, b, kp, g⟩ := D.ex
  exact ⟨f, fd, F.ok S len (fun cdv A outer s H vs Q E hr h => hbody f cdv A outer s H vs Q E hr h), b, kp, g⟩
/-- a def that may raise -/
theorem Df.gvX {x : Str} {st : Stmt} {N ps : List Str} {k : Nat} {sp : Sp} (D : Df K mg x st ps) (S : FnScope N ps (defScope st)) (len : ∀ vs H Q E, sp vs H Q E → vs.length = ps.length)
    (hbody : ∀ (f : Addr) (cdv : Value) (A : Around) (outer : List Env) (s : Shared) (H : Hp) (vs : List V) (Q : VK) (E : XK), Room k (A.deeper (envOfC x (defScope st) s.heap.objs.size f cdv)) → sp vs H Q E →
      ∃ t, PSs (cxOf (L2.CX P w) P w K mg base N x (defScope st) f cdv A outer s H E) (defBody st) t ∧ t { nx := fun _ H' => Q .non H', rt := Q } (L2.start N vs) H) : Gv P w K mg base (L2.CX P w) (k + 1) x ps sp := by
  obtain ⟨f, fd, F, b, kp, g⟩ := D.ex
  exact ⟨f, fd, F.okX S len (fun cdv A outer s H vs Q E hr h => hbody f cdv A outer s H vs Q E hr h), b, kp, g⟩
end
section
variable {X : Cx} {CX : CXT} {j k : Nat} {ps : List Str} {sp : Sp} {E : XK} {x : Str} {p pos : Pos} {e : Expr} {es : List Expr} {t : TA}
/-- f(..), the def with its promise -/
theorem pe_cg (G : Gv X.prog X.w X.K X.mg X.base CX j x ps sp) (hr : Room k X.A) (hg : Gl X x) (hx : Passes CX X E) (ha : PA X (e :: es) t) (hj : j ≤ k := by first | decide | omega)
    (hdb : (x == ("__debug__" : Str)) = false := by decide) (he : starEach (e :: es) X.env = (false, eval e X.env) :: starEach es X.env := by rfl) (hpl : (backTo pos (starEach es X.env)).any (·.1) = false := by rfl) :
    PE X (.Call (.Name x p) (e :: es) [] pos) (tCall sp [] E t) := by
  obtain ⟨f, fd, F, b, kp, g⟩ := G.ex
  exact pe_call F (hr.mono hj) hg g kp b .nil hx ha hdb he hpl
end
end Kb
set_option Elab.async false
set_option linter.all false
set_option maxRecDepth 100000
set_option maxHeartbeats 4000000
namespace Kb
open PySem PySem.Spec PyProof.Rows L2
/-! ### data and their types -/
def tyOf : PyData → String
  | .none => "NoneType"
  | .bool _ => "bool"
  | .int _ => "int"
  | .str _ => "str"
  | .list _ => "list"
  | .tuple _ => "tuple"
  | .dict _ => "dict"
section
variable {K : PySem.W.Frag} {H H' : Hp} {v : V} {d : PyData}
theorem dp_ty (h : Dp K H v d) : TyX K H v (.type (tyOf d)) := by
  cases h with
  | non => exact .base .non
  | bl b => exact .base (.bl b)
  | int i => exact .base (.int i)
  | str x => exact .base (.str x)
  | lst h _ =>
    rcases h with (h | ⟨o, h⟩) | ⟨o, its, n, e, c, _⟩
    · exact .base (.lst h)
    · exact .base (.frz h)
    · exact .kList e c
  | tup h _ =>
    rcases h with (h | ⟨o, h⟩) | ⟨o, its, n, e, c, _⟩
    · exact .base (.tup h)
    · exact .fTuple h
    · exact .kTuple e c
/-- isinstance of a datum and a built-in class -/
def isB (T : String) (d : PyData) : Bool := (kitB (tyOf d) T).getD false
theorem val_isiD {σ : L2.St} {te : TE} {T : String} (hv : Val te σ H v) (h : Dp K H v d) (e : (kitB (tyOf d) T).isSome = true) : Val (tCB (rIsi K) (tCons te (tCons (tC (.ty T)) tNil))) σ H (.bl (isB T d)) := fun Q q => hv _ ⟨v, .ty T, .type (tyOf d), .type T, isB T d, rfl, .ty _, dp_ty h, by
  obtain ⟨b, hb⟩ := Option.isSome_iff_exists.mp e
  unfold isB
  rw [hb]
  exact kit_ty hb, q⟩
mutual
theorem Dp.ext (e : Evl.Ex H H') : ∀ {v : V} {d : PyData}, Dp K H v d → Dp K H' v d
  | _, _, .non => .non
  | _, _, .bl b => .bl b
  | _, _, .int i => .int i
  | _, _, .str x => .str x
  | _, _, .lst h a => .lst (Evl.ex_l e h) (DpAll.ext e a)
  | _, _, .tup h a => .tup (Evl.ex_t e h) (DpAll.ext e a)
theorem DpAll.ext (e : Evl.Ex H H') : ∀ {vs : List V} {ds : List PyData}, DpAll K H vs ds → DpAll K H' vs ds
  | _, _, .nil => .nil
  | _, _, .cons a b => .cons (Dp.ext e a) (DpAll.ext e b)
end
end
theorem kit_int (d : PyData) : (kitB (tyOf d) "int").isSome = true := by cases d <;> (dsimp only [tyOf]; decide +kernel)
theorem kit_bool (d : PyData) : (kitB (tyOf d) "bool").isSome = true := by cases d <;> (dsimp only [tyOf]; decide +kernel)
theorem kit_str (d : PyData) : (kitB (tyOf d) "str").isSome = true := by cases d <;> (dsimp only [tyOf]; decide +kernel)
theorem kit_tuple (d : PyData) : (kitB (tyOf d) "tuple").isSome = true := by cases d <;> (dsimp only [tyOf]; decide +kernel)
theorem kit_list (d : PyData) : (kitB (tyOf d) "list").isSome = true := by cases d <;> (dsimp only [tyOf]; decide +kernel)
def wholeD : PyData → Bool
  | .int _ => true
  | _ => false
theorem isB_whole (d : PyData) : (isB "int" d && !isB "bool" d) = wholeD d := by cases d <;> (dsimp only [isB, tyOf, wholeD]; decide +kernel)
def strD : PyData → Option Str
  | .str x => some x
  | _ => none
theorem isB_str (d : PyData) : isB "str" d = (strD d).isSome := by cases d <;> (dsimp only [isB, tyOf, strD, Option.isSome]; decide +kernel)
/-! ### readings that leave the heap as it is -/
section
variable {σ : L2.St} {H : Hp} {ta tb : TE} {a b : Bool}
theorem val_andV (h1 : Val ta σ H (.bl a)) (h2 : a = true → Val tb σ H (.bl b)) (h0 : a = false → b = false) : Val (tAndV ta tb) σ H (.bl b) := fun Q q => h1 _ ⟨a, rfl, by
  cases a with
  | true => exact h2 rfl _ q
  | false => rw [h0 rfl] at q; exact q⟩
theorem val_orV (h1 : Val ta σ H (.bl a)) (h2 : a = false → Val tb σ H (.bl b)) (h0 : a = true → b = true) : Val (tOrV ta tb) σ H (.bl b) := fun Q q => h1 _ ⟨a, rfl, by
  cases a with
  | false => exact h2 rfl _ q
  | true => rw [h0 rfl] at q; exact q⟩
theorem val_notV (h1 : Val ta σ H (.bl a)) : Val (tNotV ta) σ H (.bl (!a)) := fun Q q => h1 _ ⟨a, rfl, q⟩
end
/-- a test of a datum: the heap may grow -/
def spD (K : PySem.W.Frag) (m : PyData → Bool) : Sp := fun vs H Q _ => ∃ (v : V) (d : PyData), vs = [v] ∧ Dp K H v d ∧ ∀ H', Evl.Ex H H' → Q (.bl (m d)) H'
end Kb
set_option Elab.async false
set_option linter.all false
set_option maxRecDepth 100000
set_option maxHeartbeats 4000000
namespace Kb
open PySem PySem.Spec PyProof.Rows L2
/-! ### the overloads, joined: a term follows from the text alone -/
section
variable {X : Cx}
theorem or2 {f : Value → Value → Sem Value} {r r' : R2} (h : OpR X f r) (h' : OpR X f r') : OpR X f (fun x y H Q => r x y H Q ∨ r' x y H Q) := by
  intro pins s σ H x y v u Q I rx ry q
  rcases q with q | q
  · exact h pins s σ H x y v u Q I rx ry q
  · exact h' pins s σ H x y v u Q I rx ry q
theorem orI {tg it : Expr} {w w' : TI} (h : PI X tg it w) (h' : PI X tg it w') : PI X tg it (fun σ H R => w σ H R ∨ w' σ H R) := by
  refine ⟨fun pins s σ H R I q => ?_⟩
  rcases q with q | q
  · exact h.run pins s σ H R I q
  · exact h'.run pins s σ H R I q
def rAddS : R2 := fun x y H Q => ∃ i j, x = .str i ∧ y = .str j ∧ i.length + j.length ≤ sizeLine ∧ Q (.str (i ++ j)) H
def rAdd (K : PySem.W.Frag) : R2 := fun x y H Q => rI0 (fun i j => .int (i + j)) x y H Q ∨ (rAddS x y H Q ∨ (rCat x y H Q ∨ rCatA K x y H Q))
theorem opA_add : OpR X (binaryOp .Add) (rAdd X.K) := or2 op_add (or2 op_add_str (or2 op_cat op_catA))
def rMulS : R2 := fun x y H Q => ∃ w n, x = .str w ∧ y = .int n ∧ 2 ≤ n ∧ n ≤ 1000 ∧ 1 ≤ w.length ∧ w.length ≤ 1000 ∧ (⟨(List.replicate n.toNat w.cps).foldl (· ++ ·) #[]⟩ : Str).length ≤ sizeLine ∧ Q (.str ⟨(List.replicate n.toNat w.cps).foldl (· ++ ·) #[]⟩) H
theorem op_mulS : OpR X (binaryOp .Mult) rMulS := by
  intro pins s σ H x y v u Q I rx ry h
  obtain ⟨w, n, rfl, rfl, h1, h2, h3, h4, h5, q⟩ := h
  obtain ⟨t, rfl⟩ := rx
  obtain ⟨t', rfl⟩ := ry
  have e1 : (n == 1 || w.length == 0) = false := by
    rw [beq_eq_false_iff_ne.mpr (by omega), beq_eq_false_iff_ne.mpr (by omega)]
    rfl
  refine PySem.P.mul_str ?_ (fun _ _ => ?_) (fun _ _ => ?_) ?_
  · rw [decide_eq_false (by omega), decide_eq_false (by omega)]
    rfl
  · have : (w.length : Int) ≤ (2 ^ 63 - 1) / n := by
      refine Int.le_ediv_of_mul_le (by omega) ?_
      have : (w.length : Int) * n ≤ 1000 * 1000 := Int.mul_le_mul (by omega) h2 (by omega) (by omega)
      omega
    omega
  · have : w.length * n.toNat ≤ 1000 * 1000 := Nat.mul_le_mul h4 (by omega)
    have hs : (1000 * 1000 : Nat) ≤ sizeLine := by decide
    exact decide_eq_false (by omega)
  · rw [if_neg (by omega), e1, if_neg (by decide)]
    exact ⟨h5, .str _, H, I.tok _, ⟨_, rfl⟩, q⟩
def rMul : R2 := fun x y H Q => rI CMul (fun i j => .int (i * j)) x y H Q ∨ (rRep x y H Q ∨ rMulS x y H Q)
theorem opA_mul : OpR X (binaryOp .Mult) rMul := or2 op_mul (or2 op_rep op_mulS)
def rLtS : R2 := fun x y H Q => ∃ i j, x = .str i ∧ y = .str j ∧ Q (.bl (decide (i.cps.toList < j.cps.toList))) H
def rLt : R2 := fun x y H Q => rI0 (fun i j => .bl (decide (i < j))) x y H Q ∨ rLtS x y H Q
theorem opA_lt : OpR X (compareOp .Lt) rLt := or2 op_lt op_lt_str
def rEqA (K : PySem.W.Frag) : R2 := fun x y H Q => rEq x y H Q ∨ rEqD K x y H Q
def rNeA (K : PySem.W.Frag) : R2 := fun x y H Q => rNe x y H Q ∨ rNeD K x y H Q
theorem opA_eq (hu : X.A.units + 64 < cLine) : OpR X (compareOp .Eq) (rEqA X.K) := or2 op_eq (op_eqD hu)
theorem opA_ne (hu : X.A.units + 64 < cLine) : OpR X (compareOp .NotEq) (rNeA X.K) := or2 op_ne (op_neD hu)
def rInDk : R2 := fun x y H Q => ∃ a o, y = .ref a ∧ DGet H a x o ∧ Q (.bl o.isSome) H
def rNotInDk : R2 := fun x y H Q => ∃ a o, y = .ref a ∧ DGet H a x o ∧ Q (.bl (!o.isSome)) H
theorem op_inDk (hu : X.A.units + 1 < cLine) : OpR X (compareOp .In) rInDk := by
  intro pins s σ H x y v u Q I rx ry h
  obtain ⟨a, o, rfl, g, q⟩ := h
  obtain rfl : u = Value.ref a := ry
  exact d_in hu I g rx fun s3 I3 => ⟨.bl o.isSome, H, I3, rfl, q⟩
theorem op_notInDk (hu : X.A.units + 1 < cLine) : OpR X (compareOp .NotIn) rNotInDk := by
  intro pins s σ H x y v u Q I rx ry h
  obtain ⟨a, o, rfl, g, q⟩ := h
  obtain rfl : u = Value.ref a := ry
  exact d_notIn hu I g rx fun s3 I3 => ⟨.bl (!o.isSome), H, I3, rfl, q⟩
def rInA (K : PySem.W.Frag) : R2 := fun x y H Q => rIn K false x y H Q ∨ (rInS x y H Q ∨ rInDk x y H Q)
def rNotInA (K : PySem.W.Frag) : R2 := fun x y H Q => rIn K true x y H Q ∨ (rNotInS x y H Q ∨ rNotInDk x y H Q)
theorem opA_in (hu : X.A.units + 64 < cLine) : OpR X (compareOp .In) (rInA X.K) := or2 op_in_seq (or2 op_inS (op_inDk (by omega)))
theorem opA_notIn (hu : X.A.units + 64 < cLine) : OpR X (compareOp .NotIn) (rNotInA X.K) := or2 op_notIn_seq (or2 op_notInS (op_notInDk (by omega)))
def rSl (K : PySem.W.Frag) : V → Option Int → Option Int → Hp → VK → Prop := fun x lo hi H Q => rSlL K x lo hi H Q ∨ (rSlA K x lo hi H Q ∨ rSlS x lo hi H Q)
theorem slA : SlR X (rSl X.K) := sl_list.or (sl_tupA.or sl_str)
def rLenT : List V → Hp → VK → Prop := fun xs H Q => ∃ z : Str, xs = [.str z] ∧ z.length ≤ sizeLine ∧ Q (.int z.length) H
def rLenK : List V → Hp → VK → Prop := fun xs H Q => ∃ a kvs, xs = [V.ref a] ∧ H a = some (.dK kvs) ∧ Q (.int kvs.length) H
def rLenQ (K : PySem.W.Frag) : List V → Hp → VK → Prop := fun xs H Q => ∃ p ys, xs = [.ref p] ∧ (SqL K H p ys ∨ SqT K H p ys) ∧ Q (.int ys.length) H
def rLen (K : PySem.W.Frag) : List V → Hp → VK → Prop := fun xs H Q => rLenQ K xs H Q ∨ (rLenT xs H Q ∨ rLenK xs H Q)
theorem callA_len : CallR X (.builtin "len") (rLen X.K) := CallR.or call_len_seq (CallR.or call_len_str call_lenD)
def iSeq (K : PySem.W.Frag) (te : TE) : TI := fun σ H R => iList K te σ H R ∨ (iTup K te σ H R ∨ iStr te σ H R)
theorem piA_seq {tg e : Expr} {te : TE} (h : PE X e te) : PI X tg e (iSeq X.K te) := orI (pi_list h) (orI (pi_tup h) (pi_str h))
end
end Kb
namespace Kb
open PySem PySem.Spec PyProof.Rows L2
/-! ### constants of the top -/
structure Gc (mg : Str → Option Value) (x : Str) (v : V) : Prop where
  ex : ∃ u, mg x = some u ∧ RelV v u
theorem pe_gc {X : Cx} {x : Str} {v : V} {pos : Pos} (h : Gc X.mg x v) (hg : Gl X x) (hd : (x == ("__debug__" : Str)) = false := by decide) : PE X (.Name x pos) (tC v) := by
  obtain ⟨u, e, r⟩ := h.ex
  exact pe_glob hg e r hd
theorem blk_ok {N : List Str} {sc scope : Scope} {own : List (Str × Nat)} (h : blkC N sc scope own = true) : BlkOk N sc scope own := blkOk_by h
end Kb
set_option Elab.async false
set_option linter.all false
set_option maxRecDepth 100000
set_option maxHeartbeats 4000000
namespace Kb
open PySem PySem.Spec PyProof.Rows L2 Evl
/-! ### readings of the joined rules where the heap but grows -/
section
variable {K : PySem.W.Frag} {σ : L2.St} {H : Hp} {ta tb tc te : TE} {t u : TT} {x y z v : V} {r r' : R2}
theorem ev_lenT {w : Str} (ha : Ev ta σ H (.str w)) (h : w.length ≤ 100000) : Ev (tCB (rLen K) (tCons ta tNil)) σ H (.int w.length) := fun H1 e Q q =>
  ha H1 e _ fun H2 e2 => .inr (.inl ⟨w, rfl, sz_of h, q H2 e2⟩)
theorem ev_lenL {p : Addr} {xs : List V} (ha : Ev ta σ H (.ref p)) (h : SqL K H p xs) : Ev (tCB (rLen K) (tCons ta tNil)) σ H (.int xs.length) := fun H1 e Q q =>
  ha H1 e _ fun H2 e2 => .inl ⟨p, xs, rfl, .inl (ex_l (e.trans e2) h), q H2 e2⟩
theorem ev_lenU {p : Addr} {xs : List V} (ha : Ev ta σ H (.ref p)) (h : SqT K H p xs) : Ev (tCB (rLen K) (tCons ta tNil)) σ H (.int xs.length) := fun H1 e Q q =>
  ha H1 e _ fun H2 e2 => .inl ⟨p, xs, rfl, .inr (ex_t (e.trans e2) h), q H2 e2⟩
theorem ev_chain {a b : Bool} (ha : Ev ta σ H x) (hb : Ev tb σ H y) (hc : Ev tc σ H z) (h1 : RV r x y H (.bl a)) (h2 : a = true → RV r' y z H (.bl b)) : Ev (tChain r r' ta tb tc) σ H (.bl (a && b)) := fun H1 e Q q =>
  ha H1 e _ fun H2 e2 => hb H2 (e.trans e2) _ fun H3 e3 => h1 H3 ((e.trans e2).trans e3) _ fun H4 e4 => ⟨a, rfl, by
    cases a with
    | true => exact hc H4 (((e.trans e2).trans e3).trans e4) _ fun H5 e5 => h2 rfl H5 ((((e.trans e2).trans e3).trans e4).trans e5) Q fun H6 e6 => q H6 ((((e2.trans e3).trans e4).trans e5).trans e6)
    | false => exact q H4 ((e2.trans e3).trans e4)⟩
theorem rv_l {z : V} (h : RV r x y H z) : RV (fun x y H Q => r x y H Q ∨ r' x y H Q) x y H z := fun H1 e Q q => .inl (h H1 e Q q)
theorem rv_r {z : V} (h : RV r' x y H z) : RV (fun x y H Q => r x y H Q ∨ r' x y H Q) x y H z := fun H1 e Q q => .inr (h H1 e Q q)
theorem rv_add {i j : Int} : RV (rAdd K) (.int i) (.int j) H (.int (i + j)) := rv_l rv_I0
theorem rv_addS {i j : Str} (h : i.length + j.length ≤ 100000) : RV (rAdd K) (.str i) (.str j) H (.str (i ++ j)) := fun H1 e Q q => .inr (.inl ⟨i, j, rfl, rfl, sz_of h, q H1 (Ex.refl H1)⟩)
theorem rv_lt {i j : Int} : RV rLt (.int i) (.int j) H (.bl (decide (i < j))) := rv_l rv_I0
theorem rv_ltS {i j : Str} : RV rLt (.str i) (.str j) H (.bl (decide (i.cps.toList < j.cps.toList))) := fun H1 e Q q => .inr ⟨i, j, rfl, rfl, q H1 (Ex.refl H1)⟩
theorem rv_eqs (h : scal x y = true) : RV (rEqA K) x y H (.bl (decide (x = y))) := rv_l (rv_eq h)
theorem rv_nes (h : scal x y = true) : RV (rNeA K) x y H (.bl (!decide (x = y))) := rv_l (rv_ne h)
theorem rv_inA {p : Addr} {xs : List V} (h : SqT K H p xs) (hx : flatV x = true) (ha : xs.all flatV = true) : RV (rInA K) x (.ref p) H (.bl (inV x xs)) := rv_l (rv_isT h hx ha)
theorem rv_inc {c : Nat} {w : Str} : RV (rInA K) (.str ⟨#[c]⟩) (.str w) H (.bl (decide (c ∈ w.cps.toList))) := fun H1 e Q q => .inr (.inl ⟨c, w, rfl, rfl, q H1 (Ex.refl H1)⟩)
theorem rv_niA {p : Addr} {xs : List V} (h : SqT K H p xs) (hx : flatV x = true) (ha : xs.all flatV = true) : RV (rNotInA K) x (.ref p) H (.bl (!inV x xs)) := rv_l (rv_niT h hx ha)
theorem rv_nic {c : Nat} {w : Str} : RV (rNotInA K) (.str ⟨#[c]⟩) (.str w) H (.bl (!decide (c ∈ w.cps.toList))) := fun H1 e Q q => .inr (.inl ⟨c, w, rfl, rfl, q H1 (Ex.refl H1)⟩)
theorem rv_inDk {a : Addr} {k : Key} {kvs : List (Key × V)} (h : H a = some (.dK kvs)) : RV (rInA K) (kV k) (.ref a) H (.bl (valV kvs k).isSome) := fun H1 e Q q => .inr (.inr ⟨a, _, rfl, .inl ⟨kvs, k, .inl (e _ _ h), rfl, rfl⟩, q H1 (Ex.refl H1)⟩)
theorem rv_niDk {a : Addr} {k : Key} {kvs : List (Key × V)} (h : H a = some (.dK kvs)) : RV (rNotInA K) (kV k) (.ref a) H (.bl (!(valV kvs k).isSome)) := fun H1 e Q q => .inr (.inr ⟨a, _, rfl, .inl ⟨kvs, k, .inl (e _ _ h), rfl, rfl⟩, q H1 (Ex.refl H1)⟩)
theorem rv_iL {p : Addr} {xs : List V} {i : Int} (h : SqL K H p xs) (ha : atI xs i = some v) : RV (rIx K) (.ref p) (.int i) H v := rv_l (rv_ixL h ha)
theorem rv_iT {p : Addr} {xs : List V} {i : Int} (h : SqT K H p xs) (ha : atI xs i = some v) : RV (rIx K) (.ref p) (.int i) H v := rv_r (rv_l (rv_ixT h ha))
theorem rv_iS {w : Str} {i : Int} {c : Nat} (h : w.length ≤ 100000) (ha : atI w.cps.toList i = some c) : RV (rIx K) (.str w) (.int i) H (.str ⟨#[c]⟩) := rv_r (rv_r (rv_ixS h ha))
theorem ev_slS {w : Str} {tl th : TO} {lo hi : Option Int} (ha : Ev ta σ H (.str w)) (hl : EvO tl σ H lo) (hh : EvO th σ H hi) (h : w.length ≤ 100000) : Ev (tSl (rSl K) ta tl th) σ H (.str (cutS w lo hi)) := fun H1 e Q q =>
  ha H1 e _ fun H2 e2 => hl H2 (e.trans e2) _ fun H3 e3 => hh H3 ((e.trans e2).trans e3) _ fun H4 e4 => .inr (.inr ⟨w, rfl, sz_of h, q H4 ((e2.trans e3).trans e4)⟩)
end
end Kb
set_option Elab.async false
set_option linter.all false
set_option maxRecDepth 100000
set_option maxHeartbeats 4000000
namespace Kb
open PySem PySem.Spec PyProof.Rows L2 Evl
section
variable {K : PySem.W.Frag} {σ : L2.St} {H : Hp} {tl te : TE} {t : TT} {g : TG} {vs : List Nat}
/-- a comprehension over a text -/
theorem el_lcS {w : Str} {j : Nat} (f : Nat → Bool) (v : Nat → V) (h : Ev tl σ H (.str w)) (hz : w.cps.size ≤ 40000) (hw : ∀ x, wipe ((wipe σ vs).set j (some x)) vs = wipe σ vs)
    (ht : ∀ (i c : Nat) H1, Ex H H1 → w.cps[i]? = some c → EvT t ((wipe σ vs).set j (some (.str ⟨#[c]⟩))) H1 (f i)) (he : ∀ (i c : Nat) H1, Ex H H1 → w.cps[i]? = some c → f i = true → Ev te ((wipe σ vs).set j (some (.str ⟨#[c]⟩))) H1 (v i)) :
    EvL (tLc (iSeq K tl) (gName j) t te vs) σ H (given w.cps.size f v) := fun H0 e Q q => .inr (.inr (h H0 e _ fun H1 e1 => ⟨w, rfl, fun Dl hD =>
  lc_it walk_str (Cw H1 f v Dl) ⟨hD, Ex.new hD, upd_same⟩ (fun _ _ _ _ => trivial) (fun i x H' H'' hi p y => by
    obtain ⟨rfl, c, hc, rfl⟩ := y
    exact ⟨hw _, cw_turn p (by omega) (ht i c H1 (e.trans e1) hc) (fun hf => he i c H1 (e.trans e1) hc hf)⟩)
    (fun H' p => q Dl H' (fresh_back e1 p.1) (e1.trans p.2.1) p.2.2)⟩))
/-- over a tuple, whatever the target: σt the slots of a turn -/
theorem el_lcT {a : Addr} {xs : List V} (σt : Nat → L2.St) (f : Nat → Bool) (v : Nat → V) (h : Ev tl σ H (.ref a)) (hx : SqT K H a xs) (hz : xs.length ≤ 40000) (hw : ∀ i, i < xs.length → wipe (σt i) vs = wipe σ vs)
    (hg : ∀ (i : Nat) (x : V) H1, Ex H H1 → xs[i]? = some x → ∀ k : L2.St → Hp → Prop, k (σt i) H1 → g x (wipe σ vs) H1 k)
    (ht : ∀ (i : Nat) (x : V) H1, Ex H H1 → xs[i]? = some x → EvT t (σt i) H1 (f i)) (he : ∀ (i : Nat) (x : V) H1, Ex H H1 → xs[i]? = some x → f i = true → Ev te (σt i) H1 (v i)) :
    EvL (tLc (iSeq K tl) g t te vs) σ H (given xs.length f v) := fun H0 e Q q => .inr (.inl (h H0 e _ fun H1 e1 => ⟨a, rfl, ⟨xs, ex_t (e.trans e1) hx⟩, fun Dl hD =>
  lc_it (walk_tup (xs := xs)) (Cw H1 f v Dl) ⟨hD, Ex.new hD, upd_same⟩ (fun i H' _ p => ex_t ((e.trans e1).trans p.2.1) hx) (fun i x H' H'' hi p y => by
    obtain ⟨rfl, hc⟩ := y
    exact hg i x _ ((e.trans e1).trans p.2.1) hc _ ⟨hw i hi, cw_turn p (by omega) (ht i x H1 (e.trans e1) hc) (fun hf => he i x H1 (e.trans e1) hc hf)⟩)
    (fun H' p => q Dl H' (fresh_back e1 p.1) (e1.trans p.2.1) p.2.2)⟩))
theorem el_lcQ {a : Addr} {xs : List V} (σt : Nat → L2.St) (f : Nat → Bool) (v : Nat → V) (h : Ev tl σ H (.ref a)) (hx : SqL K H a xs) (hz : xs.length ≤ 40000) (hw : ∀ i, i < xs.length → wipe (σt i) vs = wipe σ vs)
    (hg : ∀ (i : Nat) (x : V) H1, Ex H H1 → xs[i]? = some x → ∀ k : L2.St → Hp → Prop, k (σt i) H1 → g x (wipe σ vs) H1 k)
    (ht : ∀ (i : Nat) (x : V) H1, Ex H H1 → xs[i]? = some x → EvT t (σt i) H1 (f i)) (he : ∀ (i : Nat) (x : V) H1, Ex H H1 → xs[i]? = some x → f i = true → Ev te (σt i) H1 (v i)) :
    EvL (tLc (iSeq K tl) g t te vs) σ H (given xs.length f v) := fun H0 e Q q => .inl (h H0 e _ fun H1 e1 => ⟨a, rfl, ⟨xs, ex_l (e.trans e1) hx⟩, fun Dl hD =>
  lc_it (walk_list (xs := xs)) (Cw H1 f v Dl) ⟨hD, Ex.new hD, upd_same⟩ (fun i H' _ p => ex_l ((e.trans e1).trans p.2.1) hx) (fun i x H' H'' hi p y => by
    obtain ⟨rfl, hc⟩ := y
    exact hg i x _ ((e.trans e1).trans p.2.1) hc _ ⟨hw i hi, cw_turn p (by omega) (ht i x H1 (e.trans e1) hc) (fun hf => he i x H1 (e.trans e1) hc hf)⟩)
    (fun H' p => q Dl H' (fresh_back e1 p.1) (e1.trans p.2.1) p.2.2)⟩)
/-- all of a new list of truths -/
theorem ev_allN {bs : List Bool} {ta : TE} (ha : EvL ta σ H (bs.map V.bl)) : Ev (tCB (rAll K) (tCons ta tNil)) σ H (.bl (bs.all id)) := fun H1 e Q q =>
  ha H1 e _ fun p H2 _ e2 h2 => ⟨p, bs, rfl, sq_of h2, q H2 e2⟩
theorem ev_anyN {bs : List Bool} {ta : TE} (ha : EvL ta σ H (bs.map V.bl)) : Ev (tCB (rAny K) (tCons ta tNil)) σ H (.bl (bs.any id)) := fun H1 e Q q =>
  ha H1 e _ fun p H2 _ e2 h2 => ⟨p, bs, rfl, sq_of h2, q H2 e2⟩
theorem el_is {xs ys : List V} (h : EvL te σ H xs) (e : xs = ys) : EvL te σ H ys := by
  rw [← e]
  exact h
end
end Kb
set_option Elab.async false
set_option linter.all false
set_option maxRecDepth 100000
set_option maxHeartbeats 4000000
namespace Kb
open PySem PySem.Spec PyProof.Rows L2 Evl
section
variable {K : PySem.W.Frag} {σ : L2.St} {H : Hp} {te ta tb : TE} {v : V} {d : PyData}
theorem ev_isiD {T : String} (hv : Ev te σ H v) (h : Dp K H v d) (e : (kitB (tyOf d) T).isSome = true) : Ev (tCB (rIsi K) (tCons te (tCons (tC (.ty T)) tNil))) σ H (.bl (isB T d)) := fun H1 e1 Q q =>
  hv H1 e1 _ fun H2 e2 => ⟨v, .ty T, .type (tyOf d), .type T, isB T d, rfl, .ty _, dp_ty (Dp.ext (e1.trans e2) h), by
    obtain ⟨b, hb⟩ := Option.isSome_iff_exists.mp e
    unfold isB
    rw [hb]
    exact kit_ty hb, q H2 e2⟩
theorem hu64_of {k : Nat} {A : Around} (hr : Room k A) : A.units + 64 < cLine := Nat.lt_of_le_of_lt (by omega) hr.un
/-- a test of one datum -/
def spB (K : PySem.W.Frag) (C : PyData → Prop) (m : PyData → Bool) : Sp := fun vs H Q _ => ∃ (v : V) (d : PyData), vs = [v] ∧ Dp K H v d ∧ C d ∧ ∀ H', Ex H H' → Q (.bl (m d)) H'
theorem spB_v {C : PyData → Prop} {m : PyData → Bool} (h : Dp K H v d) (c : C d) : SpV (spB K C m) [v] H (.bl (m d)) := fun H1 e Q q E => ⟨v, d, rfl, Dp.ext e h, c, fun H2 e2 => q H2 e2⟩
/-- texts within measure -/
def TxtOk : PyData → Prop
  | .str z => z.length ≤ 40000
  | _ => True
theorem ev_bm1 {T : String} {r : V → List V → Hp → VK → Prop} {x y z : V} (ha : Ev ta σ H x) (hb : Ev tb σ H y) (ty : ∀ H1, tyV K T x H1) (hr : ∀ H1 (Q : VK), Q z H1 → r x [y] H1 Q) : Ev (tBM K T r ta (tCons tb tNil)) σ H z := fun H1 e Q q =>
  ha H1 e _ fun H2 e2 => ⟨ty H2, hb H2 (e.trans e2) _ fun H3 e3 => hr H3 Q (q H3 (e2.trans e3))⟩
theorem getD_of {xs : Array Nat} {i c : Nat} (h : xs[i]? = some c) : xs.getD i 0 = c := by
  rw [Array.getD_eq_getD_getElem?, h]
  rfl
theorem given_all {n : Nat} (v : Nat → V) : given n (fun _ => true) v = (List.range n).map v := by
  unfold given
  rw [List.filter_eq_self.mpr (fun _ _ => rfl)]
theorem given_txt {w : Str} {m : Nat → Bool} : given w.cps.size (fun _ => true) (fun i => .bl (m (w.cps.getD i 0))) = (w.cps.toList.map m).map V.bl := by
  rw [given_all]
  apply List.ext_getElem?
  intro i
  simp only [List.getElem?_map]
  by_cases h : i < w.cps.size
  · rw [List.getElem?_range h]
    simp [Array.getD, h]
  · have h1 : (List.range w.cps.size)[i]? = none := by simp; omega
    have h2 : w.cps.toList[i]? = none := by simp; omega
    rw [h1, h2]
    rfl
/-- a comprehension over range(n) -/
theorem el_lcR {tt : TT} {vs : List Nat} {j : Nat} {n : Int} {tr : TA} (f : Nat → Bool) (g : Nat → V) (h : EvA tr σ H [.int n]) (hn : n ≤ 40000) (hw : ∀ x, wipe ((wipe σ vs).set j (some x)) vs = wipe σ vs)
    (ht : ∀ (i : Nat) H1, Ex H H1 → (i : Int) < n → EvT tt ((wipe σ vs).set j (some (.int (i : Int)))) H1 (f i)) (he : ∀ (i : Nat) H1, Ex H H1 → (i : Int) < n → f i = true → Ev te ((wipe σ vs).set j (some (.int (i : Int)))) H1 (g i)) (hl : -40000 ≤ n) :
    EvL (tLc (iRng1 tr) (gName j) tt te vs) σ H (given n.toNat f g) := fun H0 e Q q => h H0 e _ fun H1 e1 => ⟨n, rfl, by omega, by omega, fun Dl hD =>
  lc_range (lo := 0) (n := n.toNat) (Cw H1 f g Dl) ⟨hD, Ex.new hD, upd_same⟩ (fun i H' hi p => by
    have e0 : (0 : Int) + (i : Int) = (i : Int) := Int.zero_add _
    show wipe ((wipe σ vs).set j (some (.int ((0 : Int) + (i : Int))))) vs = wipe σ vs ∧ tt ((wipe σ vs).set j (some (.int ((0 : Int) + (i : Int))))) H' fun b H3 => if b = true then te ((wipe σ vs).set j (some (.int ((0 : Int) + (i : Int))))) H3 fun y H4 => ∃ acc, H4 Dl = some (.lst acc) ∧ acc.length < sizeLine ∧ Cw H1 f g Dl (i + 1) (upd H4 Dl (.lst (acc ++ [y]))) else Cw H1 f g Dl (i + 1) H3
    rw [e0]
    exact ⟨hw _, cw_turn p (by omega) (ht i H1 (e.trans e1) (by omega)) (fun hf => he i H1 (e.trans e1) (by omega) hf)⟩) (fun H' p => q Dl H' (fresh_back e1 p.1) (e1.trans p.2.1) p.2.2)⟩
theorem given_bl {n : Nat} (m : Nat → Bool) : given n (fun _ => true) (fun i => .bl (m i)) = ((List.range n).map m).map V.bl := by
  rw [given_all, List.map_map]
  rfl
end
end Kb
set_option Elab.async false
set_option linter.all false
set_option maxRecDepth 100000
set_option maxHeartbeats 4000000
namespace Kb
open PySem PySem.Spec PyProof.Rows L2 Evl
section
variable {K : PySem.W.Frag} {σ : L2.St} {H H' : Hp} {te ta tb tl : TE} {v : V} {d : PyData} {vs : List V} {ds : List PyData}
theorem dpAll_len : ∀ {vs : List V} {ds : List PyData}, DpAll K H vs ds → vs.length = ds.length
  | _, _, .nil => rfl
  | _, _, .cons _ b => congrArg (· + 1) (dpAll_len b)
theorem dpAll_get : ∀ {vs : List V} {ds : List PyData}, DpAll K H vs ds → ∀ {i : Nat} {v : V}, vs[i]? = some v → ∃ d, ds[i]? = some d ∧ Dp K H v d
  | _, _, .nil, i, v, h => by simp at h
  | _, _, .cons (d := d) a b, i, v, h => by
    cases i with
    | zero =>
      simp at h
      subst h
      exact ⟨d, rfl, a⟩
    | succ i =>
      simp at h
      obtain ⟨d', h1, h2⟩ := dpAll_get b h
      exact ⟨d', by simpa using h1, h2⟩
theorem dpAll_ints : ∀ {ns : List Int}, DpAll K H (ns.map V.int) (ns.map PyData.int)
  | [] => .nil
  | n :: ns => .cons (.int n) dpAll_ints
theorem dpAll_app : ∀ {vs ws : List V} {ds es : List PyData}, DpAll K H vs ds → DpAll K H ws es → DpAll K H (vs ++ ws) (ds ++ es)
  | _, _, _, _, .nil, h => h
  | _, _, _, _, .cons a b, h => .cons a (dpAll_app b h)
def tupD : PyData → Option (List PyData)
  | .tuple ds => some ds
  | _ => none
def lstD : PyData → Option (List PyData)
  | .list ds => some ds
  | _ => none
theorem isB_tup (d : PyData) : isB "tuple" d = (tupD d).isSome := by cases d <;> (dsimp only [isB, tyOf, tupD, Option.isSome]; decide +kernel)
theorem isB_lst (d : PyData) : isB "list" d = (lstD d).isSome := by cases d <;> (dsimp only [isB, tyOf, lstD, Option.isSome]; decide +kernel)
theorem tupD_some {ds : List PyData} (h : tupD d = some ds) : d = .tuple ds := by cases d <;> first | (injection h with h; rw [h]) | cases h
theorem lstD_some {ds : List PyData} (h : lstD d = some ds) : d = .list ds := by cases d <;> first | (injection h with h; rw [h]) | cases h
theorem strD_some {z : Str} (h : strD d = some z) : d = .str z := by cases d <;> first | (injection h with h; rw [h]) | cases h
def pairD : PyData → Bool
  | .tuple [_, _] => true
  | _ => false
def pr1 : PyData → PyData
  | .tuple (a :: _) => a
  | _ => .none
def pr2 : PyData → PyData
  | .tuple (_ :: b :: _) => b
  | _ => .none
theorem pairD_of (h : pairD d = true) : d = .tuple [pr1 d, pr2 d] := by
  unfold pairD at h
  split at h
  · rfl
  · cases h
structure Prt (K : PySem.W.Frag) (H : Hp) (vs : List V) (us : List (V × V)) (ds : List PyData) : Prop where
  len : vs.length = us.length
  at_ : ∀ (i : Nat) (v : V) (u : V × V), vs[i]? = some v → us[i]? = some u → ∃ a, v = V.ref a ∧ SqT K H a [u.1, u.2]
  d1 : DpAll K H (us.map Prod.fst) (ds.map pr1)
  d2 : DpAll K H (us.map Prod.snd) (ds.map pr2)
theorem prt_of : ∀ {vs : List V} {ds : List PyData}, DpAll K H vs ds → ds.all pairD = true → ∃ us, Prt K H vs us ds
  | _, _, .nil, _ => ⟨[], rfl, fun i v u h => by simp at h, .nil, .nil⟩
  | _, _, .cons (v := v) (d := d) a b, h => by
    simp only [List.all_cons, Bool.and_eq_true] at h
    obtain ⟨us, q⟩ := prt_of b h.2
    have e := pairD_of h.1
    rw [e] at a
    cases a with
    | @tup p xs _ h1 h2 =>
      cases h2 with
      | @cons v1 _ _ _ a1 h2 =>
        cases h2 with
        | @cons v2 _ _ _ a2 h2 =>
          cases h2
          refine ⟨(v1, v2) :: us, congrArg (· + 1) q.len, fun i v u e1 e2 => ?_, .cons a1 q.d1, .cons a2 q.d2⟩
          cases i with
          | zero =>
            simp at e1 e2
            subst e1
            subst e2
            exact ⟨p, rfl, h1⟩
          | succ i =>
            simp at e1 e2
            exact q.at_ i v u e1 e2
theorem Prt.ext {us : List (V × V)} (e : Ex H H') (q : Prt K H vs us ds) : Prt K H' vs us ds :=
  ⟨q.len, fun i v u h1 h2 => let ⟨a, h, s⟩ := q.at_ i v u h1 h2; ⟨a, h, ex_t e s⟩, DpAll.ext e q.d1, DpAll.ext e q.d2⟩
theorem range_getD {α : Type} (ds : List α) (x : α) : (List.range ds.length).map (fun i => ds.getD i x) = ds := by
  apply List.ext_getElem?
  intro i
  by_cases h : i < ds.length
  · rw [List.getElem?_map, List.getElem?_range h]
    simp [h]
  · have h1 : (List.range ds.length)[i]? = none := by simp; omega
    have h2 : ds[i]? = none := by simp; omega
    rw [List.getElem?_map, h1, h2]
    rfl
theorem given_map {α : Type} (ds : List α) (x : α) (t : α → Bool) (f : α → V) : given ds.length (fun i => t (ds.getD i x)) (fun i => f (ds.getD i x)) = (ds.filter t).map f := by
  have e := range_getD ds x
  conv => rhs; rw [← e, List.filter_map, List.map_map]
  rfl
theorem given_mapT {α : Type} (ds : List α) (x : α) (f : α → V) : given ds.length (fun _ => true) (fun i => f (ds.getD i x)) = ds.map f := by
  have h := given_map ds x (fun _ => true) f
  rw [h, List.filter_eq_self.mpr (fun _ _ => rfl)]
theorem getD_some {α : Type} {ds : List α} {x d : α} {i : Nat} (h : ds[i]? = some d) : ds.getD i x = d := by
  rw [List.getD_eq_getElem?_getD, h]
  rfl
/-- tests over a tuple of data -/
theorem el_tests {a : Addr} {us : List V} {tt : TT} {ws : List Nat} {j : Nat} (m : PyData → Bool) (h : Ev tl σ H (.ref a)) (hx : SqT K H a us) (hd : DpAll K H us ds) (hz : us.length ≤ 40000)
    (hw : ∀ x, wipe ((wipe σ ws).set j (some x)) ws = wipe σ ws) (ht : ∀ σ' H1, EvT tt σ' H1 true)
    (he : ∀ (i : Nat) (v : V) (d : PyData) H1, Ex H H1 → ds[i]? = some d → Dp K H1 v d → Ev te ((wipe σ ws).set j (some v)) H1 (.bl (m d))) :
    EvL (tLc (iSeq K tl) (gName j) tt te ws) σ H ((ds.map m).map V.bl) := by
  refine el_is (el_lcT (fun i => (wipe σ ws).set j (some (us.getD i .non))) (fun _ => true) (fun i => .bl (m (ds.getD i .none))) h hx hz (fun i _ => hw _) (fun i x H1 e hi k q => ?_) (fun i x H1 e hi => ht _ _) (fun i x H1 e hi _ => ?_)) ?_
  · rw [getD_some hi] at q
    exact q
  · obtain ⟨d, h1, h2⟩ := dpAll_get hd hi
    rw [getD_some hi, getD_some h1]
    exact he i x d H1 e h1 (Dp.ext e h2)
  · rw [dpAll_len hd, given_mapT ds .none fun d => .bl (m d), List.map_map]
    rfl
/-- over a tuple of pairs -/
theorem el_prt {a : Addr} {xs : List V} {us : List (V × V)} {tt : TT} {ws : List Nat} {i1 i2 : Nat} (f : Nat → Bool) (g : Nat → V) (h : Ev tl σ H (.ref a)) (hx : SqT K H a xs) (hd : Prt K H xs us ds) (hz : xs.length ≤ 40000)
    (hw : ∀ x y, wipe (((wipe σ ws).set i1 (some x)).set i2 (some y)) ws = wipe σ ws)
    (ht : ∀ (i : Nat) (u : V × V) H1, Ex H H1 → us[i]? = some u → EvT tt (((wipe σ ws).set i1 (some u.1)).set i2 (some u.2)) H1 (f i))
    (he : ∀ (i : Nat) (u : V × V) H1, Ex H H1 → us[i]? = some u → f i = true → Ev te (((wipe σ ws).set i1 (some u.1)).set i2 (some u.2)) H1 (g i)) :
    EvL (tLc (iSeq K tl) (gTup K 2 (gCons (gName i1) (gCons (gName i2) gNil))) tt te ws) σ H (given us.length f g) := by
  have up : ∀ {i : Nat} {x : V}, xs[i]? = some x → ∃ u, us[i]? = some u := fun {i x} hi => by
    have : i < us.length := by
      rw [← hd.len]
      exact (List.getElem?_eq_some_iff.mp hi).1
    exact ⟨_, List.getElem?_eq_getElem this⟩
  rw [← hd.len]
  refine el_lcT (fun i => ((wipe σ ws).set i1 (some (us.getD i (.non, .non)).1)).set i2 (some (us.getD i (.non, .non)).2)) f g h hx hz (fun i _ => hw _ _) (fun i x H1 e hi k q => ?_) (fun i x H1 e hi => ?_) (fun i x H1 e hi hf => ?_)
  · obtain ⟨u, hu⟩ := up hi
    obtain ⟨b, rfl, hb⟩ := hd.at_ i x u hi hu
    rw [getD_some hu] at q
    exact ⟨b, _, rfl, ex_t e hb, rfl, u.1, [u.2], rfl, u.2, [], rfl, rfl, q⟩
  · obtain ⟨u, hu⟩ := up hi
    rw [getD_some hu]
    exact ht i u H1 e hu
  · obtain ⟨u, hu⟩ := up hi
    rw [getD_some hu]
    exact he i u H1 e hu hf
theorem prt_get {xs : List V} {us : List (V × V)} (q : Prt K H xs us ds) {i : Nat} {u : V × V} (h : us[i]? = some u) : ∃ d, ds[i]? = some d ∧ Dp K H u.1 (pr1 d) ∧ Dp K H u.2 (pr2 d) := by
  obtain ⟨e, h1, h2⟩ := dpAll_get q.d1 (i := i) (v := u.1) (by rw [List.getElem?_map, h]; rfl)
  obtain ⟨e', h3, h4⟩ := dpAll_get q.d2 (i := i) (v := u.2) (by rw [List.getElem?_map, h]; rfl)
  rw [List.getElem?_map] at h1 h3
  cases hd : ds[i]? with
  | none =>
    rw [hd] at h1
    cases h1
  | some d =>
    rw [hd] at h1 h3
    cases h1
    cases h3
    exact ⟨d, rfl, h2, h4⟩
theorem prt_len {xs : List V} {us : List (V × V)} (q : Prt K H xs us ds) : us.length = ds.length := by
  have := dpAll_len q.d1
  simpa using this
/-- tests over a tuple of pairs -/
theorem el_prtT {a : Addr} {xs : List V} {us : List (V × V)} {tt : TT} {ws : List Nat} {i1 i2 : Nat} (m : PyData → Bool) (h : Ev tl σ H (.ref a)) (hx : SqT K H a xs) (hd : Prt K H xs us ds) (hz : xs.length ≤ 40000)
    (hw : ∀ x y, wipe (((wipe σ ws).set i1 (some x)).set i2 (some y)) ws = wipe σ ws) (ht : ∀ σ' H1, EvT tt σ' H1 true)
    (he : ∀ (i : Nat) (u : V × V) (d : PyData) H1, Ex H H1 → ds[i]? = some d → Dp K H1 u.1 (pr1 d) → Dp K H1 u.2 (pr2 d) → Ev te (((wipe σ ws).set i1 (some u.1)).set i2 (some u.2)) H1 (.bl (m d))) :
    EvL (tLc (iSeq K tl) (gTup K 2 (gCons (gName i1) (gCons (gName i2) gNil))) tt te ws) σ H ((ds.map m).map V.bl) := by
  refine el_is (el_prt (fun _ => true) (fun i => .bl (m (ds.getD i .none))) h hx hd hz hw (fun i u H1 e hu => ht _ _) (fun i u H1 e hu _ => ?_)) ?_
  · obtain ⟨d, h0, h1, h2⟩ := prt_get hd hu
    rw [getD_some h0]
    exact he i u d H1 e h0 (Dp.ext e h1) (Dp.ext e h2)
  · rw [prt_len hd, given_mapT ds .none fun d => .bl (m d), List.map_map]
    rfl
/-- the first parts of a tuple of pairs -/
theorem el_prt1 {a : Addr} {xs : List V} {us : List (V × V)} {tt : TT} {ws : List Nat} {i1 i2 : Nat} (h : Ev tl σ H (.ref a)) (hx : SqT K H a xs) (hd : Prt K H xs us ds) (hz : xs.length ≤ 40000)
    (hw : ∀ x y, wipe (((wipe σ ws).set i1 (some x)).set i2 (some y)) ws = wipe σ ws) (ht : ∀ σ' H1, EvT tt σ' H1 true)
    (he : ∀ (u : V × V) H1, Ev te (((wipe σ ws).set i1 (some u.1)).set i2 (some u.2)) H1 u.1) :
    EvL (tLc (iSeq K tl) (gTup K 2 (gCons (gName i1) (gCons (gName i2) gNil))) tt te ws) σ H (us.map Prod.fst) := by
  refine el_is (el_prt (fun _ => true) (fun i => (us.getD i (.non, .non)).1) h hx hd hz hw (fun i u H1 e hu => ht _ _) (fun i u H1 e hu _ => ?_)) (given_mapT us (.non, .non) Prod.fst)
  rw [getD_some hu]
  exact he u H1
theorem et_true {tt : TT} (h : ∀ σ H (Q : Bool → Hp → Prop), Q true H → tt σ H Q) {H1 : Hp} : EvT tt σ H1 true := fun H2 e2 Q q => h _ _ _ (q H2 (Ex.refl H2))
theorem ev_callL {sp : Sp} {E : XK} {xs : List V} {z : V} (h : EvL ta σ H xs) (hs : ∀ p H1, H1 p = some (.lst xs) → SpV sp [.ref p] H1 z) : Ev (tCall sp [] E (tCons ta tNil)) σ H z := fun H1 e Q q =>
  h H1 e _ fun p H2 _ e2 h2 => hs p H2 h2 H2 (Ex.refl H2) Q (fun H3 e3 => q H3 (e2.trans e3)) E
end
theorem pgK_tup {X : Cx} {es : List Expr} {k : Nat} {pos : Pos} {t : TGs} {n : Nat} {K : PySem.W.Frag} (hK : X.K = K) (hc : X.calm = true) (h : PGs X es t)
    (hn : (assignEach es X.env).length = n := by rfl) (hst : (assignEach es X.env).findIdx? (·.1) = none := by rfl) : PG X (.Tuple es k pos) (gTup K n t) := hK ▸ pg_tup hc h hn hst
end Kb
set_option Elab.async false
set_option linter.all false
set_option maxRecDepth 100000
set_option maxHeartbeats 4000000
namespace Kb
open PySem PySem.Spec PyProof.Rows L2 Evl
/-! ### tuples without a dict of their own: dict(t) of them -/
/-- a tuple of which is known that it has no dict -/
def SqP (H : Hp) (a : Addr) (xs : List V) : Prop := ∃ o : Obj, o.dict = none ∧ H a = some (.frz o (.tup xs))
theorem SqP.t {K : PySem.W.Frag} {H : Hp} {a : Addr} {xs : List V} (h : SqP H a xs) : SqT K H a xs := by
  obtain ⟨o, _, h⟩ := h
  exact .inl (.inr ⟨o, h⟩)
theorem SqP.ext {H H' : Hp} {a : Addr} {xs : List V} (h : SqP H a xs) (e : Ex H H') : SqP H' a xs := by
  obtain ⟨o, ho, h⟩ := h
  exact ⟨o, ho, e _ _ h⟩
def rTupP (K : PySem.W.Frag) : List V → Hp → VK → Prop := fun xs H Q => ∃ p ys, xs = [.ref p] ∧ ((SqL K H p ys ∧ ∀ l o, H l = none → o.dict = none → Q (.ref l) (upd H l (.frz o (.tup ys)))) ∨ (SqT K H p ys ∧ Q (.ref p) H))
section
variable {X : Cx}
theorem call_tupleP : CallR X (.type "tuple") (rTupP X.K) := by
  intro pins s σ H xs us Q I r h
  obtain ⟨p, ys, rfl, h⟩ := h
  obtain ⟨u, rfl, rx⟩ := vals1 r
  cases rx
  rcases h with ⟨hq, q⟩ | ⟨hq, q⟩
  · obtain ⟨its, r', pl, hz⟩ := I.list hq
    have hlen := r'.length
    refine call_tuple_list pl.isList (fun h' kp => ?_) (by simp only [List.size_toArray] <;> omega)
    have I1 : Inv X pins σ H { s with heap := h' } := I.kept (t' := s.toks) kp
    have I2 : Inv X pins σ (upd H h'.objs.size (.frz { cls := .type "tuple", data := .seq its.toArray } (.tup ys))) { s with heap := h'.push { cls := .type "tuple", data := .seq its.toArray } } :=
      I1.laid (t' := s.toks) (fun b o e => Heap.get?_push_of_some _ e) (Nat.le_refl _) (show ObjOk X.prog X.w _ _ _ (.frz _ (.tup ys)) from ⟨Heap.get?_push_size _ rfl, hz, its, r', IsTup.new _ _⟩)
    exact ⟨.ref h'.objs.size, _, I2, rfl, q _ _ (I1.hok.fresh (Nat.le_refl _)) rfl⟩
  · obtain ⟨its, r', pl, hz⟩ := I.tuple hq
    exact call_tuple_same pl ⟨.ref p, H, I, rfl, q⟩
def rDictT (K : PySem.W.Frag) : List V → Hp → VK → Prop := fun xs H Q => ∃ (a : Addr) (ps : List Addr) (kvs : List (Key × V)), xs = [.ref a] ∧ SqP H a (ps.map V.ref) ∧ Paired (fun p kv => SqT K H p [kV kv.1, kv.2]) ps kvs ∧
  ∀ p, H p = none → Q (.ref p) (upd H p (.dK (mergeK [] kvs)))
theorem call_dictT (hcalm : X.calm = true) : CallR X (.type "dict") (rDictT X.K) := by
  intro pins s σ H xs us Q I r q
  obtain ⟨a, ps, kvs, ex, ⟨o, hod, hq⟩, hp, q⟩ := q
  subst ex
  obtain ⟨u, eu, rx⟩ := vals1 r
  subst eu
  cases rx
  obtain ⟨ho, hz, its, rv, ht⟩ : ObjOk X.prog X.w H s.heap a (.frz o (.tup (ps.map V.ref))) := I.hok a _ hq
  obtain ⟨o', ho', hc, n, hdat⟩ := ht
  obtain rfl : o = o' := Option.some.inj (ho.symm.trans ho')
  have ei := refs_at rv
  subst ei
  rw [List.length_map] at hz
  obtain ⟨prs, rel, hl, hpr⟩ := L2.pairs_of I hp
  have hex : ∀ j : Nat, ∃ u : Value, ∀ q, prs[j]? = some q → ∃ b, ps[j]? = some b ∧ IsTup s.heap b #[u, q.2] ∧ keyIs q.1 u = true := fun j => by
    cases hj : prs[j]? with
    | none => exact ⟨.none, fun q e => nomatch e⟩
    | some q =>
      obtain ⟨b, u, e1, e2, e3⟩ := hpr j q hj
      exact ⟨u, fun q' e => by cases e; exact ⟨b, e1, e2, e3⟩⟩
  let uf : Nat → Value := fun j => Classical.choose (hex j)
  have huf : ∀ j q, prs[j]? = some q → ∃ b, ps[j]? = some b ∧ IsTup s.heap b #[uf j, q.2] ∧ keyIs q.1 (uf j) = true := fun j => Classical.choose_spec (hex j)
  let pv : List (Value × Value) := (List.range prs.length).map fun j => (uf j, ((prs[j]?).map (·.2)).getD .none)
  have hpv : pv.length = ps.length := by simp [pv, hl]
  have pat : ∀ (j : Nat) (k v : Value), pv[j]? = some (k, v) → ∃ q, prs[j]? = some q ∧ k = uf j ∧ v = q.2 := fun j k v e => by
    have hj : j < prs.length := by
      have := (List.getElem?_eq_some_iff.mp e).1
      rw [hpv, ← hl] at this
      exact this
    have e2 : pv[j]? = some (uf j, ((prs[j]?).map (·.2)).getD .none) := by
      show ((List.range prs.length).map _)[j]? = _
      rw [List.getElem?_map, List.getElem?_range hj]
      rfl
    rw [e2] at e
    injection e with e
    injection e with e3 e4
    refine ⟨prs[j], List.getElem?_eq_getElem hj, e3.symm, ?_⟩
    rw [List.getElem?_eq_getElem hj] at e4
    exact e4.symm
  refine PySem.call_dict_pairs (knd := mixKind X.prog X.w) (kvs := prs) (PairArg.tuple a (ps.map Value.ref).toArray (fun j => ps.getD j 0) pv) (I.ok.hd hcalm) ⟨⟨o, n, ho, hc, hod, hdat⟩, ?_, ?_⟩ ⟨?_, ?_⟩ (by rw [hpv]; exact hz) fun h' tk hd' k => ?_
  · simp [hpv]
  · intro j k v e
    obtain ⟨q', hq', rfl, rfl⟩ := pat j k v e
    obtain ⟨b, e1, e2, e3⟩ := huf j q' hq'
    have e4 : ps.getD j 0 = b := getD_some e1
    refine ⟨?_, .inl ?_⟩
    · show _ = some (Value.ref (ps.getD j 0))
      rw [e4]
      simp [e1]
    · show IsTup s.heap (ps.getD j 0) _
      rw [e4]
      exact e2
  · rw [hpv, hl]
  · intro i key v e
    obtain ⟨q', hq', rfl, rfl⟩ := pat i key v e
    obtain ⟨b, e1, e2, e3⟩ := huf i q' hq'
    exact ⟨q'.1, hq', e3⟩
  · have hm : (s.heap.objs.size == sysModules) = false := beq_eq_false_iff_ne.mpr (Nat.ne_of_gt I.big)
    have hlen : (mergeK [] kvs).length ≤ sizeLine := by
      refine Nat.le_trans (length_mergeK kvs []) ?_
      rw [List.length_nil, Nat.zero_add, rel.length, hl]
      exact hz
    exact ⟨.ref s.heap.objs.size, upd H s.heap.objs.size (.dK (mergeK [] kvs)), I.laid (t' := tk) (fun b o e => k b o (by simp) e) (Nat.le_refl _) (show ObjOk X.prog X.w _ _ _ (.dK (mergeK [] kvs)) from ⟨hlen, hm, merged [] prs, KV.merge rel .nil, hd'⟩), rfl, q _ (I.hok.fresh (Nat.le_refl _))⟩
end
end Kb
set_option Elab.async false
set_option linter.all false
set_option maxRecDepth 100000
set_option maxHeartbeats 4000000
namespace Kb
open PySem PySem.Spec PyProof.Rows L2
def topS (i : Nat) : Stmt := PySem.Challenge.pw_heapshown_k02_whole_states_changed.main.body.getD i (.Pass ⟨0, 0, 0, 0⟩)
abbrev s_HeapError : Stmt := topS 1
abbrev s_BadText : Stmt := topS 2
abbrev s_BadText_init : Stmt := inClass s_BadText 0
theorem sc_BadText_init : FnScope ["self", "line", "word"] ["self", "line", "word"] (defScope s_BadText_init) := ⟨rfl, rfl, rfl, by decide +kernel, rfl, by decide +kernel, by decide +kernel⟩
abbrev s_BadName : Stmt := topS 3
abbrev s_BadName_init : Stmt := inClass s_BadName 0
theorem sc_BadName_init : FnScope ["self", "name"] ["self", "name"] (defScope s_BadName_init) := ⟨rfl, rfl, rfl, by decide +kernel, rfl, by decide +kernel, by decide +kernel⟩
abbrev s_BadNumber : Stmt := topS 4
abbrev s_BadNumber_init : Stmt := inClass s_BadNumber 0
theorem sc_BadNumber_init : FnScope ["self", "what", "number"] ["self", "what", "number"] (defScope s_BadNumber_init) := ⟨rfl, rfl, rfl, by decide +kernel, rfl, by decide +kernel, by decide +kernel⟩
abbrev s_BadRow : Stmt := topS 5
abbrev s_BadRow_init : Stmt := inClass s_BadRow 0
theorem sc_BadRow_init : FnScope ["self", "what", "row"] ["self", "what", "row"] (defScope s_BadRow_init) := ⟨rfl, rfl, rfl, by decide +kernel, rfl, by decide +kernel, by decide +kernel⟩
abbrev s_NoName : Stmt := topS 6
abbrev s_NoName_init : Stmt := inClass s_NoName 0
theorem sc_NoName_init : FnScope ["self", "name"] ["self", "name"] (defScope s_NoName_init) := ⟨rfl, rfl, rfl, by decide +kernel, rfl, by decide +kernel, by decide +kernel⟩
abbrev s_TakenName : Stmt := topS 7
abbrev s_TakenName_init : Stmt := inClass s_TakenName 0
theorem sc_TakenName_init : FnScope ["self", "name"] ["self", "name"] (defScope s_TakenName_init) := ⟨rfl, rfl, rfl, by decide +kernel, rfl, by decide +kernel, by decide +kernel⟩
abbrev s_Unlike : Stmt := topS 8
abbrev s_Unlike_init : Stmt := inClass s_Unlike 0
theorem sc_Unlike_init : FnScope ["self", "what"] ["self", "what"] (defScope s_Unlike_init) := ⟨rfl, rfl, rfl, by decide +kernel, rfl, by decide +kernel, by decide +kernel⟩
abbrev s_TooMany : Stmt := topS 9
abbrev s_TooMany_init : Stmt := inClass s_TooMany 0
theorem sc_TooMany_init : FnScope ["self", "what", "many", "limit"] ["self", "what", "many", "limit"] (defScope s_TooMany_init) := ⟨rfl, rfl, rfl, by decide +kernel, rfl, by decide +kernel, by decide +kernel⟩
abbrev s_is_plain_name : Stmt := topS 15
theorem sc_is_plain_name : FnScope ["value", "behind", "sign"] ["value"] (defScope s_is_plain_name) := ⟨rfl, rfl, rfl, by decide +kernel, rfl, by decide +kernel, by decide +kernel⟩
abbrev s_rising : Stmt := topS 16
theorem sc_rising : FnScope ["value", "at"] ["value"] (defScope s_rising) := ⟨rfl, rfl, rfl, by decide +kernel, rfl, by decide +kernel, by decide +kernel⟩
abbrev s_is_whole : Stmt := topS 18
theorem sc_is_whole : FnScope ["value"] ["value"] (defScope s_is_whole) := ⟨rfl, rfl, rfl, by decide +kernel, rfl, by decide +kernel, by decide +kernel⟩
abbrev s_is_number : Stmt := topS 19
theorem sc_is_number : FnScope ["value"] ["value"] (defScope s_is_number) := ⟨rfl, rfl, rfl, by decide +kernel, rfl, by decide +kernel, by decide +kernel⟩
abbrev s_State : Stmt := topS 24
abbrev s_State_init : Stmt := inClass s_State 0
theorem sc_State_init : FnScope ["self", "store", "heap", "known", "cells"] ["self", "store", "heap"] (defScope s_State_init) := ⟨rfl, rfl, rfl, by decide +kernel, rfl, by decide +kernel, by decide +kernel⟩
abbrev s_State_eq : Stmt := inClass s_State 1
theorem sc_State_eq : FnScope ["self", "other"] ["self", "other"] (defScope s_State_eq) := ⟨rfl, rfl, rfl, by decide +kernel, rfl, by decide +kernel, by decide +kernel⟩
abbrev s_State_ne : Stmt := inClass s_State 2
theorem sc_State_ne : FnScope ["self", "other"] ["self", "other"] (defScope s_State_ne) := ⟨rfl, rfl, rfl, by decide +kernel, rfl, by decide +kernel, by decide +kernel⟩
abbrev s_is_value : Stmt := topS 25
theorem sc_is_value : FnScope ["value"] ["value"] (defScope s_is_value) := ⟨rfl, rfl, rfl, by decide +kernel, rfl, by decide +kernel, by decide +kernel⟩
abbrev s_is_address : Stmt := topS 26
theorem sc_is_address : FnScope ["value"] ["value"] (defScope s_is_address) := ⟨rfl, rfl, rfl, by decide +kernel, rfl, by decide +kernel, by decide +kernel⟩
abbrev s_is_store : Stmt := topS 27
theorem sc_is_store : FnScope ["value", "row", "name", "number"] ["value"] (defScope s_is_store) := ⟨rfl, rfl, rfl, by decide +kernel, rfl, by decide +kernel, by decide +kernel⟩
abbrev s_is_heap : Stmt := topS 28
theorem sc_is_heap : FnScope ["value", "row", "address", "number"] ["value"] (defScope s_is_heap) := ⟨rfl, rfl, rfl, by decide +kernel, rfl, by decide +kernel, by decide +kernel⟩
abbrev s_need_state : Stmt := topS 29
theorem sc_need_state : FnScope ["what", "value"] ["what", "value"] (defScope s_need_state) := ⟨rfl, rfl, rfl, by decide +kernel, rfl, by decide +kernel, by decide +kernel⟩
abbrev s_need_address : Stmt := topS 30
theorem sc_need_address : FnScope ["address"] ["address"] (defScope s_need_address) := ⟨rfl, rfl, rfl, by decide +kernel, rfl, by decide +kernel, by decide +kernel⟩
abbrev s_need_value : Stmt := topS 31
theorem sc_need_value : FnScope ["value"] ["value"] (defScope s_need_value) := ⟨rfl, rfl, rfl, by decide +kernel, rfl, by decide +kernel, by decide +kernel⟩
abbrev s_stored : Stmt := topS 32
theorem sc_stored : FnScope ["state", "name", "value", "store"] ["state", "name", "value"] (defScope s_stored) := ⟨rfl, rfl, rfl, by decide +kernel, rfl, by decide +kernel, by decide +kernel⟩
abbrev s_with_value : Stmt := topS 33
theorem sc_with_value : FnScope ["state", "name", "value"] ["state", "name", "value"] (defScope s_with_value) := ⟨rfl, rfl, rfl, by decide +kernel, rfl, by decide +kernel, by decide +kernel⟩
abbrev s_with_cell : Stmt := topS 34
theorem sc_with_cell : FnScope ["state", "address", "value", "heap"] ["state", "address", "value"] (defScope s_with_cell) := ⟨rfl, rfl, rfl, by decide +kernel, rfl, by decide +kernel, by decide +kernel⟩
abbrev s_without_cell : Stmt := topS 35
theorem sc_without_cell : FnScope ["state", "address", "row"] ["state", "address"] (defScope s_without_cell) := ⟨rfl, rfl, rfl, by decide +kernel, rfl, by decide +kernel, by decide +kernel⟩
abbrev s_values_by : Stmt := topS 36
theorem sc_values_by : FnScope ["state", "found", "address", "value", "name"] ["state"] (defScope s_values_by) := ⟨rfl, rfl, rfl, by decide +kernel, rfl, by decide +kernel, by decide +kernel⟩
abbrev s_part_by : Stmt := topS 37
theorem sc_part_by : FnScope ["state", "addresses", "row"] ["state", "addresses"] (defScope s_part_by) := ⟨rfl, rfl, rfl, by decide +kernel, rfl, by decide +kernel, by decide +kernel⟩
abbrev s_heap_part : Stmt := topS 38
theorem sc_heap_part : FnScope ["state", "addresses", "known", "heap", "one"] ["state", "addresses"] (defScope s_heap_part) := ⟨rfl, rfl, rfl, by decide +kernel, rfl, by decide +kernel, by decide +kernel⟩
abbrev s_joined_states : Stmt := topS 39
theorem sc_joined_states : FnScope ["one", "other", "heap", "address", "value"] ["one", "other"] (defScope s_joined_states) := ⟨rfl, rfl, rfl, by decide +kernel, rfl, by decide +kernel, by decide +kernel⟩
abbrev s_are_images : Stmt := topS 40
theorem sc_are_images : FnScope ["state", "value", "known", "pair", "one", "other"] ["state", "value"] (defScope s_are_images) := ⟨rfl, rfl, rfl, by decide +kernel, rfl, by decide +kernel, by decide +kernel⟩
abbrev s_moved_by : Stmt := topS 41
theorem sc_moved_by : FnScope ["state", "images", "known", "heap", "address", "value", "name"] ["state", "images"] (defScope s_moved_by) := ⟨rfl, rfl, rfl, by decide +kernel, rfl, by decide +kernel, by decide +kernel⟩
abbrev s_moved_state : Stmt := topS 42
theorem sc_moved_state : FnScope ["state", "images", "known"] ["state", "images"] (defScope s_moved_state) := ⟨rfl, rfl, rfl, by decide +kernel, rfl, by decide +kernel, by decide +kernel⟩
abbrev s__law_pen : Stmt := topS 44
theorem sc__law_pen : FnScope ["script", "fold", "cell"] ["script"] (defScope s__law_pen) := ⟨rfl, rfl, rfl, by decide +kernel, rfl, by decide +kernel, by decide +kernel⟩
abbrev s__law_draw : Stmt := topS 45
theorem sc__law_draw : FnScope ["pen", "many", "cell", "digit", "blend"] ["pen", "many"] (defScope s__law_draw) := ⟨rfl, rfl, rfl, by decide +kernel, rfl, by decide +kernel, by decide +kernel⟩
abbrev s__law_pick : Stmt := topS 46
theorem sc__law_pick : FnScope ["pen", "some"] ["pen", "some"] (defScope s__law_pick) := ⟨rfl, rfl, rfl, by decide +kernel, rfl, by decide +kernel, by decide +kernel⟩
abbrev s__law_shuffled : Stmt := topS 47
theorem sc__law_shuffled : FnScope ["pen", "some", "left", "found", "lap"] ["pen", "some"] (defScope s__law_shuffled) := ⟨rfl, rfl, rfl, by decide +kernel, rfl, by decide +kernel, by decide +kernel⟩
abbrev s__law_is : Stmt := topS 48
theorem sc__law_is : FnScope ["told", "due", "at"] ["told", "due"] (defScope s__law_is) := ⟨rfl, rfl, rfl, by decide +kernel, rfl, by decide +kernel, by decide +kernel⟩
abbrev s__law_caught : Stmt := topS 49
theorem sc__law_caught : FnScope ["action", "e", "found"] ["action"] (defScope s__law_caught) := ⟨rfl, rfl, rfl, by decide +kernel, rfl, by decide +kernel, by decide +kernel⟩
abbrev s__law_raise_so : Stmt := topS 50
theorem sc__law_raise_so : FnScope ["calls", "call", "due", "told"] ["calls"] (defScope s__law_raise_so) := ⟨rfl, rfl, rfl, by decide +kernel, rfl, by decide +kernel, by decide +kernel⟩
abbrev s__law_unlike : Stmt := topS 51
theorem sc__law_unlike : FnScope ["row", "some", "at"] ["row"] (defScope s__law_unlike) := ⟨rfl, rfl, rfl, by decide +kernel, rfl, by decide +kernel, by decide +kernel⟩
abbrev s__law_values : Stmt := topS 52
theorem sc__law_values : FnScope ["state", "found", "address", "value", "name"] ["state"] (defScope s__law_values) := ⟨rfl, rfl, rfl, by decide +kernel, rfl, by decide +kernel, by decide +kernel⟩
abbrev s__law_content : Stmt := topS 53
theorem sc__law_content : FnScope ["heap", "address", "found", "own", "value"] ["heap", "address"] (defScope s__law_content) := ⟨rfl, rfl, rfl, by decide +kernel, rfl, by decide +kernel, by decide +kernel⟩
abbrev s__law_drawn_names : Stmt := topS 54
theorem sc__law_drawn_names : FnScope ["pen", "most", "some", "lap"] ["pen", "most"] (defScope s__law_drawn_names) := ⟨rfl, rfl, rfl, by decide +kernel, rfl, by decide +kernel, by decide +kernel⟩
abbrev s__law_drawn_state : Stmt := topS 55
theorem sc__law_drawn_state : FnScope ["pen", "names", "cells", "addresses", "some", "heap", "row", "lap", "address", "one", "other", "name"] ["pen", "names", "cells"] (defScope s__law_drawn_state) := ⟨rfl, rfl, rfl, by decide +kernel, rfl, by decide +kernel, by decide +kernel⟩
abbrev s__law_state : Stmt := topS 56
theorem sc__law_state : FnScope ["state"] ["state"] (defScope s__law_state) := ⟨rfl, rfl, rfl, by decide +kernel, rfl, by decide +kernel, by decide +kernel⟩
abbrev s__law_plain_state : Stmt := topS 57
theorem sc__law_plain_state : FnScope ["told"] ["told"] (defScope s__law_plain_state) := ⟨rfl, rfl, rfl, by decide +kernel, rfl, by decide +kernel, by decide +kernel⟩
abbrev s__law_images : Stmt := topS 58
theorem sc__law_images : FnScope ["pen", "state", "some", "found", "left", "value"] ["pen", "state"] (defScope s__law_images) := ⟨rfl, rfl, rfl, by decide +kernel, rfl, by decide +kernel, by decide +kernel⟩
abbrev s__law_refusals_right : Stmt := topS 59
theorem sc__law_refusals_right : FnScope ["pen", "made", "state", "bad", "odd", "none", "zero", "cells", "wrong", "images", "calls", "great", "wide", "address", "value", "at"] ["pen", "made", "state"] (defScope s__law_refusals_right) := ⟨rfl, rfl, rfl, by decide +kernel, rfl, by decide +kernel, by decide +kernel⟩
abbrev s_law : Stmt := topS 60
theorem sc_law : FnScope ["script", "pen", "lap", "names", "state", "made", "cells", "name", "value", "address", "due", "gone", "less", "lot", "part", "rest", "images", "table", "led", "told", "row", "own", "number", "one", "other"] ["script"] (defScope s_law) := ⟨rfl, rfl, rfl, by decide +kernel, rfl, by decide +kernel, by decide +kernel⟩
end Kb
set_option Elab.async false
set_option linter.all false
set_option maxRecDepth 100000
set_option maxHeartbeats 4000000
namespace Kb
open PySem PySem.Spec PyProof.Rows L2
/-! ### HeapError.__init__(self, text): the class has none of its own, so it is ValueError's -/
structure HeC (K : PySem.W.Frag) (mg : Str → Option Value) (HE : Addr) : Prop where
  g : mg "HeapError" = some (.ref HE)
  ga : PySem.W.specialIn K (.ref HE) "__getattribute__" = some (some (.builtin "type.__getattribute__"))
  rd : PySem.W.readsIn K HE (.type "type") = true
  ini : PySem.W.findCls K (.ref HE) (.type "type") "__init__" = some (.val (.builtin "ValueError.__init__"))
section
variable {X : Cx} {e : Expr} {es : List Expr} {ta : TA} {p1 p2 pos : Pos} {HE : Addr}
theorem pe_heinit {pl : Sem Bool} (T : HeC X.K X.mg HE) (hg : Gl X "HeapError") (ha : PA X (e :: es) ta)
    (hc : eval (.Call (.Attribute (.Name "HeapError" p1) "__init__" p2) (e :: es) [] pos) X.env = (do
      let ov ← eval (.Name "HeapError" p1) X.env
      standAt p2.atName
      let (f, first) ← holding [ov] (getMethod ov "__init__" pl)
      callWith pos f first (backTo pos (starEach (e :: es) X.env)) (backToKw pos (keywordEach [] X.env))) := by rfl)
    (he : starEach (e :: es) X.env = (false, eval e X.env) :: starEach es X.env := by rfl) (hpl : (backTo pos (starEach es X.env)).any (·.1) = false := by rfl) :
    PE X (.Call (.Attribute (.Name "HeapError" p1) "__init__" p2) (e :: es) [] pos) (tVeI X.K ta) := by
  refine ⟨fun pins s σ H Q I h => ?_⟩
  refine PySem.W.methodCall_KW (ld_glob I hg T.g ?_ (by decide)) hc
  refine PySem.W.method_cls I.kIn T.ga (PySem.W.cls_value I.kIn T.rd T.ini (by decide +kernel) ?_)
  show wpAny _ _ (callWith pos (Value.builtin "ValueError.__init__") [] (backTo pos (starEach (e :: es) X.env)) []) _ _ _
  refine PyProof.Rows.callWith_method1 (thn (ha.run pos pins _ σ H _ (I.tok _) h) fun us s1 ⟨vs, H1, I1, r1, a, C, ws, ev, hl, T, ea, q⟩ => ?_) he hpl
  subst ev
  cases r1 with
  | @cons _ u0 _ ur ra rw' =>
    obtain rfl : u0 = Value.ref a := ra
    have hlen : ur.length ≤ sizeLine := by
      rw [← Paired.length rw', sizeLine_eq]
      omega
    exact oinit_ok T I1 ea hlen fun s' J => ⟨.non, H1, J, rfl, q⟩
end
/-! ### an exception made without arguments, its __init__ storing nothing -/
def tMkN (C : Addr) (sp : Sp) : L2.St → Hp → XK → Prop := fun σ H Q => ∀ a, H a = none → sp [.ref a] (upd H a (exo a C none)) (fun v H2 => v = .non ∧ H2 a = some (exo a C none) ∧ Q (.ref C) none (del H2 a)) (fun _ _ _ => False)
section
variable {X : Cx} {p pos : Pos}
theorem mk_endN {pins : List (Addr × Obj)} {σ : L2.St} {H1 H2 : Hp} {Q : XK} {hp hp2 h2 : Heap} {g1 g2 : Array GenState} {d1 d2 : Drawn} {t1 t2 : Nat} {os1 os2 : OsState} {a C : Addr} (T : Raises X (.ref C)) (I1 : Inv X pins σ H1 ⟨hp, g1, d1, t1, os1⟩)
    (ha : hp.objs.size ≤ a) (k : ∀ b o, hp.get? b = some o → hp2.get? b = some o) (un : Un (frs X.stack) [] (upd H1 a (exo a C none)) H2 hp2 h2) (hok : HOk X.prog X.w H2 h2) (ho : os2 = os1) (hb : AllBare g2)
    (ea : H2 a = some (exo a C none)) (q : Q (.ref C) none (del H2 a)) : MkP X pins σ Q (.ref a) ⟨h2, g2, d2, t2, os2⟩ := by
  obtain ⟨t0, hoe⟩ := exo_at hok ea
  have hn : H1 a = none := I1.hok.fresh ha
  obtain ⟨G, g1', g2'⟩ := restrict h2 fun b => decide (b ≠ a)
  have gk : ∀ b, b ≠ a → G.get? b = h2.get? b := fun b hb => g1' b (decide_eq_true hb)
  have ge : G.get? a = none := g2' a (by simp)
  have nha : ∀ {b : Addr} {o : Obj}, hp.get? b = some o → b ≠ a := fun {b o} z => Nat.ne_of_lt (Nat.lt_of_lt_of_le (Heap.lt_size z) ha)
  have up : ∀ {b : Addr}, b ≠ a → H1 b = none → upd H1 a (exo a C none) b = none := fun {b} hb n => by rw [upd_ne hb]; exact n
  have U : Un (frs X.stack) [] H1 (del H2 a) hp G := {
    keep := fun b o z n hf hx => by
      rw [gk b (nha z)]
      exact un.keep b o (k b o z) (up (nha z) n) hf hx
    slot := fun b o z n hf hx => by
      rw [gk b (nha z)]
      exact un.slot b o (k b o z) (up (nha z) n) hf hx
    free := fun b o z n hx => by
      rw [del_ne (nha z)]
      exact un.free b o (k b o z) (up (nha z) n) hx
    there := fun b o z hx => by
      rw [gk b (nha z)]
      exact un.there b o (k b o z) hx
    tups := fun b xs z => by
      rw [del_ne (ne_of_none z hn)]
      exact un.tups b xs (by rw [upd_ne (ne_of_none z hn)]; exact z)
    frzs := fun b o v z => by
      rw [del_ne (ne_of_none z hn)]
      exact un.frzs b o v (by rw [upd_ne (ne_of_none z hn)]; exact z)
    tbls := fun b ps z => by
      rw [del_ne (ne_of_none z hn)]
      exact un.tbls b ps (by rw [upd_ne (ne_of_none z hn)]; exact z) }
  have hok3 : HOk X.prog X.w (del H2 a) G := fun b o z => by
    have hba : b ≠ a := fun e => by
      rw [e, del_same] at z
      cases z
    rw [del_ne hba] at z
    have noa : ∀ {c : Addr}, H2 c = some (.own b) → c ≠ a := fun {c} hc => at_ne ea hc exo_own
    exact (hok b o z).stay (fun c v hc y => by
        have hca : c ≠ a := by
          rcases hc with hc | hc
          · rw [hc]
            exact hba
          · exact noa hc
        rw [gk c hca]
        exact y)
      (fun c hc => by rw [del_ne (noa hc)]; exact hc) (fun c xs hc => by rw [del_ne (at_ne ea hc exo_tup)]; exact hc)
  have J : Inv X pins σ (del H2 a) ⟨G, g2, d2, t2, os2⟩ := I1.call' (ch := []) ho U hok3 hb (fun b z => absurd z (by simp))
  refine ⟨a, _, _, ⟨G, g2, d2, t2, os2⟩, _, .ref C, none, rfl, J, fun b o z => ?_, ge, hoe, ⟨rfl, rfl⟩, rfl, rfl, del_same, rfl, hb, T, q⟩
  by_cases hba : b = a
  · rw [hba, ge] at z
    cases z
  · exact (gk b hba).symm.trans z
theorem pmk_oexN {CX : CXT} {x : Str} {C fI : Addr} {k : Nat} {fd : FuncData} {ps : List Str} {sp : Sp} (T : OexC X.K C) (iC : PySem.W.findIn X.K (.ref C) "__init__" = some (some (.ref fI))) (tI : PySem.W.typeIn X.K (.ref fI) = some (.type "function"))
    (F1 : FnOk X.prog X.w X.K X.mg X.base CX k fI fd ps sp) (hr : Room (k + 1) X.A) (hb : L2.Binds X.K fd ps []) (hx : Passes CX X (fun _ _ _ => False)) (hg : Gl X x) (hm : X.mg x = some (.ref C)) (hdb : (x == ("__debug__" : Str)) = false := by decide) :
    PMk X (.Call (.Name x p) [] [] pos) (tMkN C sp) := by
  intro pins s σ H Q I h
  obtain ⟨nm, q, N, bs, bm, sn, sub, ab, col, dd, k0, k1, k2, k3, k5, hC, hbm⟩ := T.cls
  refine wpAny_Call_Name_kw (ld_glob I hg hm ?_ hdb)
  refine PySem.W.callWith_K0 I.kIn T.kC ?_
  show wpAny _ _ (call (.ref C) []) _ _ _
  obtain ⟨hp, g, dr, tk, os⟩ := s
  have hsz : hp.objs.size ≤ hp.objs.size + 1 := Nat.le_succ _
  have hn : H (hp.objs.size + 1) = none := I.hok.fresh hsz
  have hq := h (hp.objs.size + 1) hn
  have kk : ∀ b o, hp.get? b = some o → ((hp.push (PySem.W.kdv_tup [])).push (PySem.HandSPX.excO C hp.objs.size)).get? b = some o := fun b o e => Heap.get?_push_of_some _ (Heap.get?_push_of_some _ e)
  have hget : ((hp.push (PySem.W.kdv_tup [])).push (PySem.HandSPX.excO C hp.objs.size)).get? (hp.objs.size + 1) = some (PySem.HandSPX.excO C hp.objs.size) := by heap_get
  have I2 : Inv X pins σ (upd H (hp.objs.size + 1) (exo (hp.objs.size + 1) C none)) ⟨(hp.push (PySem.W.kdv_tup [])).push (PySem.HandSPX.excO C hp.objs.size), g, dr, tk, os⟩ :=
    I.laid (t' := tk) (a := hp.objs.size + 1) (o := exo (hp.objs.size + 1) C none) (h' := (hp.push (PySem.W.kdv_tup [])).push (PySem.HandSPX.excO C hp.objs.size)) kk hsz (exo_ok hget)
  have r2 : Vals [V.ref (hp.objs.size + 1)] [Value.ref (hp.objs.size + 1)] := .cons rfl .nil
  have hl : ([Value.ref (hp.objs.size + 1)] ++ []).length = ps.length := by
    rw [← F1.len _ _ _ _ hq]
    rfl
  have hus : ([] : List Value).length ≤ sizeLine := Nat.zero_le _
  refine wpAny_call (PySem.HandSPX.call_own F.excBase_ValueError (fun Y => PySem.HandSPX.refsVE_contains Y bm hbm) (I.kIn _ _ hC) (PySem.W.looks_findIn I.kIn iC) (fun self => PySem.W.bind_fn I.kIn self tI) hus
    (codeAny_mono (F1.run _ X.stack _ _ ⟨[Value.ref (hp.objs.size + 1)], []⟩ [Value.ref (hp.objs.size + 1)] _ _ (fun _ _ _ => False) (hr.make C [] []) (I2.env0.make C [] []) (hb _ [Value.ref (hp.objs.size + 1)] I2.kIn hl) r2 hq) fun r s' hq' => ?_))
  cases r with
  | error er => exact hx pins σ _ _ er s' I2 hq'
  | ok fl =>
    cases fl with
    | ret u =>
      obtain ⟨v, H2, os2, bare2, un2, hok2, rv, ev, ea, q2⟩ := hq'
      subst ev
      obtain ⟨h2, g2, d2, t2, os'⟩ := s'
      exact ⟨rv, mk_endN (raises_own T.exC T.tyC) I hsz kk un2 hok2 os2 bare2 ea q2⟩
    | next => exact False.elim hq'
    | brk => exact False.elim hq'
    | cont => exact False.elim hq'
end
end Kb
set_option Elab.async false
set_option linter.all false
set_option maxRecDepth 100000
set_option maxHeartbeats 4000000
namespace Kb
open PySem PySem.Spec PyProof.Rows L2
/-! ### what an __init__ leaves -/
def spI0 (C : Addr) : Sp := fun vs H Q _ => ∃ a, vs = [.ref a] ∧ H a = some (exo a C none) ∧ Q .non H
def spI1 (C : Addr) (f1 : Str) : Sp := fun vs H Q _ => ∃ a v1, vs = [.ref a, v1] ∧ H a = some (exo a C none) ∧ ∀ d, H d = none → d ≠ a → Q .non (upd (upd H d (exd d [(f1, v1)])) a (exo a C (some d)))
def spI2 (C : Addr) (f1 f2 : Str) : Sp := fun vs H Q _ => ∃ a v1 v2, vs = [.ref a, v1, v2] ∧ H a = some (exo a C none) ∧ ∀ d, H d = none → d ≠ a →
  Q .non (upd (upd (upd H d (exd d [(f1, v1)])) a (exo a C (some d))) d (exd d [(f2, v2), (f1, v1)]))
def spI3 (C : Addr) (f1 f2 f3 : Str) : Sp := fun vs H Q _ => ∃ a v1 v2 v3, vs = [.ref a, v1, v2, v3] ∧ H a = some (exo a C none) ∧ ∀ d, H d = none → d ≠ a →
  Q .non (upd (upd (upd (upd H d (exd d [(f1, v1)])) a (exo a C (some d))) d (exd d [(f2, v2), (f1, v1)])) d (exd d [(f3, v3), (f2, v2), (f1, v1)]))
/-- a class of the text's errors: what is known of it -/
structure XC (P : Program) (w : World) (K : PySem.W.Frag) (mg : Str → Option Value) (base : Heap) (x : Str) (C : Addr) (ps : List Str) (sp : Sp) : Prop where
  T : OexC K C
  g : mg x = some (.ref C)
  ini : ∃ (fI : Addr) (fd : FuncData), PySem.W.findIn K (.ref C) "__init__" = some (some (.ref fI)) ∧ PySem.W.typeIn K (.ref fI) = some (.type "function") ∧ FnOk P w K mg base CX0 1 fI fd ps sp ∧ L2.Binds K fd ps []
section
variable {P : Program} {w : World} {K : PySem.W.Frag} {mg : Str → Option Value} {base : Heap} {f C HE : Addr} {fd : FuncData}
theorem ok_BadText (F : Fun K "__init__" "BadText.__init__" s_BadText_init f fd) (HE1 : HeC K mg HE) (T : OexC K C) (n1 : PySem.W.findIn K (.ref C) "line" = some none) (n2 : PySem.W.findIn K (.ref C) "word" = some none) : FnOk P w K mg base CX0 1 f fd ["self", "line", "word"] (spI2 C "line" "word") := by
  refine F.ok sc_BadText_init (fun vs H Q E h => ?_) (fun cdv A outer s H vs Q E hr h => ⟨_, pss_cons (ps_expr (pe_heinit HE1 rfl (pa_cons (pv 0) (pa_cons pe_str pa_nil)))) (pss_cons (ps_ost (pv 0) (pv 1)) (pss_one (ps_ost (pv 0) (pv 2)))), ?_⟩)
  · obtain ⟨a, v1, v2, rfl, _⟩ := h
    rfl
  obtain ⟨a, v1, v2, rfl, ha, hQ⟩ := h
  refine ⟨_, rfl, a, C, [.str _], rfl, (show 1 ≤ 1000 by decide), T, ha, ?_⟩
  refine ⟨_, rfl, _, rfl, a, C, rfl, T, n1, .inl ⟨ha, fun d hd ne => ?_⟩⟩
  refine ⟨_, rfl, _, rfl, a, C, rfl, T, n2, .inr ⟨d, [("line", v1)], upd_same, by rw [upd_ne ne]; exact upd_same, (show 1 ≤ 900 by decide), hQ d hd ne⟩⟩
theorem ok_BadName (F : Fun K "__init__" "BadName.__init__" s_BadName_init f fd) (HE1 : HeC K mg HE) (T : OexC K C) (n1 : PySem.W.findIn K (.ref C) "name" = some none) : FnOk P w K mg base CX0 1 f fd ["self", "name"] (spI1 C "name") := by
  refine F.ok sc_BadName_init (fun vs H Q E h => ?_) (fun cdv A outer s H vs Q E hr h => ⟨_, pss_cons (ps_expr (pe_heinit HE1 rfl (pa_cons (pv 0) (pa_cons pe_str pa_nil)))) (pss_one (ps_ost (pv 0) (pv 1))), ?_⟩)
  · obtain ⟨a, v1, rfl, _⟩ := h
    rfl
  obtain ⟨a, v1, rfl, ha, hQ⟩ := h
  refine ⟨_, rfl, a, C, [.str _], rfl, (show 1 ≤ 1000 by decide), T, ha, ?_⟩
  refine ⟨_, rfl, _, rfl, a, C, rfl, T, n1, .inl ⟨ha, fun d hd ne => hQ d hd ne⟩⟩
theorem ok_BadNumber (F : Fun K "__init__" "BadNumber.__init__" s_BadNumber_init f fd) (HE1 : HeC K mg HE) (T : OexC K C) (n1 : PySem.W.findIn K (.ref C) "what" = some none) (n2 : PySem.W.findIn K (.ref C) "number" = some none) : FnOk P w K mg base CX0 1 f fd ["self", "what", "number"] (spI2 C "what" "number") := by
  refine F.ok sc_BadNumber_init (fun vs H Q E h => ?_) (fun cdv A outer s H vs Q E hr h => ⟨_, pss_cons (ps_expr (pe_heinit HE1 rfl (pa_cons (pv 0) (pa_cons pe_str pa_nil)))) (pss_cons (ps_ost (pv 0) (pv 1)) (pss_one (ps_ost (pv 0) (pv 2)))), ?_⟩)
  · obtain ⟨a, v1, v2, rfl, _⟩ := h
    rfl
  obtain ⟨a, v1, v2, rfl, ha, hQ⟩ := h
  refine ⟨_, rfl, a, C, [.str _], rfl, (show 1 ≤ 1000 by decide), T, ha, ?_⟩
  refine ⟨_, rfl, _, rfl, a, C, rfl, T, n1, .inl ⟨ha, fun d hd ne => ?_⟩⟩
  refine ⟨_, rfl, _, rfl, a, C, rfl, T, n2, .inr ⟨d, [("what", v1)], upd_same, by rw [upd_ne ne]; exact upd_same, (show 1 ≤ 900 by decide), hQ d hd ne⟩⟩
theorem ok_BadRow (F : Fun K "__init__" "BadRow.__init__" s_BadRow_init f fd) (HE1 : HeC K mg HE) (T : OexC K C) (n1 : PySem.W.findIn K (.ref C) "what" = some none) (n2 : PySem.W.findIn K (.ref C) "row" = some none) : FnOk P w K mg base CX0 1 f fd ["self", "what", "row"] (spI2 C "what" "row") := by
  refine F.ok sc_BadRow_init (fun vs H Q E h => ?_) (fun cdv A outer s H vs Q E hr h => ⟨_, pss_cons (ps_expr (pe_heinit HE1 rfl (pa_cons (pv 0) (pa_cons pe_str pa_nil)))) (pss_cons (ps_ost (pv 0) (pv 1)) (pss_one (ps_ost (pv 0) (pv 2)))), ?_⟩)
  · obtain ⟨a, v1, v2, rfl, _⟩ := h
    rfl
  obtain ⟨a, v1, v2, rfl, ha, hQ⟩ := h
  refine ⟨_, rfl, a, C, [.str _], rfl, (show 1 ≤ 1000 by decide), T, ha, ?_⟩
  refine ⟨_, rfl, _, rfl, a, C, rfl, T, n1, .inl ⟨ha, fun d hd ne => ?_⟩⟩
  refine ⟨_, rfl, _, rfl, a, C, rfl, T, n2, .inr ⟨d, [("what", v1)], upd_same, by rw [upd_ne ne]; exact upd_same, (show 1 ≤ 900 by decide), hQ d hd ne⟩⟩
theorem ok_NoName (F : Fun K "__init__" "NoName.__init__" s_NoName_init f fd) (HE1 : HeC K mg HE) (T : OexC K C) (n1 : PySem.W.findIn K (.ref C) "name" = some none) : FnOk P w K mg base CX0 1 f fd ["self", "name"] (spI1 C "name") := by
  refine F.ok sc_NoName_init (fun vs H Q E h => ?_) (fun cdv A outer s H vs Q E hr h => ⟨_, pss_cons (ps_expr (pe_heinit HE1 rfl (pa_cons (pv 0) (pa_cons pe_str pa_nil)))) (pss_one (ps_ost (pv 0) (pv 1))), ?_⟩)
  · obtain ⟨a, v1, rfl, _⟩ := h
    rfl
  obtain ⟨a, v1, rfl, ha, hQ⟩ := h
  refine ⟨_, rfl, a, C, [.str _], rfl, (show 1 ≤ 1000 by decide), T, ha, ?_⟩
  refine ⟨_, rfl, _, rfl, a, C, rfl, T, n1, .inl ⟨ha, fun d hd ne => hQ d hd ne⟩⟩
theorem ok_TakenName (F : Fun K "__init__" "TakenName.__init__" s_TakenName_init f fd) (HE1 : HeC K mg HE) (T : OexC K C) (n1 : PySem.W.findIn K (.ref C) "name" = some none) : FnOk P w K mg base CX0 1 f fd ["self", "name"] (spI1 C "name") := by
  refine F.ok sc_TakenName_init (fun vs H Q E h => ?_) (fun cdv A outer s H vs Q E hr h => ⟨_, pss_cons (ps_expr (pe_heinit HE1 rfl (pa_cons (pv 0) (pa_cons pe_str pa_nil)))) (pss_one (ps_ost (pv 0) (pv 1))), ?_⟩)
  · obtain ⟨a, v1, rfl, _⟩ := h
    rfl
  obtain ⟨a, v1, rfl, ha, hQ⟩ := h
  refine ⟨_, rfl, a, C, [.str _], rfl, (show 1 ≤ 1000 by decide), T, ha, ?_⟩
  refine ⟨_, rfl, _, rfl, a, C, rfl, T, n1, .inl ⟨ha, fun d hd ne => hQ d hd ne⟩⟩
theorem ok_Unlike (F : Fun K "__init__" "Unlike.__init__" s_Unlike_init f fd) (HE1 : HeC K mg HE) (T : OexC K C) (n1 : PySem.W.findIn K (.ref C) "what" = some none) : FnOk P w K mg base CX0 1 f fd ["self", "what"] (spI1 C "what") := by
  refine F.ok sc_Unlike_init (fun vs H Q E h => ?_) (fun cdv A outer s H vs Q E hr h => ⟨_, pss_cons (ps_expr (pe_heinit HE1 rfl (pa_cons (pv 0) (pa_cons pe_str pa_nil)))) (pss_one (ps_ost (pv 0) (pv 1))), ?_⟩)
  · obtain ⟨a, v1, rfl, _⟩ := h
    rfl
  obtain ⟨a, v1, rfl, ha, hQ⟩ := h
  refine ⟨_, rfl, a, C, [.str _], rfl, (show 1 ≤ 1000 by decide), T, ha, ?_⟩
  refine ⟨_, rfl, _, rfl, a, C, rfl, T, n1, .inl ⟨ha, fun d hd ne => hQ d hd ne⟩⟩
theorem ok_TooMany (F : Fun K "__init__" "TooMany.__init__" s_TooMany_init f fd) (HE1 : HeC K mg HE) (T : OexC K C) (n1 : PySem.W.findIn K (.ref C) "what" = some none) (n2 : PySem.W.findIn K (.ref C) "many" = some none) (n3 : PySem.W.findIn K (.ref C) "limit" = some none) : FnOk P w K mg base CX0 1 f fd ["self", "what", "many", "limit"] (spI3 C "what" "many" "limit") := by
  refine F.ok sc_TooMany_init (fun vs H Q E h => ?_) (fun cdv A outer s H vs Q E hr h => ⟨_, pss_cons (ps_expr (pe_heinit HE1 rfl (pa_cons (pv 0) (pa_cons pe_str pa_nil)))) (pss_cons (ps_ost (pv 0) (pv 1)) (pss_cons (ps_ost (pv 0) (pv 2)) (pss_one (ps_ost (pv 0) (pv 3))))), ?_⟩)
  · obtain ⟨a, v1, v2, v3, rfl, _⟩ := h
    rfl
  obtain ⟨a, v1, v2, v3, rfl, ha, hQ⟩ := h
  refine ⟨_, rfl, a, C, [.str _], rfl, (show 1 ≤ 1000 by decide), T, ha, ?_⟩
  refine ⟨_, rfl, _, rfl, a, C, rfl, T, n1, .inl ⟨ha, fun d hd ne => ?_⟩⟩
  refine ⟨_, rfl, _, rfl, a, C, rfl, T, n2, .inr ⟨d, [("what", v1)], upd_same, by rw [upd_ne ne]; exact upd_same, (show 1 ≤ 900 by decide), ?_⟩⟩
  refine ⟨_, rfl, _, rfl, a, C, rfl, T, n3, .inr ⟨d, [("many", v2), ("what", v1)], by rw [upd_ne (Ne.symm ne)]; exact upd_same, upd_same, (show 2 ≤ 900 by decide), hQ d hd ne⟩⟩
end
end Kb
set_option Elab.async false
set_option linter.all false
set_option maxRecDepth 100000
set_option maxHeartbeats 4000000
namespace Kb
open PySem PySem.Spec PyProof.Rows L2 Evl
/-- what is wished of an error: its class, its dict, the heap -/
def Rs (E : XK) (H : Hp) (C : Addr) (fs : List (Str × V)) : Prop := ∀ d H', H d = none → Ex H H' → H' d = some (.xd fs) → E (.ref C) (some d) H'
/-- an expression that raises -/
def Rx (te : TE) (σ : L2.St) (H : Hp) : Prop := ∀ H1, Ex H H1 → ∀ Q : VK, te σ H1 Q
/-- a value with a property -/
def EvD (te : TE) (σ : L2.St) (H : Hp) (Φ : V → Hp → Prop) : Prop := ∀ H1, Ex H H1 → ∀ Q : VK, (∀ v H2, Ex H1 H2 → Φ v H2 → Q v H2) → te σ H1 Q
section
variable {K : PySem.W.Frag} {σ : L2.St} {H H1 : Hp} {te ta tb tl : TE} {v v1 v2 v3 : V} {E : XK} {C : Addr} {fs : List (Str × V)} {f1 f2 f3 : Str} {tr : TA} {D : Ends}
theorem Rs.ext (h : Rs E H C fs) (e : Ex H H1) : Rs E H1 C fs := fun d H' hd e2 hx => h d H' (fresh_back e hd) (e.trans e2) hx
theorem ex_of {H H' : Hp} {a d : Addr} (ha : H a = none) (hd : H d = none) (h : ∀ b, b ≠ a → b ≠ d → H' b = H b) : Ex H H' := fun b o e => by
  rw [h b (ne_of_none e ha) (ne_of_none e hd)]
  exact e
theorem upd_none {H : Hp} {a d : Addr} {o : HO} (h : upd H a o d = none) : d ≠ a ∧ H d = none := by
  by_cases e : d = a
  · rw [e, upd_same] at h
    cases h
  · rw [upd_ne e] at h
    exact ⟨e, h⟩
theorem rs_1 (h : EvA tr σ H [v1]) (hR : Rs E H C [(f1, v1)]) : tMkO C (spI1 C f1) [] tr σ H (fun cls d H' => E cls d H') := by
  refine h H (Ex.refl H) _ fun H1 e1 => ⟨(show 1 ≤ 1000 by decide), fun a ha => ⟨a, v1, rfl, upd_same, fun d hd ne => ?_⟩⟩
  have hdH := (upd_none hd).2
  refine ⟨rfl, d, [(f1, v1)], upd_same, by rw [upd_ne ne]; exact upd_same, hdH, ?_⟩
  refine hR.ext e1 d _ hdH (ex_of ha hdH fun b hb hb2 => ?_) upd_same
  simp only [upd_ne hb2, del_ne hb, upd_ne hb]
theorem rs_2 (h : EvA tr σ H [v1, v2]) (hR : Rs E H C [(f2, v2), (f1, v1)]) : tMkO C (spI2 C f1 f2) [] tr σ H (fun cls d H' => E cls d H') := by
  refine h H (Ex.refl H) _ fun H1 e1 => ⟨(show 2 ≤ 1000 by decide), fun a ha => ⟨a, v1, v2, rfl, upd_same, fun d hd ne => ?_⟩⟩
  have hdH := (upd_none hd).2
  refine ⟨rfl, d, [(f2, v2), (f1, v1)], by rw [upd_ne (Ne.symm ne)]; exact upd_same, upd_same, hdH, ?_⟩
  refine hR.ext e1 d _ hdH (ex_of ha hdH fun b hb hb2 => ?_) upd_same
  simp only [upd_ne hb2, del_ne hb, upd_ne hb]
theorem rs_3 (h : EvA tr σ H [v1, v2, v3]) (hR : Rs E H C [(f3, v3), (f2, v2), (f1, v1)]) : tMkO C (spI3 C f1 f2 f3) [] tr σ H (fun cls d H' => E cls d H') := by
  refine h H (Ex.refl H) _ fun H1 e1 => ⟨(show 3 ≤ 1000 by decide), fun a ha => ⟨a, v1, v2, v3, rfl, upd_same, fun d hd ne => ?_⟩⟩
  have hdH := (upd_none hd).2
  refine ⟨rfl, d, [(f3, v3), (f2, v2), (f1, v1)], by rw [upd_ne (Ne.symm ne), upd_ne (Ne.symm ne)]; exact upd_same, upd_same, hdH, ?_⟩
  refine hR.ext e1 d _ hdH (ex_of ha hdH fun b hb hb2 => ?_) upd_same
  simp only [upd_ne hb2, del_ne hb, upd_ne hb]
theorem rx_call {sp : Sp} {dvs vs : List V} (h : EvA tr σ H vs) (hs : ∀ H1, Ex H H1 → ∀ Q : VK, sp (vs ++ dvs) H1 Q E) : Rx (tCall sp dvs E tr) σ H := fun H1 e Q => h H1 e _ fun H2 e2 => hs H2 (e.trans e2) _
/-- arguments of which one raises -/
def RxA (ta : TA) (σ : L2.St) (H : Hp) : Prop := ∀ H1, Ex H H1 → ∀ Q : List V → Hp → Prop, ta σ H1 Q
theorem rxa_hd (h : Rx te σ H) : RxA (tCons te tr) σ H := fun H1 e Q => h H1 e _
theorem rxa_tl (h : Ev te σ H v) (h2 : RxA tr σ H) : RxA (tCons te tr) σ H := fun H1 e Q => h H1 e _ fun H2 e2 => h2 H2 (e.trans e2) _
theorem rx_callA {sp : Sp} {dvs : List V} (h : RxA tr σ H) : Rx (tCall sp dvs E tr) σ H := fun H1 e Q => h H1 e _
theorem rx_cb {r : List V → Hp → VK → Prop} (h : RxA tr σ H) : Rx (tCB r tr) σ H := fun H1 e Q => h H1 e _
theorem rx_opL {r : R2} (h : Rx ta σ H) : Rx (tOp r ta tb) σ H := fun H1 e Q => h H1 e _
theorem r_drop (h : Rx te σ H) : tDrop te D σ H := h H (Ex.refl H) _
theorem r_ret (h : Rx te σ H) : tRet te D σ H := h H (Ex.refl H) _
theorem r_asg {g : TG} (h : Rx te σ H) : tAsg te g D σ H := h H (Ex.refl H) _
theorem r_seq {t u : TS} (h : ∀ D, t D σ H) : tSeq t u D σ H := h _
theorem ev_EvD {Φ : V → Hp → Prop} (h : Ev te σ H v) (hΦ : ∀ H1, Ex H H1 → Φ v H1) : EvD te σ H Φ := fun H1 e Q q => h H1 e Q fun H2 e2 => q v H2 e2 (hΦ H2 (e.trans e2))
theorem EvD.imp {Φ Ψ : V → Hp → Prop} (h : EvD te σ H Φ) (hi : ∀ v H1, Ex H H1 → Φ v H1 → Ψ v H1) : EvD te σ H Ψ := fun H1 e Q q => h H1 e Q fun v H2 e2 p => q v H2 e2 (hi v H2 (e.trans e2) p)
theorem evd_call {sp : Sp} {dvs vs : List V} {Φ : V → Hp → Prop} (h : EvA tr σ H vs) (hs : ∀ H1, Ex H H1 → ∀ Q : VK, (∀ v H2, Ex H1 H2 → Φ v H2 → Q v H2) → ∀ E : XK, sp (vs ++ dvs) H1 Q E) : EvD (tCall sp dvs E tr) σ H Φ := fun H1 e Q q =>
  h H1 e _ fun H2 e2 => hs H2 (e.trans e2) Q (fun v H3 e3 p => q v H3 (e2.trans e3) p) E
theorem sd_asg {i : Nat} {Φ : V → Hp → Prop} (h : EvD te σ H Φ) (k : ∀ v H1, Ex H H1 → Φ v H1 → D.nx (σ.set i (some v)) H1) : tAsg te (gName i) D σ H := h H (Ex.refl H) _ fun v H1 e p => k v H1 e p
theorem qd_asg {i : Nat} {tz : TS} {Φ : V → Hp → Prop} (h : EvD te σ H Φ) (k : ∀ v H1, Ex H H1 → Φ v H1 → tz D (σ.set i (some v)) H1) : tSeq (tAsg te (gName i)) tz D σ H := sd_asg (D := { D with nx := tz D }) h k
theorem sd_ret {Φ : V → Hp → Prop} (h : EvD te σ H Φ) (k : ∀ v H1, Ex H H1 → Φ v H1 → D.rt v H1) : tRet te D σ H := h H (Ex.refl H) _ k
/-- arguments, one with a property -/
def EvDA (ta : TA) (σ : L2.St) (H : Hp) (Φ : List V → Hp → Prop) : Prop := ∀ H1, Ex H H1 → ∀ Q : List V → Hp → Prop, (∀ vs H2, Ex H1 H2 → Φ vs H2 → Q vs H2) → ta σ H1 Q
theorem eda_nil : EvDA tNil σ H (fun vs _ => vs = []) := fun H1 _ Q q => q [] H1 (Ex.refl H1) rfl
theorem eda_cons {Φ : V → Hp → Prop} {Ψ : List V → Hp → Prop} (h : EvD te σ H Φ) (hm : ∀ v H1 H2, Ex H1 H2 → Φ v H1 → Φ v H2) (h2 : EvDA tr σ H Ψ) : EvDA (tCons te tr) σ H (fun vs H1 => ∃ v r, vs = v :: r ∧ Φ v H1 ∧ Ψ r H1) := fun H1 e Q q =>
  h H1 e _ fun v H2 e2 p => h2 H2 (e.trans e2) _ fun r H3 e3 p3 => q (v :: r) H3 (e2.trans e3) ⟨v, r, rfl, hm v H2 H3 e3 p, p3⟩
theorem evd_callA {sp : Sp} {Φ : V → Hp → Prop} {Ψ : List V → Hp → Prop} (h : EvDA tr σ H Ψ) (hs : ∀ vs H1, Ex H H1 → Ψ vs H1 → ∀ Q : VK, (∀ v H2, Ex H1 H2 → Φ v H2 → Q v H2) → ∀ E : XK, sp vs H1 Q E) : EvD (tCall sp [] E tr) σ H Φ := fun H1 e Q q =>
  h H1 e _ fun vs H2 e2 p => by
    rw [List.append_nil]
    exact hs vs H2 (e.trans e2) p Q (fun v H3 e3 p3 => q v H3 (e2.trans e3) p3) E
end
theorem passE0 {X : Cx} {P : Program} {w : World} : Passes (L2.CX P w) X E0 := fun _ _ _ _ _ _ _ h => by
  obtain ⟨_, _, _, _, _, _, _, _, _, _, _, _, h⟩ := h
  exact h.elim
end Kb
set_option Elab.async false
set_option linter.all false
set_option maxRecDepth 100000
set_option maxHeartbeats 4000000
namespace Kb
open PySem PySem.Spec PyProof.Rows L2 Evl
/-! ### classes: what is known of them -/
def tysL : List String := ["NoneType", "bool", "int", "str", "list", "tuple", "dict"]
structure Kl (K : PySem.W.Frag) (mg : Str → Option Value) (x : Str) (C : Addr) (fs : List Str) : Prop where
  g : mg x = some (.ref C)
  cls : Cls K C
  no : ∀ f ∈ fs, NoAttr K C f
  ca : PySem.W.findIn K (.ref C) "__class__" = some (some (.builtin "object.__class__"))
  hn : PySem.W.specialIn K (.builtin "object.__class__") "__get__" = some (some (.builtin "getset_descriptor.__get__"))
  ht : PySem.W.takesIn K (.builtin "object.__class__") = some true
  hm : PySem.W.mroIn K C (.type "object") = some true
  ty : ∀ T ∈ tysL, PySem.W.kitOne K (.type T) (.ref C) = some false
  un : ∀ T ∈ tysL, PySem.W.kitOne K (.ref C) (.type T) = some false
  nf : ∀ T ∈ tysL, PySem.W.notFirst K C (.type T) = true
section
variable {K : PySem.W.Frag} {mg : Str → Option Value} {x : Str} {C a dx : Addr} {fs : List Str} {H : Hp} {ps : List (Str × V)} {v : V} {d : PyData} {σ : L2.St} {te ta tb : TE}
theorem kit_self {C : Addr} : PySem.W.kitOne K (.ref C) (.ref C) = some true := by
  unfold PySem.W.kitOne
  rw [if_pos (beq_self_eq_true _)]
theorem Kl.tyx (T : Kl K mg x C fs) (h : H a = some (.ins C dx ps)) : TyX K H (.ref a) (.ref C) := .base (.ins h T.cls T.ca T.hn T.ht T.hm)
theorem tyOf_mem (d : PyData) : tyOf d ∈ tysL := by cases d <;> simp [tyOf, tysL]
/-- isinstance of a datum and an own class -/
theorem ev_isiN (T : Kl K mg x C fs) (hv : Ev te σ H v) (h : Dp K H v d) : Ev (tCB (rIsi K) (tCons te (tCons (tC (.ref C)) tNil))) σ H (.bl false) := fun H1 e1 Q q =>
  hv H1 e1 _ fun H2 e2 => ⟨v, .ref C, .type (tyOf d), .ref C, false, rfl, .own C, dp_ty (Dp.ext (e1.trans e2) h), T.ty _ (tyOf_mem d), q H2 e2⟩
theorem ev_isiS (T : Kl K mg x C fs) (hv : Ev te σ H (.ref a)) (h : H a = some (.ins C dx ps)) : Ev (tCB (rIsi K) (tCons te (tCons (tC (.ref C)) tNil))) σ H (.bl true) := fun H1 e1 Q q =>
  hv H1 e1 _ fun H2 e2 => ⟨.ref a, .ref C, .ref C, .ref C, true, rfl, .own C, T.tyx ((e1.trans e2) _ _ h), kit_self, q H2 e2⟩
theorem ev_isiU (T : Kl K mg x C fs) {t : String} (ht : t ∈ tysL) (hv : Ev te σ H (.ref a)) (h : H a = some (.ins C dx ps)) : Ev (tCB (rIsi K) (tCons te (tCons (tC (.ty t)) tNil))) σ H (.bl false) := fun H1 e1 Q q =>
  hv H1 e1 _ fun H2 e2 => ⟨.ref a, .ty t, .ref C, .type t, false, rfl, .ty t, T.tyx ((e1.trans e2) _ _ h), T.un _ ht, q H2 e2⟩
theorem ev_fld (T : Kl K mg x C fs) {f : Str} (hf : f ∈ fs) (hv : Ev te σ H (.ref a)) (h : H a = some (.ins C dx ps)) (hl : ps.lookup f = some v) : Ev (tFld K te f) σ H v := fun H1 e1 Q q =>
  hv H1 e1 _ fun H2 e2 => ⟨a, C, dx, ps, v, rfl, (e1.trans e2) _ _ h, T.cls, T.no f hf, hl, q H2 e2⟩
/-! ### all stays but one object -/
def Kp (a : Addr) (H H' : Hp) : Prop := ∀ b o, H b = some o → b ≠ a → H' b = some o
theorem Kp.of {H H' : Hp} (e : Ex H H') : Kp a H H' := fun b o h _ => e b o h
theorem Kp.trans {H H1 H2 : Hp} (h : Kp a H H1) (h2 : Kp a H1 H2) : Kp a H H2 := fun b o e ne => h2 b o (h b o e ne) ne
theorem Kp.upd {H : Hp} {o : HO} : Kp a H (upd H a o) := fun b u e ne => by
  rw [upd_ne ne]
  exact e
/-- an object that no datum is -/
def noDat : HO → Bool
  | .lst _ => false
  | .tup _ => false
  | .frz _ _ => false
  | _ => true
theorem kp_l {H H' : Hp} {p : Addr} {xs : List V} {o : HO} (k : Kp a H H') (ha : H a = some o) (ho : noDat o = true) (h : SqL K H p xs) : SqL K H' p xs := by
  rcases h with (h | ⟨o2, h⟩) | h
  · exact .inl (.inl (k _ _ h fun z => by rw [z, ha] at h; cases h; cases ho))
  · exact .inl (.inr ⟨o2, k _ _ h fun z => by rw [z, ha] at h; cases h; cases ho⟩)
  · exact .inr h
theorem kp_t {H H' : Hp} {p : Addr} {xs : List V} {o : HO} (k : Kp a H H') (ha : H a = some o) (ho : noDat o = true) (h : SqT K H p xs) : SqT K H' p xs := by
  rcases h with (h | ⟨o2, h⟩) | h
  · exact .inl (.inl (k _ _ h fun z => by rw [z, ha] at h; cases h; cases ho))
  · exact .inl (.inr ⟨o2, k _ _ h fun z => by rw [z, ha] at h; cases h; cases ho⟩)
  · exact .inr h
mutual
theorem dp_kp {H H' : Hp} {o : HO} (k : Kp a H H') (ha : H a = some o) (ho : noDat o = true) : ∀ {v : V} {d : PyData}, Dp K H v d → Dp K H' v d
  | _, _, .non => .non
  | _, _, .bl b => .bl b
  | _, _, .int i => .int i
  | _, _, .str x => .str x
  | _, _, .lst h b => .lst (kp_l k ha ho h) (dpAll_kp k ha ho b)
  | _, _, .tup h b => .tup (kp_t k ha ho h) (dpAll_kp k ha ho b)
theorem dpAll_kp {H H' : Hp} {o : HO} (k : Kp a H H') (ha : H a = some o) (ho : noDat o = true) : ∀ {vs : List V} {ds : List PyData}, DpAll K H vs ds → DpAll K H' vs ds
  | _, _, .nil => .nil
  | _, _, .cons b c => .cons (dp_kp k ha ho b) (dpAll_kp k ha ho c)
end
/-! ### tuples of which is known that they have no dict -/
def Pd (K : PySem.W.Frag) (H : Hp) (v : V) (d : PyData) : Prop := ∃ p xs ds, v = .ref p ∧ d = .tuple ds ∧ SqP H p xs ∧ DpAll K H xs ds
theorem Pd.ext {H H' : Hp} (h : Pd K H v d) (e : Ex H H') : Pd K H' v d := by
  obtain ⟨p, xs, ds, rfl, rfl, h, a⟩ := h
  exact ⟨p, xs, ds, rfl, rfl, h.ext e, DpAll.ext e a⟩
theorem Pd.dp {H : Hp} (h : Pd K H v d) : Dp K H v d := by
  obtain ⟨p, xs, ds, rfl, rfl, h, a⟩ := h
  exact .tup h.t a
theorem Pd.kp {H H' : Hp} {o : HO} (k : Kp a H H') (ha : H a = some o) (ho : noDat o = true) (h : Pd K H v d) : Pd K H' v d := by
  obtain ⟨p, xs, ds, rfl, rfl, ⟨o2, h2, h3⟩, b⟩ := h
  exact ⟨p, xs, ds, rfl, rfl, ⟨o2, h2, k _ _ h3 fun z => by rw [z, ha] at h3; cases h3; cases ho⟩, dpAll_kp k ha ho b⟩
theorem evd_tupP {p : Addr} {xs : List V} {ds : List PyData} (ha : Ev ta σ H (.ref p)) (h : SqL K H p xs) (hd : DpAll K H xs ds) : EvD (tCB (rTupP K) (tCons ta tNil)) σ H (fun w H1 => Pd K H1 w (.tuple ds)) := fun H1 e Q q =>
  ha H1 e _ fun H2 e2 => ⟨p, xs, rfl, .inl ⟨ex_l (e.trans e2) h, fun l o hl ho => by
    have hx : upd H2 l (.frz o (.tup xs)) l = some (.frz o (.tup xs)) := upd_same
    exact q _ _ (e2.trans (Ex.new hl)) ⟨l, xs, ds, rfl, rfl, ⟨o, ho, hx⟩, DpAll.ext ((e.trans e2).trans (Ex.new hl)) hd⟩⟩⟩
theorem evd_tupPL {xs : List V} {Φ : V → Hp → Prop} (ha : EvL ta σ H xs) (hΦ : ∀ w H1, Ex H H1 → (∃ p, w = .ref p ∧ SqP H1 p xs) → Φ w H1) : EvD (tCB (rTupP K) (tCons ta tNil)) σ H Φ := fun H1 e Q q =>
  ha H1 e _ fun p H2 _ e2 h2 => ⟨p, xs, rfl, .inl ⟨sq_of h2, fun l o hl ho => by
    have hx : upd H2 l (.frz o (.tup xs)) l = some (.frz o (.tup xs)) := upd_same
    exact q _ _ (e2.trans (Ex.new hl)) (hΦ _ _ ((e.trans e2).trans (Ex.new hl)) ⟨l, rfl, o, ho, hx⟩)⟩⟩
theorem evd_if {t : TT} {b : Bool} {Φ : V → Hp → Prop} (h : EvT t σ H b) (h1 : b = true → EvD ta σ H Φ) (h2 : b = false → EvD tb σ H Φ) : EvD (tIf t ta tb) σ H Φ := fun H1 e Q q => h H1 e _ fun H2 e2 => by
  cases b with
  | true => exact h1 rfl H2 (e.trans e2) Q fun v H3 e3 p => q v H3 (e2.trans e3) p
  | false => exact h2 rfl H2 (e.trans e2) Q fun v H3 e3 p => q v H3 (e2.trans e3) p
def asTup : PyData → PyData
  | .list ds => .tuple ds
  | d => d
theorem s_fld {a C dx : Addr} {fs : List (Str × V)} {f : Str} {x : Str} {gs : List Str} {D : Ends} (T : Kl K mg x C gs) (hf : f ∈ gs) (ho : Ev ta σ H (.ref a)) (hv : Ev tb σ H v) (h : H a = some (.ins C dx fs)) (hz : fs.length < 1000)
    (k : ∀ H1, Ex H H1 → D.nx σ (upd H1 a (.ins C dx (putF f v fs)))) : sFld K ta tb f D σ H := hv H (Ex.refl H) _ fun H1 e1 => ho H1 e1 _ fun H2 e2 => ⟨a, C, dx, fs, rfl, (e1.trans e2) _ _ h, T.cls, T.no f hf, hz, k H2 (e1.trans e2)⟩
theorem q_fld {a C dx : Addr} {fs : List (Str × V)} {f : Str} {x : Str} {gs : List Str} {D : Ends} {tz : TS} (T : Kl K mg x C gs) (hf : f ∈ gs) (ho : Ev ta σ H (.ref a)) (hv : Ev tb σ H v) (h : H a = some (.ins C dx fs)) (hz : fs.length < 1000)
    (k : ∀ H1, Ex H H1 → tz D σ (upd H1 a (.ins C dx (putF f v fs)))) : tSeq (sFld K ta tb f) tz D σ H := s_fld (D := { D with nx := tz D }) T hf ho hv h hz k
end
/-! ### raise C(..), C(..) by names; own comparisons -/
structure Mkr (P : Program) (w : World) (K : PySem.W.Frag) (mg : Str → Option Value) (base : Heap) (CX : CXT) (k : Nat) (x : Str) (C : Addr) (ps : List Str) (sp : Sp) : Prop where
  g : mg x = some (.ref C)
  made : ∃ (f : Addr) (fd : FuncData), L2.Mk K C f ∧ FnOk P w K mg base CX k f fd ps sp ∧ L2.Binds K fd ps []
section
variable {X : Cx} {x : Str} {C : Addr} {ps : List Str} {sp : Sp} {j k : Nat} {e : Expr} {es : List Expr} {t : TA} {p pos : Pos} {CX : CXT} {E : XK}
theorem pmk_xc (T : XC X.prog X.w X.K X.mg X.base x C ps sp) (hr : Room j X.A) (hg : Gl X x) (ha : PA X (e :: es) t) (hj : 2 ≤ j := by decide) (hdb : (x == ("__debug__" : Str)) = false := by decide)
    (he : starEach (e :: es) X.env = (false, eval e X.env) :: starEach es X.env := by rfl) (hpl : (backTo pos (starEach es X.env)).any (·.1) = false := by rfl) : PMk X (.Call (.Name x p) (e :: es) [] pos) (tMkO C sp [] t) := by
  obtain ⟨fI, fd, iC, tI, F, b⟩ := T.ini
  exact pmk_oex T.T iC tI F (hr.mono hj) b .nil pass0 hg T.g ha hdb he hpl
theorem pe_mk (M : Mkr X.prog X.w X.K X.mg X.base CX k x C ps sp) (hr : Room j X.A) (hg : Gl X x) (hx : Passes CX X E) (ha : PA X (e :: es) t) (hj : k + 1 ≤ j := by decide) (hdb : (x == ("__debug__" : Str)) = false := by decide)
    (he : starEach (e :: es) X.env = (false, eval e X.env) :: starEach es X.env := by rfl) (hpl : (backTo pos (starEach es X.env)).any (·.1) = false := by rfl) : PE X (.Call (.Name x p) (e :: es) [] pos) (tMake C sp [] E t) := by
  obtain ⟨f, fd, M1, F, b⟩ := M.made
  exact pe_make M1 F (hr.mono hj) hg M.g b .nil hx ha hdb he hpl
/-- x op y by an own def of the class at C -/
def rOwnI (K : PySem.W.Frag) (C : Addr) (sp : Sp) (E : XK) : R2 := fun x y H Q => ∃ a dx fs t, x = .ref a ∧ H a = some (.ins C dx fs) ∧ TyX K H y t ∧ PySem.W.notFirst K C t = true ∧ sp [x, y] H Q E
theorem op_ownI {op : CmpOp} {g : Addr} {fd : FuncData} {n : Nat} (hop : ∀ a b, compareOp op a b = richCompare op a b) (hs : PySem.W.findIn X.K (.ref C) (cmpInfo op).2.1 = some (some (.ref g))) (hf : PySem.W.isFn X.K (.ref g) = true)
    (F : FnOk X.prog X.w X.K X.mg X.base CX n g fd ps sp) (hb : L2.Binds X.K fd ps []) (hr : Room n X.A) (hx : Passes CX X E) : OpR X (compareOp op) (rOwnI X.K C sp E) := by
  intro pins s σ H x y v u Q I rx ry h
  obtain ⟨a, dx, fs, t, rfl, ha, ty, hn, q⟩ := h
  cases (show v = Value.ref a from rx)
  obtain ⟨mA, J, _⟩ := ins_get I.hok ha
  obtain ⟨od, J, _⟩ := J.look
  obtain ⟨P, Z, hP, _⟩ := kit_of I ry ty
  obtain ⟨m, hF⟩ := I.fr
  rw [hop]
  refine PySem.W.cmp_K (op := op) (tb := t) hr.units0 hF I.ok.mod.kin J (Z.ty _ _ I.kIn hP) hn hs hf ?_
  refine wpAny_mono (run_fn (us := [.ref a, u]) (vs := [.ref a, y]) F hr hb .nil hx I (.cons rfl (.cons ry .nil)) q) (fun w s' z => ?_) fun _ _ x => x
  obtain ⟨z', H', I', rz, qz⟩ := z
  exact SlX.cmpback rz ⟨z', H', I', rz, qz⟩
end
end Kb
set_option Elab.async false
set_option linter.all false
set_option maxRecDepth 100000
set_option maxHeartbeats 4000000
namespace Kb
open PySem PySem.Spec PyProof.Rows L2 Evl
/-! ### rows of pairs: key, number -/
def kD : Key → PyData
  | .inl i => .int i
  | .inr x => .str x
def rowD (p : Key × Int) : PyData := .tuple [kD p.1, .int p.2]
def rowsD (kvs : List (Key × Int)) : PyData := .tuple (kvs.map rowD)
def kvI (p : Key × Int) : Key × V := (p.1, .int p.2)
section
variable {K : PySem.W.Frag} {σ : L2.St} {H H' : Hp} {te ta tb tl tk tv : TE} {v : V} {d : PyData} {vs : List V} {ds : List PyData}
theorem dp_kD {k : Key} (h : Dp K H v (kD k)) : v = kV k := by
  cases k <;> cases h <;> rfl
theorem rows_paired : ∀ {xs : List V} {kvs : List (Key × Int)}, DpAll K H xs (kvs.map rowD) → ∃ ps : List Addr, xs = ps.map V.ref ∧ Paired (fun p (kv : Key × V) => SqT K H p [kV kv.1, kv.2]) ps (kvs.map kvI)
  | _, [], h => by
    cases h
    exact ⟨[], rfl, .nil⟩
  | _, p :: kvs, h => by
    cases h with
    | cons a b =>
      obtain ⟨ps, rfl, hp⟩ := rows_paired b
      cases a with
      | @tup q ys _ h1 h2 =>
        cases h2 with
        | cons a1 h2 =>
          cases h2 with
          | cons a2 h2 =>
            cases h2
            cases a2
            rw [dp_kD a1] at h1
            exact ⟨q :: ps, rfl, .cons h1 hp⟩
theorem rows_prt {xs : List V} {kvs : List (Key × Int)} (h : DpAll K H xs (kvs.map rowD)) : Prt K H xs (kvs.map fun p => (kV p.1, V.int p.2)) (kvs.map rowD) := by
  induction kvs generalizing xs with
  | nil =>
    cases h
    exact ⟨rfl, fun i v u h => by simp at h, .nil, .nil⟩
  | cons p kvs ih =>
    cases h with
    | cons a b =>
      have q := ih b
      cases a with
      | @tup r ys _ h1 h2 =>
        cases h2 with
        | cons a1 h2 =>
          cases h2 with
          | cons a2 h2 =>
            cases h2
            cases a2
            have e1 := dp_kD a1
            subst e1
            refine ⟨congrArg (· + 1) q.len, fun i v u e1 e2 => ?_, .cons a1 q.d1, .cons (.int _) q.d2⟩
            cases i with
            | zero =>
              simp at e1 e2
              subst e1
              subst e2
              exact ⟨r, rfl, h1⟩
            | succ i =>
              simp at e1 e2
              exact q.at_ i v u e1 (by simpa using e2)
/-! ### dicts -/
theorem mergeK_app (a b c : List (Key × V)) : mergeK a (b ++ c) = mergeK (mergeK a b) c := List.foldl_append
theorem putK_new {kvs : List (Key × V)} {k : Key} {v : V} (h : k ∉ kvs.map (·.1)) : putK kvs k v = kvs ++ [(k, v)] := by
  unfold putK
  rw [if_neg]
  intro z
  obtain ⟨p, hp, e⟩ := List.any_eq_true.mp z
  exact h (List.mem_map.mpr ⟨p, hp, of_decide_eq_true e⟩)
theorem merge_nodup : ∀ (more acc : List (Key × V)), ((acc ++ more).map (·.1)).Nodup → mergeK acc more = acc ++ more
  | [], acc, _ => (List.append_nil acc).symm
  | p :: more, acc, h => by
    have hn : p.1 ∉ acc.map (·.1) := by
      rw [List.map_append, List.nodup_append] at h
      intro z
      exact h.2.2 _ z _ (by simp) rfl
    have e : mergeK acc (p :: more) = mergeK (putK acc p.1 p.2) more := rfl
    rw [e, putK_new hn, merge_nodup more (acc ++ [(p.1, p.2)]) (by simpa using h)]
    simp
theorem kvI_fst (kvs : List (Key × Int)) : (kvs.map kvI).map (·.1) = kvs.map (·.1) := by
  rw [List.map_map]
  rfl
/-- dict(t) of a plain tuple of rows -/
theorem evd_dictT {kvs : List (Key × Int)} (ha : Ev ta σ H v) (hp : Pd K H v (rowsD kvs)) (hn : (kvs.map (·.1)).Nodup) : EvD (tCB (rDictT K) (tCons ta tNil)) σ H (fun w H1 => ∃ p, w = .ref p ∧ H1 p = some (.dK (kvs.map kvI))) := fun H1 e Q q => by
  obtain ⟨p, xs, ds, rfl, e1, hx, hd⟩ := hp
  have e1 := PyData.tuple.inj e1
  subst e1
  obtain ⟨ps, rfl, hpr⟩ := rows_paired hd
  refine ha H1 e _ fun H2 e2 => ⟨p, ps, kvs.map kvI, rfl, hx.ext (e.trans e2), ?_, fun r hr => ?_⟩
  · exact Paired.mapP hpr fun a b h => ex_t (e.trans e2) h
  · have em : mergeK [] (kvs.map kvI) = kvs.map kvI := merge_nodup _ [] (by rw [List.nil_append, kvI_fst]; exact hn)
    rw [em]
    exact q _ _ (e2.trans (Ex.new hr)) ⟨r, rfl, upd_same⟩
theorem ev_dget2 {kvs : List (Key × V)} {k : Key} {z : V} (hd : EvD ta σ H (fun w H1 => ∃ p, w = .ref p ∧ H1 p = some (.dK kvs))) (hk : Ev tb σ H (kV k)) (hz : Ev te σ H z) : Ev (tDGet2 ta tb te) σ H ((valV kvs k).getD z) := fun H1 e Q q =>
  hd H1 e _ fun w H2 e2 ⟨p, hw, hp⟩ => ⟨p, hw, .inl ⟨kvs, .inl hp⟩, hk H2 (e.trans e2) _ fun H3 e3 => hz H3 ((e.trans e2).trans e3) _ fun H4 e4 => ⟨_, .inl ⟨kvs, k, .inl (e4 _ _ (e3 _ _ hp)), rfl, rfl⟩, q H4 ((e2.trans e3).trans e4)⟩⟩
theorem ev_dget1 {kvs : List (Key × V)} {k : Key} (hd : EvD ta σ H (fun w H1 => ∃ p, w = .ref p ∧ H1 p = some (.dK kvs))) (hk : Ev tb σ H (kV k)) : Ev (tDGet1 ta tb) σ H ((valV kvs k).getD .non) := fun H1 e Q q =>
  hd H1 e _ fun w H2 e2 ⟨p, hw, hp⟩ => ⟨p, hw, .inl ⟨kvs, .inl hp⟩, hk H2 (e.trans e2) _ fun H3 e3 => ⟨_, .inl ⟨kvs, k, .inl (e3 _ _ hp), rfl, rfl⟩, q H3 (e2.trans e3)⟩⟩
/-- {k: v for .. in t} over a tuple -/
theorem ed_dcT {a : Addr} {xs : List V} {g : TG} {tt : TT} {ws : List Nat} (kvs : List (Key × V)) (σt : Nat → L2.St) (h : Ev tl σ H (.ref a)) (hx : SqT K H a xs) (hl : xs.length = kvs.length) (hz : xs.length ≤ 40000) (hw : ∀ i, i < xs.length → wipe (σt i) ws = wipe σ ws)
    (hg : ∀ (i : Nat) (x : V) H1, Ex H H1 → xs[i]? = some x → ∀ k : L2.St → Hp → Prop, k (σt i) H1 → g x (wipe σ ws) H1 k) (ht : ∀ (i : Nat) H1, EvT tt (σt i) H1 true)
    (hk : ∀ (i : Nat) (p : Key × V) H1, Ex H H1 → kvs[i]? = some p → Ev tk (σt i) H1 (kV p.1)) (hv : ∀ (i : Nat) (p : Key × V) H1, Ex H H1 → kvs[i]? = some p → Ev tv (σt i) H1 p.2) :
    EvD (tDc (iSeq K tl) g tt tk tv ws) σ H (fun w H1 => ∃ p, w = .ref p ∧ H1 p = some (.dK (mergeK [] kvs)) ∧ H p = none) := fun H0 e Q q => .inr (.inl (h H0 e _ fun H1 e1 => ⟨a, rfl, ⟨xs, ex_t (e.trans e1) hx⟩, fun Dl hD => by
  refine ⟨fun i m H' => m = xs.length - i ∧ i ≤ xs.length ∧ H1 Dl = none ∧ Ex H1 H' ∧ H' Dl = some (.dK (mergeK [] (kvs.take i))), ⟨_, rfl, Nat.zero_le _, hD, Ex.new hD, upd_same⟩, ?_⟩
  rintro i m H' ⟨rfl, hi, h1, h2, h3⟩
  have hx2 : SqT K H' a xs := ex_t ((e.trans e1).trans h2) hx
  by_cases hlt : i < xs.length
  · refine .inr ⟨(walk_tup (K := K) (a := a) (xs := xs)).goes i H' hlt hx2, fun H2 => H1 Dl = none ∧ Ex H1 H2 ∧ H2 Dl = some (.dK (mergeK [] (kvs.take (i + 1)))), fun H2 ⟨z1, z2, z3⟩ => ⟨_, by omega, rfl, hlt, z1, z2, z3⟩, fun x H2 y => ?_⟩
    obtain ⟨rfl, hxi⟩ := walk_tup.yields i H' x H2 hlt hx2 y
    obtain ⟨p, hp⟩ : ∃ p, kvs[i]? = some p := ⟨_, List.getElem?_eq_getElem (by omega)⟩
    refine hg i x _ ((e.trans e1).trans h2) hxi _ ⟨hw i hlt, ht i _ _ (Ex.refl _) _ fun H3 e3 => ?_⟩
    have E3 := ((e.trans e1).trans h2).trans e3
    refine hk i p H3 E3 hp H3 (Ex.refl _) _ fun H4 e4 => hv i p H4 (E3.trans e4) hp H4 (Ex.refl _) _ fun H5 e5 => ?_
    have e35 := (e3.trans e4).trans e5
    refine ⟨_, p.1, rfl, e35 _ _ h3, ?_, h1, (h2.trans e35).mut h1, ?_⟩
    · have z := length_mergeK (kvs.take i) []
      have z2 : (kvs.take i).length ≤ i := by simp; omega
      simp only [List.length_nil] at z
      exact sz_lt (by omega)
    · rw [upd_same, List.take_succ, hp, Option.toList_some, mergeK_app]
      rfl
  · have e0 : i = xs.length := by omega
    subst e0
    refine .inl ⟨walk_tup.stops H' hx2, ?_⟩
    rw [hl, List.take_length] at h3
    exact q _ _ (e1.trans h2) ⟨Dl, rfl, h3, fresh_back (e.trans e1) h1⟩⟩))
theorem ed_dcP {a : Addr} {xs : List V} {us : List (V × V)} {tt : TT} {ws : List Nat} {i1 i2 : Nat} (kvs : List (Key × V)) (h : Ev tl σ H (.ref a)) (hx : SqT K H a xs) (hd : Prt K H xs us ds) (hl : us.length = kvs.length) (hz : xs.length ≤ 40000)
    (hw : ∀ x y, wipe (((wipe σ ws).set i1 (some x)).set i2 (some y)) ws = wipe σ ws) (ht : ∀ σ' H1, EvT tt σ' H1 true)
    (hk : ∀ (i : Nat) (u : V × V) (p : Key × V) H1, Ex H H1 → us[i]? = some u → kvs[i]? = some p → Ev tk (((wipe σ ws).set i1 (some u.1)).set i2 (some u.2)) H1 (kV p.1))
    (hv : ∀ (i : Nat) (u : V × V) (p : Key × V) H1, Ex H H1 → us[i]? = some u → kvs[i]? = some p → Ev tv (((wipe σ ws).set i1 (some u.1)).set i2 (some u.2)) H1 p.2) :
    EvD (tDc (iSeq K tl) (gTup K 2 (gCons (gName i1) (gCons (gName i2) gNil))) tt tk tv ws) σ H (fun w H1 => ∃ p, w = .ref p ∧ H1 p = some (.dK (mergeK [] kvs)) ∧ H p = none) := by
  have up : ∀ {i : Nat} {p : Key × V}, kvs[i]? = some p → ∃ u, us[i]? = some u := fun {i p} hi => by
    have : i < us.length := by
      rw [hl]
      exact (List.getElem?_eq_some_iff.mp hi).1
    exact ⟨_, List.getElem?_eq_getElem this⟩
  refine ed_dcT kvs (fun i => ((wipe σ ws).set i1 (some (us.getD i (.non, .non)).1)).set i2 (some (us.getD i (.non, .non)).2)) h hx (by rw [hd.len, hl]) hz (fun i _ => hw _ _) (fun i x H1 e hi k q => ?_) (fun i H1 => ht _ _) (fun i p H1 e hp => ?_) (fun i p H1 e hp => ?_)
  · have hlt : i < us.length := by
      rw [← hd.len]
      exact (List.getElem?_eq_some_iff.mp hi).1
    obtain ⟨u, hu⟩ : ∃ u, us[i]? = some u := ⟨_, List.getElem?_eq_getElem hlt⟩
    obtain ⟨b, rfl, hb⟩ := hd.at_ i x u hi hu
    rw [getD_some hu] at q
    exact ⟨b, _, rfl, ex_t e hb, rfl, u.1, [u.2], rfl, u.2, [], rfl, rfl, q⟩
  · obtain ⟨u, hu⟩ := up hp
    rw [getD_some hu]
    exact hk i u p H1 e hu hp
  · obtain ⟨u, hu⟩ := up hp
    rw [getD_some hu]
    exact hv i u p H1 e hu hp
end
end Kb
set_option Elab.async false
set_option linter.all false
set_option maxRecDepth 100000
set_option maxHeartbeats 4000000
namespace Kb
open PySem PySem.Spec PyProof.Rows L2 Evl
/-! ### sorted, joined -/
def rSortDI : List V → Hp → VK → Prop := fun xs H Q => ∃ (a : Addr) (kvs : List (Key × V)) (ks : List Int), xs = [.ref a] ∧ Rd H a (.dK kvs) ∧ kvs.map (·.1) = ks.map Sum.inl ∧ ks.length < 64 ∧
  ∀ (ys : List Int) (p : Addr), ys.Perm ks → ys.Pairwise (· ≤ ·) → H p = none → Q (.ref p) (upd H p (.lst (ys.map V.int)))
def rSortA (K : PySem.W.Frag) : List V → Hp → VK → Prop := fun xs H Q => rSortedI K xs H Q ∨ (rSortedS K xs H Q ∨ (rSortDI xs H Q ∨ rSortedPO K xs H Q))
theorem callA_sorted {X : Cx} (hc : X.calm = true) : CallR X (.builtin "sorted") (rSortA X.K) := CallR.or cr_sortedI (CallR.or cr_sortedS (CallR.or (call_sortedDI hc) cr_sortedPO))
theorem perm_le_eq : ∀ {xs ys : List Int}, xs.Perm ys → xs.Pairwise (· ≤ ·) → ys.Pairwise (· ≤ ·) → xs = ys := fun h h1 h2 =>
  h.eq_of_pairwise (fun a b _ _ h1 h2 => Int.le_antisymm h1 h2) h1 h2
section
variable {K : PySem.W.Frag} {σ : L2.St} {H H' : Hp} {te ta tb tl tk tv : TE} {v : V} {d : PyData} {vs : List V} {ds : List PyData}
theorem el_sortI {p : Addr} {ns zs : List Int} (ha : Ev ta σ H (.ref p)) (h : SqL K H p (ns.map V.int)) (hz : zs.Perm ns) (hs : zs.Pairwise (· ≤ ·)) : EvL (tCB (rSortA K) (tCons ta tNil)) σ H (zs.map V.int) := fun H1 e Q q =>
  ha H1 e _ fun H2 e2 => .inl ⟨p, ns, rfl, ex_l (e.trans e2) h, fun ys r hp hy hr => by
    obtain rfl := perm_le_eq (hp.trans hz.symm) hy hs
    exact q r _ (fresh_back e2 hr) (e2.trans (Ex.new hr)) upd_same⟩
theorem el_sortIN {ns zs : List Int} (ha : EvL ta σ H (ns.map V.int)) (hz : zs.Perm ns) (hs : zs.Pairwise (· ≤ ·)) : EvL (tCB (rSortA K) (tCons ta tNil)) σ H (zs.map V.int) := fun H1 e Q q =>
  ha H1 e _ fun p H2 hp e2 h2 => .inl ⟨p, ns, rfl, sq_of h2, fun ys r hpe hy hr => by
    obtain rfl := perm_le_eq (hpe.trans hz.symm) hy hs
    exact q r _ (fresh_back e2 hr) (e2.trans (Ex.new hr)) upd_same⟩
theorem el_sortD {p : Addr} {kvs : List (Key × V)} {ks zs : List Int} (ha : Ev ta σ H (.ref p)) (h : H p = some (.dK kvs)) (hk : kvs.map (·.1) = ks.map Sum.inl) (h64 : ks.length < 64) (hz : zs.Perm ks) (hs : zs.Pairwise (· ≤ ·)) : EvL (tCB (rSortA K) (tCons ta tNil)) σ H (zs.map V.int) := fun H1 e Q q =>
  ha H1 e _ fun H2 e2 => .inr (.inr (.inl ⟨p, kvs, ks, rfl, .inl ((e.trans e2) _ _ h), hk, h64, fun ys r hp hy hr => by
    obtain rfl := perm_le_eq (hp.trans hz.symm) hy hs
    exact q r _ (fresh_back e2 hr) (e2.trans (Ex.new hr)) upd_same⟩))
/-- a comprehension over a new list -/
theorem el_lcN {tt : TT} {g : TG} {ws : List Nat} {xs : List V} (σt : Nat → L2.St) (f : Nat → Bool) (u : Nat → V) (h : EvL tl σ H xs) (hz : xs.length ≤ 40000) (hw : ∀ i, i < xs.length → wipe (σt i) ws = wipe σ ws)
    (hg : ∀ (i : Nat) (x : V) H1, Ex H H1 → xs[i]? = some x → ∀ k : L2.St → Hp → Prop, k (σt i) H1 → g x (wipe σ ws) H1 k)
    (ht : ∀ (i : Nat) (x : V) H1, Ex H H1 → xs[i]? = some x → EvT tt (σt i) H1 (f i)) (he : ∀ (i : Nat) (x : V) H1, Ex H H1 → xs[i]? = some x → f i = true → Ev te (σt i) H1 (u i)) :
    EvL (tLc (iSeq K tl) g tt te ws) σ H (given xs.length f u) := fun H0 e Q q => .inl (h H0 e _ fun a H1 ha0 e1 ha => ⟨a, rfl, ⟨xs, sq_of ha⟩, fun Dl hD =>
  lc_it (walk_list (xs := xs)) (Cw H1 f u Dl) ⟨hD, Ex.new hD, upd_same⟩ (fun i H' _ p => ex_l p.2.1 (sq_of ha)) (fun i x H' H'' hi p y => by
    obtain ⟨rfl, hc⟩ := y
    exact hg i x _ ((e.trans e1).trans p.2.1) hc _ ⟨hw i hi, cw_turn p (by omega) (ht i x H1 (e.trans e1) hc) (fun hf => he i x H1 (e.trans e1) hc hf)⟩)
    (fun H' p => q Dl H' (fresh_back e1 p.1) (e1.trans p.2.1) p.2.2)⟩)
/-- numbers of a new list, sieved -/
theorem el_sieveN {tt : TT} {ws : List Nat} {j : Nat} {ns : List Int} (t : Int → Bool) (h : EvL tl σ H (ns.map V.int)) (hz : ns.length ≤ 40000) (hw : ∀ x, wipe ((wipe σ ws).set j (some x)) ws = wipe σ ws)
    (ht : ∀ (n : Int) H1, Ex H H1 → EvT tt ((wipe σ ws).set j (some (.int n))) H1 (t n)) (he : ∀ (n : Int) H1, Ev te ((wipe σ ws).set j (some (.int n))) H1 (.int n)) :
    EvL (tLc (iSeq K tl) (gName j) tt te ws) σ H ((ns.filter t).map V.int) := by
  refine el_is (el_lcN (fun i => (wipe σ ws).set j (some (.int (ns.getD i 0)))) (fun i => t (ns.getD i 0)) (fun i => .int (ns.getD i 0)) h (by rw [List.length_map]; exact hz) (fun i _ => hw _) (fun i x H1 e hi k q => ?_) (fun i x H1 e hi => ht _ _ e) (fun i x H1 e hi _ => he _ _)) ?_
  · rw [List.getElem?_map] at hi
    cases hn : ns[i]? with
    | none => rw [hn] at hi; cases hi
    | some n =>
      rw [hn] at hi
      cases hi
      rw [getD_some hn] at q
      exact q
  · rw [List.length_map]
    exact given_map ns 0 t V.int
/-- d[k] = v -/
theorem s_dput {p : Addr} {kvs : List (Key × V)} {k : Key} {D : Ends} (hv : Ev tv σ H v) (hd : Ev ta σ H (.ref p)) (hk : Ev tk σ H (kV k)) (h : H p = some (.dK kvs)) (hz : kvs.length < 100000) (q : ∀ H1, Ex H H1 → D.nx σ (upd H1 p (.dK (putK kvs k v)))) : sDPut ta tk tv D σ H :=
  hv H (Ex.refl H) _ fun H1 e1 => hd H1 e1 _ fun H2 e2 => hk H2 (e1.trans e2) _ fun H3 e3 => ⟨p, _, rfl, .inl ⟨kvs, k, ((e1.trans e2).trans e3) _ _ h, rfl, sz_lt hz, rfl⟩, q H3 ((e1.trans e2).trans e3)⟩
theorem q_dput {p : Addr} {kvs : List (Key × V)} {k : Key} {D : Ends} {tz : TS} (hv : Ev tv σ H v) (hd : Ev ta σ H (.ref p)) (hk : Ev tk σ H (kV k)) (h : H p = some (.dK kvs)) (hz : kvs.length < 100000) (q : ∀ H1, Ex H H1 → tz D σ (upd H1 p (.dK (putK kvs k v)))) : tSeq (sDPut ta tk tv) tz D σ H :=
  s_dput (D := { D with nx := tz D }) hv hd hk h hz q
/-- for x, y in t -/
theorem q_forPr {tu tz : TS} {a : Addr} {xs : List V} {us : List (V × V)} {i1 i2 : Nat} {D : Ends} (h : Ev tl σ H (.ref a)) (hx : SqT K H a xs) (hn : xs.length = us.length) (Pv : Nat → L2.St → Hp → Prop) (h0 : ∀ H1, Ex H H1 → Pv 0 σ H1) (hl : ∀ i σ' H', i ≤ us.length → Pv i σ' H' → SqT K H' a xs ∧ Prt K H' xs us ds)
    (hs : ∀ i u σ' H', us[i]? = some u → Pv i σ' H' → tu { ({ D with nx := tz D } : Ends) with nx := Pv (i + 1), ct := Pv (i + 1), bk := tz D } ((σ'.set i1 (some u.1)).set i2 (some u.2)) H') (hd : ∀ σ' H', Pv us.length σ' H' → tz D σ' H') :
    tSeq (tFor (iSeq K tl) (gTup K 2 (gCons (gName i1) (gCons (gName i2) gNil))) tu) tz D σ H :=
  .inr (.inl (h H (Ex.refl H) _ fun H1 e => ⟨a, rfl, ⟨xs, ex_t e hx⟩, for_tup (D := { D with nx := tz D }) Pv (h0 H1 e) (fun i σ' H' hi p => (hl i σ' H' (by omega) p).1) (fun i x σ' H' hi p => by
    have hlt : i < us.length := by
      rw [← hn]
      exact (List.getElem?_eq_some_iff.mp hi).1
    obtain ⟨u, hu⟩ : ∃ u, us[i]? = some u := ⟨_, List.getElem?_eq_getElem hlt⟩
    obtain ⟨b, rfl, hb⟩ := (hl i σ' H' (by omega) p).2.at_ i x u hi hu
    exact ⟨b, _, rfl, hb, rfl, u.1, [u.2], rfl, u.2, [], rfl, rfl, hs i u σ' H' hu p⟩) (fun σ' H' p => hd σ' H' (by rw [← hn]; exact p))⟩))
end
section
variable {X : Cx}
theorem sw_trueD {kx vx : Expr} {gs : List Comprehension} {scope : Scope} {pos py : Pos} {y : Str} {l : Nat} {env : Env} (hk : env.scope.kind = .function) (hy : env.scope.names.lookup y = some .local) (hl : (py.line == pos.line) = true)
    (ha : (scope.names.any fun (n, k) => n == y && (k == .local || k == .cell)) = false) : swapsWith (.DictComp kx vx gs scope pos) (some (.Name y py)) l env = pure true := by
  have ky : env.kindOf y = some .local := hy
  have hb : env.blockKind = .function := by unfold Env.blockKind; rw [hk]; rfl
  unfold swapsWith
  simp only [hb, ky, ha, Expr.pos, hl]
  rfl
/-- name = {k: v for ..} on one line, the name a local -/
theorem ps_setDc {i : Nat} {y : Str} {py : Pos} {kx vx tg iter : Expr} {ifs : List Expr} {scope : Scope} {own : List (Str × Nat)} {pos spos : Pos} {wi : TI} {g : TG} {tt : TT} {tk tv : TE} (hc : X.calm = true) (hN : X.N.Nodup) (hy : X.N[i]? = some y) (hyl : X.env.scope.names.lookup y = some .local)
    (hsw : swapsWith (.DictComp kx vx [⟨tg, iter, ifs, 0⟩] scope pos) (some (.Name y py)) spos.line X.env = pure true) (hi : PI X tg iter wi) (ok : BlkOk X.N X.env.scope scope own)
    (hg : ∀ (s : Shared) (H : Hp) (C : Addr) (cl : List (Str × Addr)) (fp : List Addr), PG (X.blk s H scope (compEnvC scope cl C X.env) fp) tg g) (ht : ∀ (s : Shared) (H : Hp) (C : Addr) (cl : List (Str × Addr)) (fp : List Addr), PTs (X.blk s H scope (compEnvC scope cl C X.env) fp) ifs tt)
    (hk : ∀ (s : Shared) (H : Hp) (C : Addr) (cl : List (Str × Addr)) (fp : List Addr), PE (X.blk s H scope (compEnvC scope cl C X.env) fp) kx tk)
    (he : ∀ (s : Shared) (H : Hp) (C : Addr) (cl : List (Str × Addr)) (fp : List Addr), PE (X.blk s H scope (compEnvC scope cl C X.env) fp) vx tv) (hs : ∀ x, foldedSetIterable iter X.env x = pure x := by intro _; rfl) :
    PS X (.Assign [.Name y py] (.DictComp kx vx [⟨tg, iter, ifs, 0⟩] scope pos) spos) (tAsg (tDc wi g tt tk tv (own.map (·.2))) (gName i)) := by
  refine ⟨fun pins s σ H D I h => ?_⟩
  rw [exec_Assign_Name_used _ _ _ _ hsw]
  refine wpAny_bind (wpAny_standAt (wpAny_bind ?_))
  show wpAny _ X.A (do let _ ← comprehension (.DictComp kx vx [⟨tg, iter, ifs, 0⟩] scope pos) scope X.env (firstIterPos [⟨tg, iter, ifs, 0⟩] pos) newDict false (eval iter X.env) (some (assign (.Name y py) X.env))) _ _ s
  have h : tDc wi g tt tk tv (own.map (·.2)) σ H (fun x H1 => gName i x σ H1 D.nx) := h
  refine wpAny_bind (thn (dc_core (Qf := fun _ s' => SP X pins D .next s') hc hN I hi ok hg ht hk he hs h fun L C s' m H' I' q hn f => ?_) fun _ s' hq => wpAny_pure (wpAny_pure hq))
  show wpAny _ _ (assign (.Name y py) X.env (.ref L)) _ _ _
  refine wpAny_assign_Name (store_ok2 (v := V.ref L) I' hN hy (.inl hyl) rfl (fun s2 I2 ⟨a, sb, ha⟩ => ?_) (.inr hyl))
  obtain ⟨f0, f1, f2, f3, f4, f5⟩ := f
  have haC : C ≠ a := by
    rcases ha with z | z
    · rw [z]; exact f1
    · exact fun e => f4 y a z e.symm
  refine ⟨m, hn.sameBut sb haC, fun h3 sb3 => ?_⟩
  exact ⟨_, H', I2.turned (t' := s2.toks) (fun b o hb e => (sb3.2 b hb).trans e) f0 f1 f3 f4 f5, q⟩
end
end Kb
set_option Elab.async false
set_option linter.all false
set_option maxRecDepth 100000
set_option maxHeartbeats 4000000
namespace Kb
open PySem PySem.Spec PyProof.Rows L2 Evl
/-! ### the keys of a dict that is filled, by numbers; ascending lists -/
theorem keys_put1 {kvs : List (Key × V)} {k : Key} (v : V) (h : k ∈ kvs.map (·.1)) : (putK kvs k v).map (·.1) = kvs.map (·.1) := by
  obtain ⟨p, hp, e⟩ := List.mem_map.mp h
  unfold putK
  rw [if_pos (List.any_eq_true.mpr ⟨p, hp, decide_eq_true e⟩), List.map_map]
  refine List.map_congr_left fun q _ => ?_
  show (if q.1 = k then (q.1, v) else q).1 = q.1
  split <;> rfl
theorem keys_put2 {kvs : List (Key × V)} {k : Key} (v : V) (h : k ∉ kvs.map (·.1)) : (putK kvs k v).map (·.1) = kvs.map (·.1) ++ [k] := by
  rw [putK_new h, List.map_append]
  rfl
def ddI (acc l : List Int) : List Int := l.foldl (fun acc i => if i ∈ acc then acc else acc ++ [i]) acc
def tvK (i : Int) : Key × V := (.inl i, .bl true)
theorem keys_dd : ∀ (l : List Int) (kvs : List (Key × V)) (acc : List Int), kvs.map (·.1) = acc.map Sum.inl → (mergeK kvs (l.map tvK)).map (·.1) = (ddI acc l).map Sum.inl
  | [], _, _, h => h
  | i :: l, kvs, acc, h => by
    show (mergeK (putK kvs (.inl i) (.bl true)) (l.map tvK)).map (·.1) = (ddI (if i ∈ acc then acc else acc ++ [i]) l).map Sum.inl
    refine keys_dd l _ _ ?_
    have e : (Sum.inl i : Key) ∈ acc.map Sum.inl ↔ i ∈ acc := by
      rw [List.mem_map]
      exact ⟨fun ⟨j, hj, z⟩ => by cases z; exact hj, fun z => ⟨i, z, rfl⟩⟩
    by_cases hi : i ∈ acc
    · rw [if_pos hi, keys_put1 _ (by rw [h]; exact e.mpr hi), h]
    · rw [if_neg hi, keys_put2 _ (by rw [h]; exact fun z => hi (e.mp z)), h, List.map_append]
      rfl
theorem dd_mem : ∀ (l acc : List Int) (x : Int), x ∈ ddI acc l ↔ x ∈ acc ∨ x ∈ l
  | [], acc, x => by simp [ddI]
  | i :: l, acc, x => by
    show x ∈ ddI (if i ∈ acc then acc else acc ++ [i]) l ↔ _
    rw [dd_mem l]
    by_cases hi : i ∈ acc
    · rw [if_pos hi]
      simp only [List.mem_cons]
      refine ⟨fun h => h.elim .inl fun z => .inr (.inr z), fun h => ?_⟩
      rcases h with h | rfl | h
      · exact .inl h
      · exact .inl hi
      · exact .inr h
    · rw [if_neg hi]
      simp only [List.mem_append, List.mem_cons, List.not_mem_nil, or_false, or_assoc]
theorem dd_nodup : ∀ (l acc : List Int), acc.Nodup → (ddI acc l).Nodup
  | [], _, h => h
  | i :: l, acc, h => by
    show (ddI (if i ∈ acc then acc else acc ++ [i]) l).Nodup
    refine dd_nodup l _ ?_
    by_cases hi : i ∈ acc
    · rw [if_pos hi]
      exact h
    · rw [if_neg hi, List.nodup_append]
      exact ⟨h, by simp, fun a ha b hb e => by simp at hb; subst hb; subst e; exact hi ha⟩
theorem dd_len : ∀ (l acc : List Int), (ddI acc l).length ≤ acc.length + l.length
  | [], _ => Nat.le_add_right _ _
  | i :: l, acc => by
    show (ddI (if i ∈ acc then acc else acc ++ [i]) l).length ≤ _
    refine Nat.le_trans (dd_len l _) ?_
    split <;> simp <;> omega
def srtI (l : List Int) : List Int := l.mergeSort (fun a b => decide (a ≤ b))
theorem srt_perm (l : List Int) : (srtI l).Perm l := List.mergeSort_perm _ _
theorem srt_le (l : List Int) : (srtI l).Pairwise (· ≤ ·) := by
  have h := List.pairwise_mergeSort (le := fun a b : Int => decide (a ≤ b)) (fun a b c h1 h2 => by simp at h1 h2 ⊢; omega) (fun a b => by simp; omega) l
  exact h.imp fun z => by simpa using z
/-- all, ascending, each once -/
def valsI (l : List Int) : List Int := (srtI (ddI [] l)).filter fun i => decide (i > 0)
theorem srt_lt {l : List Int} (h : l.Nodup) : (srtI l).Pairwise (· < ·) := by
  have h1 := srt_le l
  have h2 : (srtI l).Nodup := (srt_perm l).nodup_iff.mpr h
  exact (h1.and h2).imp fun ⟨a, b⟩ => by omega
theorem vals_lt (l : List Int) : (valsI l).Pairwise (· < ·) := (srt_lt (dd_nodup l [] .nil)).filter _
theorem vals_mem (l : List Int) (x : Int) : x ∈ valsI l ↔ x ∈ l ∧ x > 0 := by
  unfold valsI
  rw [List.mem_filter, (srt_perm _).mem_iff, dd_mem]
  simp
theorem vals_len (l : List Int) : (valsI l).length ≤ l.length := by
  refine Nat.le_trans (List.length_filter_le _ _) ?_
  rw [(srt_perm _).length_eq]
  have := dd_len l []
  simpa using this
/-- two ascending lists of the same members are one -/
theorem asc_eq : ∀ {xs ys : List Int}, xs.Pairwise (· < ·) → ys.Pairwise (· < ·) → (∀ x, x ∈ xs ↔ x ∈ ys) → xs = ys := fun {xs ys} h1 h2 hm => by
  have n1 : xs.Nodup := h1.imp fun z => by omega
  have n2 : ys.Nodup := h2.imp fun z => by omega
  exact perm_le_eq ((List.perm_ext_iff_of_nodup n1 n2).mpr hm) (h1.imp fun z => by omega) (h2.imp fun z => by omega)
end Kb
set_option Elab.async false
set_option linter.all false
set_option maxRecDepth 100000
set_option maxHeartbeats 4000000
namespace Kb
open PySem PySem.Spec PyProof.Rows L2 Evl
/-! ### membership among numbers, texts; the least others -/
theorem inV_int (i : Int) (ns : List Int) : inV (.int i) (ns.map V.int) = decide (i ∈ ns) := by
  unfold inV
  rw [List.any_map, Bool.eq_iff_iff, List.any_eq_true, decide_eq_true_iff]
  constructor
  · rintro ⟨x, hx, e⟩
    have : (x == i) = true := e
    rw [beq_iff_eq] at this
    exact this ▸ hx
  · exact fun h => ⟨i, h, show (i == i) = true from beq_self_eq_true i⟩
theorem inV_str (z : Str) (ns : List Str) : inV (.str z) (ns.map V.str) = decide (z ∈ ns) := by
  unfold inV
  rw [List.any_map, Bool.eq_iff_iff, List.any_eq_true, decide_eq_true_iff]
  constructor
  · rintro ⟨x, hx, e⟩
    have : (x == z) = true := e
    rw [beq_iff_eq] at this
    exact this ▸ hx
  · exact fun h => ⟨z, h, show (z == z) = true from beq_self_eq_true z⟩
theorem flat_ints (ns : List Int) : (ns.map V.int).all flatV = true := by
  rw [List.all_map, List.all_eq_true]
  exact fun _ _ => rfl
theorem flat_strs (ns : List Str) : (ns.map V.str).all flatV = true := by
  rw [List.all_map, List.all_eq_true]
  exact fun _ _ => rfl
/-- those of 1..i that are not among ys -/
def oth (ys : List Int) : Nat → List Int
  | 0 => []
  | i + 1 => oth ys i ++ (if ((i : Int) + 1) ∈ ys then [] else [(i : Int) + 1])
theorem oth_mem (ys : List Int) : ∀ (i : Nat) (x : Int), x ∈ oth ys i ↔ 1 ≤ x ∧ x ≤ i ∧ x ∉ ys
  | 0, x => by simp [oth]; omega
  | i + 1, x => by
    unfold oth
    rw [List.mem_append, oth_mem ys i x]
    split
    · rename_i h
      simp only [List.not_mem_nil, or_false]
      constructor
      · rintro ⟨a, b, c⟩
        exact ⟨a, by omega, c⟩
      · rintro ⟨a, b, c⟩
        refine ⟨a, ?_, c⟩
        have : x ≠ (i : Int) + 1 := fun e => c (e ▸ h)
        omega
    · rename_i h
      simp only [List.mem_singleton]
      constructor
      · rintro (⟨a, b, c⟩ | e)
        · exact ⟨a, by omega, c⟩
        · subst e
          exact ⟨by omega, by omega, h⟩
      · rintro ⟨a, b, c⟩
        by_cases e : x = (i : Int) + 1
        · exact .inr e
        · exact .inl ⟨a, by omega, c⟩
theorem oth_len (ys : List Int) (B : Nat) (hB : ∀ y ∈ ys, y ≤ (B : Int)) : ∀ i : Nat, i ≤ (oth ys i).length + B
  | 0 => Nat.zero_le _
  | i + 1 => by
    have h := oth_len ys B hB i
    unfold oth
    split
    · rename_i hm
      have := hB _ hm
      have h2 : i + 1 ≤ B := by omega
      omega
    · rw [List.length_append]
      simp only [List.length_cons, List.length_nil]
      omega
theorem oth_bound : ∀ ys : List Int, ∃ B : Nat, ∀ y ∈ ys, y ≤ (B : Int)
  | [] => ⟨0, fun _ h => nomatch h⟩
  | y :: ys => by
    obtain ⟨B, h⟩ := oth_bound ys
    refine ⟨B + y.toNat, fun z hz => ?_⟩
    rcases List.mem_cons.mp hz with rfl | hz
    · omega
    · have := h z hz
      omega
theorem oth_le (ys : List Int) : ∀ i : Nat, (oth ys i).length ≤ i
  | 0 => Nat.zero_le _
  | i + 1 => by
    have h := oth_le ys i
    unfold oth
    rw [List.length_append]
    split <;> simp <;> omega
theorem q_parL {σ : L2.St} {H : Hp} {ta tb : TE} {xs : List V} {y : V} {i j : Nat} {D : Ends} {tz : TS} (ha : EvL ta σ H xs) (hb : ∀ H1, Ex H H1 → Ev tb σ H1 y) (k : ∀ l H1, H l = none → Ex H H1 → H1 l = some (.lst xs) → tz D ((σ.set i (some (.ref l))).set j (some y)) H1) :
    tSeq (tPar i j (tCons ta (tCons tb tNil))) tz D σ H := ha H (Ex.refl H) _ fun l H1 hl e1 h1 => hb H1 e1 H1 (Ex.refl H1) _ fun H2 e2 => ⟨_, _, rfl, k l H2 hl (e1.trans e2) (e2 _ _ h1)⟩
theorem q_parLL {σ : L2.St} {H : Hp} {ta tb : TE} {xs ys : List V} {i j : Nat} {D : Ends} {tz : TS} (ha : EvL ta σ H xs) (hb : EvL tb σ H ys) (k : ∀ l m H1, H l = none → H m = none → l ≠ m → Ex H H1 → H1 l = some (.lst xs) → H1 m = some (.lst ys) → tz D ((σ.set i (some (.ref l))).set j (some (.ref m))) H1) :
    tSeq (tPar i j (tCons ta (tCons tb tNil))) tz D σ H := ha H (Ex.refl H) _ fun l H1 hl e1 h1 => hb H1 e1 _ fun m H2 hm e2 h2 => ⟨_, _, rfl, k l m H2 hl (fresh_back e1 hm) (fun z => by rw [z, hm] at h1; cases h1) (e1.trans e2) (e2 _ _ h1) h2⟩
theorem q_par {σ : L2.St} {H : Hp} {ta tb : TE} {x y : V} {i j : Nat} {D : Ends} {tz : TS} (ha : Ev ta σ H x) (hb : Ev tb σ H y) (k : ∀ H1, Ex H H1 → tz D ((σ.set i (some x)).set j (some y)) H1) :
    tSeq (tPar i j (tCons ta (tCons tb tNil))) tz D σ H := ha H (Ex.refl H) _ fun H1 e1 => hb H1 e1 _ fun H2 e2 => ⟨_, _, rfl, k H2 (e1.trans e2)⟩
end Kb
set_option Elab.async false
set_option linter.all false
set_option maxRecDepth 100000
set_option maxHeartbeats 4000000
namespace Kb
open PySem PySem.Spec PyProof.Rows L2 Evl
/-! ### the law's own: each once, of a sorted list -/
section
variable {α : Type} [DecidableEq α]
def adjF (xs : List α) (x0 : α) (i : Nat) : Bool := decide (i = 0) || !decide (xs.getD i x0 = xs.getD (i - 1) x0)
def adjL (xs : List α) (x0 : α) : List α := ((List.range xs.length).filter (adjF xs x0)).map (xs.getD · x0)
theorem adj_mem (xs : List α) (x0 x : α) : x ∈ adjL xs x0 ↔ x ∈ xs := by
  unfold adjL
  rw [List.mem_map]
  constructor
  · rintro ⟨i, hi, rfl⟩
    have h1 := (List.mem_filter.mp hi).1
    rw [List.mem_range] at h1
    simp [h1]
  · intro hx
    obtain ⟨i, hi, e⟩ := List.mem_iff_getElem.mp hx
    -- the least such place
    have : ∀ k : Nat, (∃ j, j ≤ k ∧ j < xs.length ∧ xs.getD j x0 = x) → ∃ j, j < xs.length ∧ xs.getD j x0 = x ∧ adjF xs x0 j = true := by
      intro k
      induction k with
      | zero =>
        rintro ⟨j, hj, hl, he⟩
        have : j = 0 := by omega
        subst this
        exact ⟨0, hl, he, rfl⟩
      | succ k ih =>
        rintro ⟨j, hj, hl, he⟩
        by_cases hf : adjF xs x0 j = true
        · exact ⟨j, hl, he, hf⟩
        · have hj0 : j ≠ 0 := fun z => hf (by rw [z]; rfl)
          have hq : xs.getD j x0 = xs.getD (j - 1) x0 := by
            unfold adjF at hf
            simp only [Bool.or_eq_true, decide_eq_true_eq, Bool.not_eq_true', decide_eq_false_iff_not, not_or, Decidable.not_not] at hf
            exact hf.2
          exact ih ⟨j - 1, by omega, by omega, by rw [← hq]; exact he⟩
    obtain ⟨j, hl, he, hf⟩ := this i ⟨i, Nat.le_refl _, hi, by simp [hi, e]⟩
    exact ⟨j, List.mem_filter.mpr ⟨List.mem_range.mpr hl, hf⟩, he⟩
theorem adj_lt {xs : List α} (x0 : α) (le : α → α → Prop) (anti : ∀ a b, le a b → le b a → a = b) (h : xs.Pairwise le) : (adjL xs x0).Pairwise (fun a b => le a b ∧ a ≠ b) := by
  unfold adjL
  rw [List.pairwise_map]
  have hr : (List.range xs.length).Pairwise (· < ·) := List.pairwise_lt_range
  refine List.Pairwise.imp_of_mem (fun {i j} hi hj hij => ?_) (hr.filter _)
  obtain ⟨hi1, _⟩ := List.mem_filter.mp hi
  obtain ⟨hj1, hjf⟩ := List.mem_filter.mp hj
  rw [List.mem_range] at hi1 hj1
  have gi : ∀ {k : Nat} (hk : k < xs.length), xs.getD k x0 = xs[k] := fun {k} hk => by simp [hk]
  have pw := List.pairwise_iff_getElem.mp h
  have l1 : le (xs.getD i x0) (xs.getD j x0) := by
    rw [gi hi1, gi hj1]
    exact pw i j hi1 hj1 hij
  refine ⟨l1, fun e => ?_⟩
  have hne : xs.getD j x0 ≠ xs.getD (j - 1) x0 := by
    unfold adjF at hjf
    simp only [Bool.or_eq_true, decide_eq_true_eq, Bool.not_eq_true', decide_eq_false_iff_not] at hjf
    rcases hjf with z | z
    · omega
    · exact z
  have hj2 : j - 1 < xs.length := by omega
  have l3 : le (xs.getD (j - 1) x0) (xs.getD j x0) := by
    rw [gi hj2, gi hj1]
    exact pw (j - 1) j hj2 hj1 (by omega)
  by_cases hij2 : i = j - 1
  · rw [hij2] at e
    exact hne e.symm
  · have l2 : le (xs.getD i x0) (xs.getD (j - 1) x0) := by
      rw [gi hi1, gi hj2]
      exact pw i (j - 1) hi1 hj2 (by omega)
    rw [e] at l2
    exact hne (anti _ _ l2 l3)
end
/-- all numbers once, ascending -/
def uniqI (l : List Int) : List Int := srtI (ddI [] l)
theorem uniq_lt (l : List Int) : (uniqI l).Pairwise (· < ·) := srt_lt (dd_nodup l [] .nil)
theorem uniq_mem (l : List Int) (x : Int) : x ∈ uniqI l ↔ x ∈ l := by
  unfold uniqI
  rw [(srt_perm _).mem_iff, dd_mem]
  simp
theorem adj_srt (l : List Int) : adjL (srtI l) 0 = uniqI l := by
  refine asc_eq ?_ (uniq_lt l) (fun x => ?_)
  · exact (adj_lt 0 (· ≤ ·) (fun a b h1 h2 => Int.le_antisymm h1 h2) (srt_le l)).imp fun ⟨a, b⟩ => by omega
  · rw [adj_mem, (srt_perm l).mem_iff, uniq_mem]
/-! texts, by their signs -/
def leS (a b : Str) : Prop := ¬ b.cps.toList < a.cps.toList
theorem leS_anti (a b : Str) (h1 : leS a b) (h2 : leS b a) : a = b := by
  have h := List.le_antisymm (show a.cps.toList ≤ b.cps.toList from h1) (show b.cps.toList ≤ a.cps.toList from h2)
  cases a
  cases b
  have := congrArg List.toArray h
  simpa using this
theorem leS_lt {a b : Str} (h : leS a b ∧ a ≠ b) : a.cps.toList < b.cps.toList := by
  have h1 : a.cps.toList ≤ b.cps.toList := h.1
  rcases Decidable.em (a.cps.toList < b.cps.toList) with z | z
  · exact z
  · exact absurd (leS_anti a b h.1 z) h.2
end Kb
set_option Elab.async false
set_option linter.all false
set_option maxRecDepth 100000
set_option maxHeartbeats 4000000
namespace Kb
open PySem PySem.Spec PyProof.Rows L2 Evl
section
variable {X : Cx} {CX : CXT} {j k : Nat} {sp : Sp} {E : XK} {x : Str} {p pos : Pos}
/-- f() -/
theorem pe_cg0 (G : Gv X.prog X.w X.K X.mg X.base CX j x [] sp) (hr : Room k X.A) (hg : Gl X x) (hx : Passes CX X E) (hj : j ≤ k := by decide) (hdb : (x == ("__debug__" : Str)) = false := by decide) : PE X (.Call (.Name x p) [] [] pos) (tCall sp [] E tNil) := by
  obtain ⟨f, fd, F, b, kp, g⟩ := G.ex
  exact pe_call0 F (hr.mono hj) hg g kp b .nil hx hdb
theorem pe_bmK {K : PySem.W.Frag} {T id : String} {name : Str} {r : V → List V → Hp → VK → Prop} {to : TE} {t : TA} {o e : Expr} {es : List Expr} {apos cpos : Pos} (hK : X.K = K) (pa : PlainAttrs T) (slot : Slot T name id) (hty : typeOf (.builtin id) = pure (.type "method_descriptor")) (hm : MtR X id r) (ho : PE X o to) (ha : PA X (e :: es) t)
    (hbase : attributeBase o name X.env (eval o X.env) = eval o X.env := by rfl)
    (hfew : ((backTo cpos (starEach (e :: es) X.env)).all (fun x => !x.1) && (backToKw cpos (keywordEach [] X.env)).all (fun x => x.1.isSome)
      && decide ((e :: es).length + ([] : List Keyword).length + (if ([] : List Keyword).isEmpty then 0 else 1) < 30)) = true := by rfl)
    (hline : (apos.endLine == cpos.line) = true := by rfl) (hs : starEach (e :: es) X.env = (false, eval e X.env) :: starEach es X.env := by rfl) (hplain : (backTo cpos (starEach es X.env)).any (·.1) = false := by rfl) :
    PE X (.Call (.Attribute o name apos) (e :: es) [] cpos) (tBM K T r to t) := hK ▸ pe_bm pa slot hty hm ho ha hbase hfew hline hs hplain
/-- x is True, x anything -/
def rIsX : R2 := fun x y H Q => ∃ b : Bool, y = .bl b ∧ Q (.bl (decide (x = .bl b))) H
theorem op_isX : OpR X (compareOp .Is) rIsX := by
  intro pins s σ H x y v u Q I rx ry h
  obtain ⟨b, rfl, q⟩ := h
  cases (show u = Value.bool b from ry)
  cases x with
  | bl a =>
    cases (show v = Value.bool a from rx)
    by_cases e : a = b
    · subst e
      exact wpAny_is_self rfl ⟨.bl true, H, I, rfl, by simpa using q⟩
    · exact wpAny_is_other rfl (fun z => e (Value.bool.inj z)) ⟨.bl false, H, I, rfl, by simpa [e] using q⟩
  | _ =>
    have hq : Q (.bl false) H := by simpa using q
    first
      | (obtain ⟨t, rfl⟩ := rx; exact wpAny_is_other rfl (fun z => nomatch z) ⟨.bl false, H, I, rfl, hq⟩)
      | (cases rx; exact wpAny_is_other rfl (fun z => nomatch z) ⟨.bl false, H, I, rfl, hq⟩)
def rJoin (K : PySem.W.Frag) : V → List V → Hp → VK → Prop := fun x xs H Q => ∃ a p, ∃ ys : List Str, x = .str a ∧ xs = [.ref p] ∧ (SqL K H p (ys.map V.str) ∨ SqT K H p (ys.map V.str)) ∧ (ys.map (·.length)).sum + ys.length * a.length ≤ 16777216 ∧ Q (.str (Txt.join a ys)) H
theorem mt_joinA : MtR X "str.join" (rJoin X.K) := mt_join
end
section
variable {K : PySem.W.Frag} {σ : L2.St} {H H' : Hp} {te ta tb tl tk tv : TE} {v : V} {d : PyData} {vs : List V} {ds : List PyData} {tt : TT} {ws : List Nat}
theorem ev_join {a : Str} {ys : List Str} (ha : Ev ta σ H (.str a)) (hb : EvL tb σ H (ys.map V.str)) (hz : (ys.map (·.length)).sum + ys.length * a.length ≤ 16777216) : Ev (tBM K "str" (rJoin K) ta (tCons tb tNil)) σ H (.str (Txt.join a ys)) := fun H1 e Q q =>
  ha H1 e _ fun H2 e2 => ⟨rfl, hb H2 (e.trans e2) _ fun p H3 hp e3 h3 => ⟨a, p, ys, rfl, rfl, .inl (sq_of h3), hz, q H3 (e2.trans e3)⟩⟩
theorem ev_joinH {a : Str} {ys : List Str} {p : Addr} (ha : Ev ta σ H (.str a)) (hb : Ev tb σ H (.ref p)) (hx : SqL K H p (ys.map V.str)) (hz : (ys.map (·.length)).sum + ys.length * a.length ≤ 16777216) : Ev (tBM K "str" (rJoin K) ta (tCons tb tNil)) σ H (.str (Txt.join a ys)) := fun H1 e Q q =>
  ha H1 e _ fun H2 e2 => ⟨rfl, hb H2 (e.trans e2) _ fun H3 e3 => ⟨a, p, ys, rfl, rfl, .inl (ex_l ((e.trans e2).trans e3) hx), hz, q H3 (e2.trans e3)⟩⟩
theorem cut_sub (z : Str) (lo hi : Option Int) {c : Nat} (hc : c ∈ (cutS z lo hi).cps.toList) : c ∈ z.cps.toList := by
  unfold cutS at hc
  simp only at hc
  exact List.mem_of_mem_drop (List.mem_of_mem_take hc)
theorem given_txtF {w : Str} (t : Nat → Bool) (u : Nat → V) : given w.cps.size (fun i => t (w.cps.getD i 0)) (fun i => u (w.cps.getD i 0)) = (w.cps.toList.filter t).map u := by
  have h := given_map w.cps.toList 0 t u
  have e : ∀ i, w.cps.toList.getD i 0 = w.cps.getD i 0 := fun i => PyProof.Rows.getD_list w i
  simp only [e, Array.length_toList] at h
  exact h
/-- a comprehension over a text, sieved -/
theorem el_lcSf {w : Str} {j : Nat} (t : Nat → Bool) (u : Nat → V) (h : Ev tl σ H (.str w)) (hz : w.cps.size ≤ 40000) (hw : ∀ x, wipe ((wipe σ ws).set j (some x)) ws = wipe σ ws)
    (ht : ∀ (c : Nat) H1, Ex H H1 → EvT tt ((wipe σ ws).set j (some (.str ⟨#[c]⟩))) H1 (t c)) (he : ∀ (c : Nat) H1, Ex H H1 → Ev te ((wipe σ ws).set j (some (.str ⟨#[c]⟩))) H1 (u c)) :
    EvL (tLc (iSeq K tl) (gName j) tt te ws) σ H ((w.cps.toList.filter t).map u) := by
  rw [← given_txtF]
  exact el_lcS (fun i => t (w.cps.getD i 0)) (fun i => u (w.cps.getD i 0)) h hz hw (fun i c H1 e hc => by rw [getD_of hc]; exact ht c H1 e) (fun i c H1 e hc _ => by rw [getD_of hc]; exact he c H1 e)
theorem eqv_nil (ds : List PyData) : PyData.eqv (.list ds) (.list []) = decide (ds = []) := by
  cases ds with
  | nil => rfl
  | cons a b => rfl
theorem shaped_nil : SeqAt.shaped (.list []) = true := by decide +kernel
/-- a new list of data against a new empty list -/
theorem ev_neNil {xs : List V} (ha : EvL ta σ H xs) (hb : ∀ H1, Ex H H1 → EvL tb σ H1 []) (hd : ∀ H1, Ex H H1 → DpAll K H1 xs ds) (hs : SeqAt.shaped (.list ds) = true) : Ev (tOp (rNeA K) ta tb) σ H (.bl (!decide (ds = []))) := fun H1 e Q q =>
  ha H1 e _ fun p H2 hp e2 h2 => hb H2 (e.trans e2) H2 (Ex.refl H2) _ fun r H3 hr e3 h3 => .inr ⟨.list ds, .list [], .lst (sq_of (e3 _ _ h2)) (hd H3 ((e.trans e2).trans e3)), .lst (sq_of h3) .nil, hs, shaped_nil, by rw [eqv_nil]; exact q H3 (e2.trans e3)⟩
theorem ev_eqNil {xs : List V} (ha : EvL ta σ H xs) (hb : ∀ H1, Ex H H1 → EvL tb σ H1 []) (hd : ∀ H1, Ex H H1 → DpAll K H1 xs ds) (hs : SeqAt.shaped (.list ds) = true) : Ev (tOp (rEqA K) ta tb) σ H (.bl (decide (ds = []))) := fun H1 e Q q =>
  ha H1 e _ fun p H2 hp e2 h2 => hb H2 (e.trans e2) H2 (Ex.refl H2) _ fun r H3 hr e3 h3 => .inr ⟨.list ds, .list [], .lst (sq_of (e3 _ _ h2)) (hd H3 ((e.trans e2).trans e3)), .lst (sq_of h3) .nil, hs, shaped_nil, by rw [eqv_nil]; exact q H3 (e2.trans e3)⟩
/-- a held list against a new empty one -/
theorem ev_neNilH {p : Addr} {xs : List V} (ha : Ev ta σ H (.ref p)) (hx : SqL K H p xs) (hb : ∀ H1, Ex H H1 → EvL tb σ H1 []) (hd : DpAll K H xs ds) (hs : SeqAt.shaped (.list ds) = true) : Ev (tOp (rNeA K) ta tb) σ H (.bl (!decide (ds = []))) := fun H1 e Q q =>
  ha H1 e _ fun H2 e2 => hb H2 (e.trans e2) H2 (Ex.refl H2) _ fun r H3 hr e3 h3 => .inr ⟨.list ds, .list [], .lst (ex_l ((e.trans e2).trans e3) hx) (DpAll.ext ((e.trans e2).trans e3) hd), .lst (sq_of h3) .nil, hs, shaped_nil, by rw [eqv_nil]; exact q H3 (e2.trans e3)⟩
theorem dpAll_strs : ∀ {ns : List Str}, DpAll K H (ns.map V.str) (ns.map PyData.str)
  | [] => .nil
  | n :: ns => .cons (.str n) dpAll_strs
theorem shaped_flat {ds : List PyData} (h1 : ∀ d ∈ ds, d.canLay0 = true ∧ d.depth = 0) : SeqAt.shaped (.list ds) = true := by
  have key : ∀ ds : List PyData, (∀ d ∈ ds, d.canLay0 = true ∧ d.depth = 0) → PyData.canLayAll0 ds = true ∧ PyData.depthAll ds = 0 := by
    intro ds
    induction ds with
    | nil => intro _; exact ⟨rfl, rfl⟩
    | cons d r ih =>
      intro h
      obtain ⟨a, b⟩ := ih fun d hd => h d (List.mem_cons_of_mem _ hd)
      obtain ⟨c, e⟩ := h d List.mem_cons_self
      simp [PyData.canLayAll0, PyData.depthAll, a, b, c, e]
  obtain ⟨a, b⟩ := key ds h1
  unfold SeqAt.shaped
  simp [PyData.canLay0, PyData.depth, a, b]
theorem shaped_ints (ns : List Int) : SeqAt.shaped (.list (ns.map PyData.int)) = true := shaped_flat fun d hd => by
  obtain ⟨i, _, rfl⟩ := List.mem_map.mp hd
  exact ⟨rfl, rfl⟩
theorem shaped_signs {cs : List Nat} (h : ∀ c ∈ cs, c < 0x110000) : SeqAt.shaped (.list (cs.map fun c => PyData.str ⟨#[c]⟩)) = true := shaped_flat fun d hd => by
  obtain ⟨c, hc, rfl⟩ := List.mem_map.mp hd
  refine ⟨?_, rfl⟩
  simp only [PyData.canLay0, PyData.strOk]
  simpa using h c hc
end
end Kb
set_option Elab.async false
set_option linter.all false
set_option maxRecDepth 100000
set_option maxHeartbeats 4000000
namespace PySem.W
open PySem PySem.Spec PySem.Calls PyProof.Rows
section
variable {prog : Program} {w : World} {A : Around} {E : Value → Shared → Prop} {s : Shared} {K : Frag} {x D : Addr} {ox : Obj} {od : Option Obj}
theorem k0_findObj {C : Addr} {name : Str} {a g : Value} (hc : (clsIn K C).isSome = true) (ha : findIn K (.ref C) name = some (some a)) (hg : specialIn K a "__get__" = some (some g)) (ht : takesIn K a = some true) : findObj K C od name = some (.bind g a) := by
  obtain ⟨cd, hc⟩ := Option.isSome_iff_exists.mp hc
  unfold findObj
  rw [hc, Option.bind_some, ha, Option.bind_some]
  simp [hg, ht]
/-- e.__class__ of an error, with a dict or without -/
theorem k0_class {Q : Option Value → Shared → Prop} (hga : findIn K (.ref D) "__getattribute__" = some (some (.builtin "BaseException.__getattribute__"))) (hgt : findIn K (.ref D) "__getattr__" = some none) (hsub : subIn K (.ref D) (.type "BaseException") = some true)
    (hdct : hasDictIn K D = true) (ha : findIn K (.ref D) "__class__" = some (some (.builtin "object.__class__")))
    (hn : specialIn K (.builtin "object.__class__") "__get__" = some (some (.builtin "getset_descriptor.__get__"))) (htk : takesIn K (.builtin "object.__class__") = some true) (hm : mroIn K D (.type "object") = some true)
    (X : K.In s.heap) (I : InstAt s.heap x ox D od) (h : Q (some (.ref D)) { s with toks := s.toks + 1 }) : wpAny (model prog w) A (getAttr? (.ref x) "__class__") Q E s := by
  have hf : findObj K D od "__class__" = some (.bind (.builtin "getset_descriptor.__get__") (.builtin "object.__class__")) := k0_findObj (by obtain ⟨cd, hc, _⟩ := any_some hdct; rw [hc]; rfl) ha hn htk
  obtain ⟨hp, g, d, t, os⟩ := s
  have L0 := I.type (M := model prog w)
  have L1 := looks_findIn (M := model prog w) X hga
  have L2 := looks_findIn (M := model prog w) X hgt
  have L3 := looks_find (M := model prog w) X I hf
  have sub : Looks (model prog w) hp (isInstance (.ref x) (.type "BaseException")) true := L0.andThen (looks_subIn X hsub)
  have z0 : (false && onTheHeap (Value.builtin "BaseException.__getattribute__")) = false := rfl
  have z2 : (Value.builtin "BaseException.__getattribute__" == Value.builtin "object.__getattribute__") = false := by decide +kernel
  have z1 : (onTheHeap (Value.ref D) && Value.builtin "BaseException.__getattribute__" == Value.builtin "object.__getattribute__") = false := by rw [z2]; rfl
  unfold getAttr? getAttrBy? getAttrBy
  refine wpAny_bind (wpAny_mkText (wpAny_bind (wpAny_attempt (wpAny_holding (wpAny_bind (L0.at (wpAny_bind (L1.at ?_))))))))
  show wpAny _ _ (if (onTheHeap (Value.ref D) && Value.builtin "BaseException.__getattribute__" == Value.builtin "object.__getattribute__") = true then _ else _) _ _ _
  rw [z1, if_neg Bool.false_ne_true]
  unfold getAttrByItsOwn hookBefore
  refine wpAny_bind ?_
  rw [if_pos (show onTheHeap (Value.ref D) = true from rfl)]
  refine L2.at ?_
  refine wpAny_bind (wpAny_attempt (wpAny_holding ?_))
  unfold callGetattribute
  rw [z0, if_neg Bool.false_ne_true]
  unfold boundAndCalled
  rw [PySem.F.excAttr_ValueError.ga.bind (.ref x)]
  refine wpAny_bind (wpAny_pure ?_)
  show wpAny _ _ (call (.builtin "BaseException.__getattribute__") [.ref x, .str "__class__" t]) _ _ _
  refine wpAny_call (codeAny_call_builtin PySem.F.excAttr_ValueError.ga.plain PySem.F.entry_bexc_ga ?_)
  refine @check_slot (model prog w) _ _ ⟨hp, g, d, t + 1, os⟩ "BaseException.__getattribute__" "BaseException" "__getattribute__" (.ref x) [.str "__class__" t] [] _ (by decide +kernel) (by decide +kernel) sub (PySem.F.args_bexc_ga (.ref x) (.str "__class__" t)) ?_
  unfold Builtin.«object.__getattribute__»
  refine wpAny_bind (wpAny_of_eq (a := ((Value.ref x : Value), [Value.str "__class__" t])) (by first | rfl | (simp only [slotArgs]; rfl)) ?_)
  refine wpAny_bind (wpAny_pure (wpAny_bind (L0.at (wpAny_bind (L3.at ?_)))))
  show wpAny _ _ (holding [Value.builtin "object.__class__"] (call (.builtin "getset_descriptor.__get__") [.builtin "object.__class__", .ref x, .ref D]) >>= ret) _ _ _
  refine wpAny_bind (wpAny_holding (wpAny_call (class_get (s := ⟨hp, g, d, t + 1, os⟩) (ox := ox) (od := od) X I hm ?_)))
  refine wpAny_pure ?_
  show wpAny _ _ (handedOut (.ref D)) _ _ _
  rw [handedOut_of (v := .ref D) rfl]
  first
    | exact wpAny_pure (wpAny_pure h)
    | exact wpAny_pure h
    | exact wpAny_pure (wpAny_bind (wpAny_pure (wpAny_pure h)))
theorem k0_kitx (hga : findIn K (.ref D) "__getattribute__" = some (some (.builtin "BaseException.__getattribute__"))) (hgt : findIn K (.ref D) "__getattr__" = some none) (hsub : subIn K (.ref D) (.type "BaseException") = some true) (hdct : hasDictIn K D = true) (ha : findIn K (.ref D) "__class__" = some (some (.builtin "object.__class__")))
    (hn : specialIn K (.builtin "object.__class__") "__get__" = some (some (.builtin "getset_descriptor.__get__"))) (htk : takesIn K (.builtin "object.__class__") = some true) (hm : mroIn K D (.type "object") = some true) :
    KitX K (.ref x) (.ref D) (fun h => InstAt h x ox D od) where
  ty := fun _ _ _ I => I.type
  it := fun _ _ X _ => by
    obtain ⟨cdD, hcD, _⟩ := any_some hdct
    unfold clsIn at hcD
    split at hcD
    · rename_i c' d' cd' sl' ho
      intro A' Q' E' s' k q
      unfold isType loadHead
      exact wpAny_bind (wpAny_loadPart (k _ _ (X _ _ ho)) (wpAny_pure q))
    · cases hcD
  ne := fun h tp dd its n sl X htp => by
    obtain ⟨cdD, hcD, _⟩ := any_some hdct
    refine Bool.eq_false_iff.mpr fun q => ?_
    have e : D = tp := Value.ref.inj (beq_iff_eq.mp q)
    subst e
    unfold clsIn at hcD
    split at hcD
    · rename_i c' d' cd' sl' ho
      have z := (X _ _ ho).symm.trans htp
      cases z
    · cases hcD
  ca := fun X I k => k0_class hga hgt hsub hdct ha hn htk hm X I k
end
end PySem.W
namespace Kb
open PySem PySem.Spec PyProof.Rows L2 L2H
/-! ### an error that a suite holds, seen through a pin -/
/-- the dict of the error stands, if it has one -/
def XdAt (H : Hp) (d : Option Addr) : Prop := d = none ∨ ∃ dd fs, d = some dd ∧ H dd = some (.xd fs)
theorem XdAt.same {H H' : Hp} {d : Option Addr} (h : XdAt H d) (e : Evl.Ex H H') : XdAt H' d := by
  rcases h with h | ⟨dd, fs, h1, h2⟩
  · exact .inl h
  · exact .inr ⟨dd, fs, h1, e _ _ h2⟩
def rIsP (K : PySem.W.Frag) (a : Addr) (cls : Value) (d : Option Addr) : List V → Hp → VK → Prop := fun xs H Q => ∃ (D : Addr) (c : V) (cv : Value) (b : Bool), cls = .ref D ∧ ExcC K D ∧ xs = [.ref a, c] ∧ (∀ u, RelV c u → u = cv) ∧ PySem.W.kitOne K (.ref D) cv = some b ∧ XdAt H d ∧ Q (.bl b) H
theorem call_isP {X : Cx} {a : Addr} {oe : Obj} {cls : Value} {d : Option Addr} (hp : (a, oe) ∈ X.pn) (hz : Zc cls d oe) (hf : ∃ vs, oe.data = .fields vs) : CallR X (.builtin "isinstance") (rIsP X.K a cls d) := by
  intro pins s σ H xs us Q I r h
  obtain ⟨D, c, cv, b, rfl, C, rfl, hcv, e, hx, q⟩ := h
  cases r with
  | cons rx rr =>
    cases rr with
    | cons rt rr =>
      cases rr
      cases rx
      have ec := hcv _ rt
      subst ec
      obtain ⟨hget, _⟩ := I.pin (a, oe) (List.mem_append.mpr (.inl hp))
      obtain ⟨vs, hv⟩ := hf
      have J : ∃ od, PySem.W.InstAt s.heap a oe D od := by
        rcases hx with hx | ⟨dd, fs, hx, hd⟩
        · subst hx
          exact ⟨none, hget, hz.1, by unfold PySem.W.notCls; rw [hv] <;> rfl, by rw [hz.2]; trivial⟩
        · subst hx
          have hx : ObjOk X.prog X.w H s.heap dd (.xd fs) := I.hok dd _ hd
          obtain ⟨mA, hns, hr⟩ := hx
          obtain ⟨od, ho, hl⟩ := lookIn_ns hns
          exact ⟨some od, hget, hz.1, by unfold PySem.W.notCls; rw [hv] <;> rfl, by rw [hz.2]; exact ho⟩
      obtain ⟨od, J⟩ := J
      exact PySem.W.kia_one (PySem.W.k0_kitx C.hg C.hk C.hs C.hd C.ha C.hn C.ht C.hm) I.kIn J e (fun z => nomatch z) fun tk => ⟨.bl b, H, I.kept (t' := tk) fun _ _ z => z, rfl, q⟩
def tXp (K : PySem.W.Frag) (a : Addr) (cls : Value) (d : Option Addr) (f : Str) (te : TE) : TE := fun σ H Q => te σ H fun x H1 => x = .ref a ∧ ∃ (C dd : Addr) (fs : List (Str × V)) (v : V), cls = .ref C ∧ XfC K C ∧ PySem.W.findIn K (.ref C) f = some none ∧ d = some dd ∧ H1 dd = some (.xd fs) ∧ fs.lookup f = some v ∧ Q v H1
theorem pe_xp {X : Cx} {a : Addr} {oe : Obj} {cls : Value} {d : Option Addr} {e : Expr} {te : TE} {pos : Pos} {n : Str} (hp : (a, oe) ∈ X.pn) (hz : Zc cls d oe) (hf : ∃ vs, oe.data = .fields vs) (he : PE X e te)
    (hb : attributeBase e n X.env (eval e X.env) = eval e X.env := by rfl) : PE X (.Attribute e n pos) (tXp X.K a cls d n te) := by
  refine ⟨fun pins s σ H Q I h => ?_⟩
  refine attr_of hb (thn (he.run pins s σ H _ I h) fun u s1 hh => ?_)
  obtain ⟨x, H1, I1, rx, ex, C, dd, fs, v, ec, T, hno, ed, ea, l, q⟩ := hh
  subst ex
  obtain rfl : u = Value.ref a := rx
  subst ec
  subst ed
  obtain ⟨ha, _⟩ := I1.pin (a, oe) (List.mem_append_left _ hp)
  obtain ⟨vs, hd⟩ := hf
  have hx : ObjOk X.prog X.w H1 s1.heap dd (.xd fs) := I1.hok dd _ ea
  obtain ⟨mA, hns, hr⟩ := hx
  obtain ⟨od, ho, hl⟩ := lookIn_ns hns
  obtain ⟨u, hu, ru⟩ := RelO.some_of (v := v) (o := mA n) (by rw [← l]; exact hr n)
  have J : PySem.W.InstAt s1.heap a oe C (some od) := ⟨ha, hz.1, by unfold PySem.W.notCls; rw [hd] <;> rfl, by rw [hz.2]; exact ho⟩
  exact HandSPX.exc_get I1.kIn J T.ga T.gg T.exC (PySem.W.findObj_own T.hdC hno rfl (by rw [hl, hu])) (handed_of ru) ⟨v, H1, I1.tok _, ru, q⟩
theorem pe_xpK {K : PySem.W.Frag} {X : Cx} {a : Addr} {oe : Obj} {cls : Value} {d : Option Addr} {e : Expr} {te : TE} {pos : Pos} {n : Str} (hK : X.K = K) (hp : (a, oe) ∈ X.pn) (hz : Zc cls d oe) (hf : ∃ vs, oe.data = .fields vs) (he : PE X e te)
    (hb : attributeBase e n X.env (eval e X.env) = eval e X.env := by rfl) : PE X (.Attribute e n pos) (tXp K a cls d n te) := hK ▸ pe_xp hp hz hf he hb
end Kb
set_option Elab.async false
set_option linter.all false
set_option maxRecDepth 100000
set_option maxHeartbeats 4000000
namespace Kb
open PySem PySem.Spec PyProof.Rows L2
/-! ### repr -/
def dictD : PyData := .dict [(.str "k", .int 1)]
def dictO : HO := .dK [(.inr "k", .int 1)]
/-- v stands for d: data of any depth without a dict, or the dict {'k': 1} -/
def Rp (K : PySem.W.Frag) (H : Hp) (v : V) (d : PyData) : Prop := (Dp K H v d ∧ d.hasDict = false) ∨ ∃ a, v = .ref a ∧ H a = some dictO ∧ d = dictD
structure Sh (d : PyData) : Prop where
  s : d.showable = true
  l : d.shown.length ≤ sizeLine
  d : d.depth ≤ 5
def rRepr (K : PySem.W.Frag) : List V → Hp → VK → Prop := fun xs H Q => ∃ v d, xs = [v] ∧ Rp K H v d ∧ Sh d ∧ Q (.str d.shown) H
section
variable {X : Cx} {pins : List (Addr × Obj)} {σ : L2.St} {H : Hp} {s : Shared} {a : Addr}
theorem dict_reads (I : Inv X pins σ H s) (h : H a = some dictO) : Reads s.heap (.ref a) dictD [a] ∧ a ≠ sysModules := by
  have z : ObjOk X.prog X.w H s.heap a (.dK [(.inr "k", .int 1)]) := I.hok a _ h
  obtain ⟨_, hs, vs, kv, o, es, ep, e1, ⟨e2, _, _⟩, e3, _, pr, _⟩ := z
  refine ⟨?_, beq_eq_false_iff_ne.mp hs⟩
  cases kv with
  | @cons _ q _ r h1 h2 =>
    cases h2
    obtain ⟨k, u⟩ := q
    obtain ⟨hk, t, hu⟩ := h1
    dsimp only at hk hu
    subst hk hu
    generalize hes : es.toList = l at pr
    cases pr with
    | @cons e _ es2 _ h3 h4 h5 =>
      cases h5
      have hkey : ∃ t', e.key = Value.str "k" t' := by
        rcases keyIs_shape (k := (.inr "k" : Key)) (v := e.key) h3 with ⟨i, t', hi, _⟩ | ⟨x, t', hx, hv⟩
        · cases hi
        · cases hx
          exact ⟨t', hv⟩
      obtain ⟨t', hkey⟩ := hkey
      have r1 : ReadsAll s.heap (es.toList.map (·.key)) [PyData.str "k"] ([] ++ []) := by
        rw [hes]
        show ReadsAll s.heap [e.key] _ _
        rw [hkey]
        exact .cons (.str _ _) .nil
      have r2 : ReadsAll s.heap (es.toList.map (·.val)) [PyData.int 1] ([] ++ []) := by
        rw [hes]
        show ReadsAll s.heap [e.val] _ _
        rw [h4]
        exact .cons (.int _ _) .nil
      exact Reads.dict (kvs := [(PyData.str "k", PyData.int 1)]) e1 e2 e3 r1 r2
theorem call_repr (hg : X.A.guards = some []) (hu : X.A.units + 16 < cLine) : CallR X (.builtin "repr") (rRepr X.K) := by
  intro pins s σ H xs us Q I r h
  obtain ⟨v, d, rfl, hv, hs, q⟩ := h
  cases r with
  | @cons _ u _ us' rv rr =>
    cases rr
    have hd : X.A.units + (d.depth + 1) < cLine := by have := hs.d; omega
    rcases hv with ⟨hv, hn⟩ | ⟨a, rfl, ha, rfl⟩
    · cases hv with
      | non =>
        obtain rfl : u = Value.none := rv
        exact call_repr_gives (typeIs_none s) F.slot_NoneType_repr F.entry_NoneType_repr (F.args_NoneType_repr_1 _) gives_none_repr ⟨.str _, H, I.tok _, ⟨_, rfl⟩, q⟩ (hx := by decide)
      | bl b =>
        obtain rfl : u = Value.bool b := rv
        refine PySem.P.repr_of_bool ⟨.str _, H, I.tok _, ⟨_, rfl⟩, ?_⟩
        have e : PyData.shown (.bool b) = (if b then Str.ofString "True" else Str.ofString "False") := by simp only [PyData.shown]
        rw [e] at q
        cases b <;> exact q
      | int i =>
        obtain ⟨t, rfl⟩ := rv
        refine PySem.P.repr_of_int (by have z := hs.s; simpa only [PyData.showable, decide_eq_true_eq] using z) ⟨.str _, H, I.tok _, ⟨_, rfl⟩, ?_⟩
        have e : PyData.shown (.int i) = (toString i : String) := by simp only [PyData.shown]
        rw [e] at q
        exact q
      | str x =>
        obtain ⟨t, rfl⟩ := rv
        have e : PyData.shown (.str x) = reprText x := by simp only [PyData.shown]
        refine PySem.P.repr_of_str ⟨.str _, H, I.tok _, ⟨_, rfl⟩, ?_⟩ (by have z := hs.l; rw [e] at z; exact z)
        rw [e] at q
        exact q
      | @lst a ys ds h1 h2 =>
        obtain rfl : u = Value.ref a := rv
        obtain ⟨as, rd⟩ := Dp.reads I _ _ _ (.lst h1 h2) (show RelV (.ref a) (.ref a) from rfl)
        exact repr_of_reads' rd hs.s (PyData.noDict_hsm hn) hg hd (fun _ _ e => e) (fun h' u tk hk => ⟨.str _, H, I.kept (t' := tk) hk, ⟨u, rfl⟩, q⟩) hs.l
      | @tup a ys ds h1 h2 =>
        obtain rfl : u = Value.ref a := rv
        obtain ⟨as, rd⟩ := Dp.reads I _ _ _ (.tup h1 h2) (show RelV (.ref a) (.ref a) from rfl)
        exact repr_of_reads' rd hs.s (PyData.noDict_hsm hn) hg hd (fun _ _ e => e) (fun h' u tk hk => ⟨.str _, H, I.kept (t' := tk) hk, ⟨u, rfl⟩, q⟩) hs.l
    · obtain rfl : u = Value.ref a := rv
      obtain ⟨rd, hne⟩ := dict_reads I ha
      exact repr_of_reads' rd hs.s (fun _ hm => hne (List.mem_singleton.mp hm).symm) hg hd (fun _ _ e => e) (fun h' u tk hk => ⟨.str _, H, I.kept (t' := tk) hk, ⟨u, rfl⟩, q⟩) hs.l
end
/-! ### the shapes are shown -/
theorem weight_int {n : Int} (h0 : 0 ≤ n) (h1 : n < 1000000) : PyData.weight (.int n) ≤ 20 := by
  simp only [PyData.weight]
  split
  · omega
  · rename_i hz
    have hne : n.natAbs ≠ 0 := fun z => hz (by have : n = 0 := by omega
                                               rw [this]; rfl)
    have : n.natAbs.log2 < 20 := (Nat.log2_lt hne).mpr (by omega)
    omega
theorem sh_int {n : Int} (h0 : 0 ≤ n) (h1 : n < 1000000) : PyData.showable (.int n) = true := by
  simp only [PyData.showable, decide_eq_true_eq]
  by_cases hz : n.natAbs = 0
  · rw [hz]
    decide
  · have : n.natAbs.log2 < 20 := (Nat.log2_lt hz).mpr (by omega)
    omega
theorem sh_of {d : PyData} (h1 : d.showable = true) (h2 : PyData.canLay0 d = true) (h3 : d.depth ≤ 5) (h4 : d.weight ≤ 1000) (h5 : d.intsShort 13 = true) : Sh d := by
  refine ⟨h1, ?_, h3⟩
  have hl : PyData.layable0 d = true := by
    unfold PyData.layable0
    rw [h2, decide_eq_true (show d.depth ≤ 64 by omega), decide_eq_true (show d.weight ≤ 2 ^ 20 by omega)]
    rfl
  exact Nat.le_trans (PyProof.Rows.shown_le13 hl h5) (by decide)
theorem sh_list {n : Int} (h0 : 0 ≤ n) (h1 : n < 100) : Sh (.list [.int n, .list [], .str "later"]) := by
  have w := weight_int h0 (by omega)
  refine sh_of ?_ (by simp only [PyData.canLay0, PyData.canLayAll0]; decide +kernel) (by simp only [PyData.depth, PyData.depthAll]; decide) ?_ ?_
  · simp only [PyData.showable, PyData.showableAll, Bool.and_true]
    exact sh_int h0 (by omega)
  · have e : PyData.weight (.list [.int n, .list [], .str "later"]) = PyData.weight (.int n) + 1 + (0 + 1 + (5 + 1 + 0)) := rfl
    rw [e]
    omega
  · have e : PyData.intsShort 13 (.list [.int n, .list [], .str "later"]) = (decide ((PyData.shown (.int n)).length ≤ 13) && true) := rfl
    rw [e, decide_eq_true (PyData.shown_int_le2 (by omega) (by omega))]
    rfl
theorem sh_tup {n : Int} (h0 : 0 ≤ n) (h1 : n < 1000000) : Sh (.tuple [.str "a", .tuple [.int n]]) := by
  have w := weight_int h0 (by omega)
  refine sh_of ?_ (by simp only [PyData.canLay0, PyData.canLayAll0]; decide +kernel) (by simp only [PyData.depth, PyData.depthAll]; decide) ?_ ?_
  · simp only [PyData.showable, PyData.showableAll, Bool.and_true, Bool.true_and]
    exact sh_int h0 (by omega)
  · have e : PyData.weight (.tuple [.str "a", .tuple [.int n]]) = 1 + 1 + ((PyData.weight (.int n) + 1 + 0) + 1 + 0) := rfl
    rw [e]
    omega
  · have e : PyData.intsShort 13 (.tuple [.str "a", .tuple [.int n]]) = (true && ((decide ((PyData.shown (.int n)).length ≤ 13) && true) && true)) := rfl
    rw [e, decide_eq_true (PyData.shown_int_le2 (by omega) (by omega))]
    rfl
theorem sh_dict : Sh dictD := ⟨by decide +kernel, by decide +kernel, by decide +kernel⟩
end Kb
set_option Elab.async false
set_option linter.all false
set_option maxRecDepth 100000
set_option maxHeartbeats 4000000
namespace Kb
open PySem PySem.Spec PyProof.Rows L2 Evl
section
variable {K : PySem.W.Frag} {σ : L2.St} {H H' : Hp} {te ta tb tl tm : TE} {tm' : TO} {v : V} {d e : PyData} {vs ys : List V} {ds es : List PyData} {a : Addr}
theorem ev_neDD (ha : EvD ta σ H (fun w H1 => Dp K H1 w d)) (hb : EvD tb σ H (fun w H1 => Dp K H1 w e)) (s1 : SeqAt.shaped d = true) (s2 : SeqAt.shaped e = true) : Ev (tOp (rNeA K) ta tb) σ H (.bl (!PyData.eqv d e)) := fun H1 x Q q =>
  ha H1 x _ fun w1 H2 x2 d1 => hb H2 (x.trans x2) _ fun w2 H3 x3 d2 => .inr ⟨d, e, Dp.ext x3 d1, d2, s1, s2, q H3 (x2.trans x3)⟩
theorem ev_eqDD (ha : EvD ta σ H (fun w H1 => Dp K H1 w d)) (hb : EvD tb σ H (fun w H1 => Dp K H1 w e)) (s1 : SeqAt.shaped d = true) (s2 : SeqAt.shaped e = true) : Ev (tOp (rEqA K) ta tb) σ H (.bl (PyData.eqv d e)) := fun H1 x Q q =>
  ha H1 x _ fun w1 H2 x2 d1 => hb H2 (x.trans x2) _ fun w2 H3 x3 d2 => .inr ⟨d, e, Dp.ext x3 d1, d2, s1, s2, q H3 (x2.trans x3)⟩
/-- t[:-1] -/
theorem evd_init (ha : Ev ta σ H (.ref a)) (hx : SqT K H a (ys ++ [v])) (hd : DpAll K H ys es) (hm : EvO tm' σ H (some (-1))) : EvD (tSl (rSl K) ta tNoPart tm') σ H (fun w H1 => Dp K H1 w (.tuple es)) := fun H1 x Q q =>
  ha H1 x _ fun H2 x2 => hm H2 (x.trans x2) _ fun H3 x3 => by
    have hlen : (ys ++ [v]).length = ys.length + 1 := by simp
    have e1 : HT.sIx (ys ++ [v]).length (ys ++ [v]).length (some (-1)) = ys.length := by
      rw [hlen]
      simp only [HT.sIx]
      rw [if_pos (by decide)]
      omega
    have ecut : cutV (ys ++ [v]) none (some (-1)) = ys := by
      unfold cutV
      rw [e1]
      show ((ys ++ [v]).drop 0).take (ys.length - 0) = ys
      simp
    refine .inr (.inl ⟨a, _, rfl, ex_t ((x.trans x2).trans x3) hx, fun z => ?_, fun _ p hp => ?_⟩)
    · rw [e1, hlen] at z
      omega
    · rw [ecut]
      exact q _ _ ((x2.trans x3).trans (Ex.new hp)) (.tup (st_of upd_same) (DpAll.ext (((x.trans x2).trans x3).trans (Ex.new hp)) hd))
theorem ev_last (ha : Ev ta σ H (.ref a)) (hx : SqT K H a (ys ++ [v])) (hm : Ev tm σ H (.int (-1))) : Ev (tOp (rIx K) ta tm) σ H v := by
  refine ev_op ha hm (rv_iT hx ?_)
  have hlen : (ys ++ [v]).length = ys.length + 1 := by simp
  unfold atI ixN
  rw [hlen, if_neg (by decide), if_pos (by omega)]
  show (ys ++ [v])[_]? = _
  have : ((-1 : Int) + ((ys.length + 1 : Nat) : Int)).toNat = ys.length := by omega
  first
    | (rw [this]; simp)
    | (simp; omega)
theorem ev_repr (hv : Ev te σ H v) (h : Dp K H v d) (hn : d.hasDict = false) (hs : Sh d) : Ev (tCB (rRepr K) (tCons te tNil)) σ H (.str d.shown) := fun H1 x Q q => hv H1 x _ fun H2 x2 => ⟨v, d, rfl, .inl ⟨Dp.ext (x.trans x2) h, hn⟩, hs, q H2 x2⟩
theorem ev_neg {i : Int} (h : Ev te σ H (.int i)) : Ev (tUn (rU fun i => .int (-i)) te) σ H (.int (-i)) := ev_un h ru_neg
/-- for x in l, any target -/
theorem q_forLg {tu tz : TS} {xs : List V} {g : TG} {D : Ends} (h : Ev tl σ H (.ref a)) (hx : SqL K H a xs) (Pv : Nat → L2.St → Hp → Prop) (h0 : ∀ H1, Ex H H1 → Pv 0 σ H1) (hl : ∀ i σ' H', i ≤ xs.length → Pv i σ' H' → SqL K H' a xs)
    (hs : ∀ i x σ' H', xs[i]? = some x → Pv i σ' H' → g x σ' H' fun σ2 H2 => tu { ({ D with nx := tz D } : Ends) with nx := Pv (i + 1), ct := Pv (i + 1), bk := tz D } σ2 H2) (hd : ∀ σ' H', Pv xs.length σ' H' → tz D σ' H') : tSeq (tFor (iSeq K tl) g tu) tz D σ H :=
  .inl (h H (Ex.refl H) _ fun H1 e => ⟨a, rfl, ⟨xs, ex_l e hx⟩, for_list (D := { D with nx := tz D }) Pv (h0 H1 e) hl hs hd⟩)
end
end Kb
set_option Elab.async false
set_option linter.all false
set_option maxRecDepth 100000
set_option maxHeartbeats 4000000
namespace Kb
open PySem PySem.Spec PyProof.Rows L2 Evl
def rListQ (K : PySem.W.Frag) : List V → Hp → VK → Prop := fun xs H Q => ∃ p ys, xs = [V.ref p] ∧ (SqL K H p ys ∨ SqT K H p ys) ∧ ∀ l, H l = none → Q (V.ref l) (upd H l (.lst ys))
def rListS : List V → Hp → VK → Prop := fun xs H Q => ∃ z : Str, xs = [V.str z] ∧ z.cps.size ≤ sizeLine ∧ ∀ l, H l = none → Q (V.ref l) (upd H l (.lst (z.cps.toList.map fun c => V.str ⟨#[c]⟩)))
theorem call_listS {X : Cx} (hc : X.calm = true) : CallR X (.type "list") rListS := by
  intro pins s σ H xs us Q I r h
  obtain ⟨z, rfl, hz, q⟩ := h
  obtain ⟨u, rfl, ru⟩ := vals1 r
  obtain ⟨t, rfl⟩ := ru
  refine call_list_str (I.ok.hd hc) z t (fun h' tk acc c' hk e hi => ?_) hz
  have hlen : (z.cps.toList.map fun c => V.str ⟨#[c]⟩).length = z.cps.size := by rw [List.length_map, Array.length_toList]
  refine ⟨.ref s.heap.objs.size, upd H s.heap.objs.size (.lst (z.cps.toList.map fun c => V.str ⟨#[c]⟩)), I.laid hk (Nat.le_refl _) ⟨by rw [hlen]; exact hz, acc.toList, c', ?_, by rw [Array.toArray_toList]; exact e⟩, rfl, q _ (I.hok.fresh (Nat.le_refl _))⟩
  refine vals_of_idx _ _ (by rw [hlen, Array.length_toList]; exact hi.1) fun j u hj => ?_
  obtain ⟨c, t', hc, rfl⟩ := hi.2 j u (by rw [← Array.getElem?_toList]; exact hj)
  exact ⟨.str ⟨#[c]⟩, by rw [List.getElem?_map, Array.getElem?_toList, hc]; rfl, ⟨_, rfl⟩⟩
def rListA (K : PySem.W.Frag) : List V → Hp → VK → Prop := fun xs H Q => rListQ K xs H Q ∨ rListS xs H Q
theorem callA_list {X : Cx} (hc : X.calm = true) : CallR X (.type "list") (rListA X.K) := CallR.or call_list_of (call_listS hc)
theorem el_listS {K : PySem.W.Frag} {σ : L2.St} {H : Hp} {ta : TE} {z : Str} (ha : Ev ta σ H (.str z)) (h : z.cps.size ≤ sizeLine) : EvL (tCB (rListA K) (tCons ta tNil)) σ H (z.cps.toList.map fun c => V.str ⟨#[c]⟩) := fun H1 e Q q =>
  ha H1 e _ fun H2 e2 => .inr ⟨z, rfl, h, fun l hl => q l _ (fresh_back e2 hl) (e2.trans (Ex.new hl)) upd_same⟩
section
variable {K : PySem.W.Frag} {σ : L2.St} {H H' : Hp} {te ta tb tl tm : TE} {v : V} {d e : PyData} {vs xs ys : List V} {ds es : List PyData} {a p : Addr} {tt : TT} {ws : List Nat}
theorem el_cat (ha : EvL ta σ H xs) (hb : EvL tb σ H ys) (hz : xs.length + ys.length ≤ 100000) : EvL (tOp (rAdd K) ta tb) σ H (xs ++ ys) := fun H1 e Q q =>
  ha H1 e _ fun l H2 hl e2 h2 => hb H2 (e.trans e2) _ fun m H3 hm e3 h3 => .inr (.inr (.inl ⟨l, m, xs, ys, rfl, rfl, e3 _ _ h2, h3, sz_of hz, fun r hr => q r _ (fresh_back (e2.trans e3) hr) ((e2.trans e3).trans (Ex.new hr)) upd_same⟩))
/-- a held list and a new one -/
theorem el_catH (ha : Ev ta σ H (.ref a)) (hx : H a = some (.lst xs)) (hb : EvL tb σ H ys) (hz : xs.length + ys.length ≤ 100000) : EvL (tOp (rAdd K) ta tb) σ H (xs ++ ys) := fun H1 e Q q =>
  ha H1 e _ fun H2 e2 => hb H2 (e.trans e2) _ fun m H3 hm e3 h3 => .inr (.inr (.inl ⟨a, m, xs, ys, rfl, rfl, e3 _ _ (e2 _ _ (e _ _ hx)), h3, sz_of hz, fun r hr => q r _ (fresh_back (e2.trans e3) hr) ((e2.trans e3).trans (Ex.new hr)) upd_same⟩))
theorem el_listT (ha : Ev ta σ H (.ref a)) (h : SqT K H a xs) : EvL (tCB (rListA K) (tCons ta tNil)) σ H xs := fun H1 e Q q =>
  ha H1 e _ fun H2 e2 => .inl ⟨a, xs, rfl, .inr (ex_t (e.trans e2) h), fun l hl => q l _ (fresh_back e2 hl) (e2.trans (Ex.new hl)) upd_same⟩
theorem el_listL (ha : Ev ta σ H (.ref a)) (h : SqL K H a xs) : EvL (tCB (rListA K) (tCons ta tNil)) σ H xs := fun H1 e Q q =>
  ha H1 e _ fun H2 e2 => .inl ⟨a, xs, rfl, .inl (ex_l (e.trans e2) h), fun l hl => q l _ (fresh_back e2 hl) (e2.trans (Ex.new hl)) upd_same⟩
/-- over a new list of pairs -/
theorem el_prtN {us : List (V × V)} {i1 i2 : Nat} (f : Nat → Bool) (g : Nat → V) (h : EvL tl σ H xs) (hd : Prt K H xs us ds) (hz : xs.length ≤ 40000)
    (hw : ∀ x y, wipe (((wipe σ ws).set i1 (some x)).set i2 (some y)) ws = wipe σ ws)
    (ht : ∀ (i : Nat) (u : V × V) H1, Ex H H1 → us[i]? = some u → EvT tt (((wipe σ ws).set i1 (some u.1)).set i2 (some u.2)) H1 (f i))
    (he : ∀ (i : Nat) (u : V × V) H1, Ex H H1 → us[i]? = some u → f i = true → Ev te (((wipe σ ws).set i1 (some u.1)).set i2 (some u.2)) H1 (g i)) :
    EvL (tLc (iSeq K tl) (gTup K 2 (gCons (gName i1) (gCons (gName i2) gNil))) tt te ws) σ H (given us.length f g) := by
  have up : ∀ {i : Nat} {x : V}, xs[i]? = some x → ∃ u, us[i]? = some u := fun {i x} hi => by
    have : i < us.length := by
      rw [← hd.len]
      exact (List.getElem?_eq_some_iff.mp hi).1
    exact ⟨_, List.getElem?_eq_getElem this⟩
  rw [← hd.len]
  refine el_lcN (fun i => ((wipe σ ws).set i1 (some (us.getD i (.non, .non)).1)).set i2 (some (us.getD i (.non, .non)).2)) f g h hz (fun i _ => hw _ _) (fun i x H1 e hi k q => ?_) (fun i x H1 e hi => ?_) (fun i x H1 e hi hf => ?_)
  · obtain ⟨u, hu⟩ := up hi
    obtain ⟨b, rfl, hb⟩ := hd.at_ i x u hi hu
    rw [getD_some hu] at q
    exact ⟨b, _, rfl, ex_t e hb, rfl, u.1, [u.2], rfl, u.2, [], rfl, rfl, q⟩
  · obtain ⟨u, hu⟩ := up hi
    rw [getD_some hu]
    exact ht i u H1 e hu
  · obtain ⟨u, hu⟩ := up hi
    rw [getD_some hu]
    exact he i u H1 e hu hf
/-- the second parts of those rows whose key is k -/
theorem given_key (kvs : List (Key × Int)) (t : Key → Bool) : given (kvs.map fun p => (kV p.1, V.int p.2)).length (fun i => t (kvs.getD i (.inl 0, 0)).1) (fun i => V.int (kvs.getD i (.inl 0, 0)).2) = (kvs.filter fun p => t p.1).map fun p => V.int p.2 := by
  rw [List.length_map]
  exact given_map kvs (.inl 0, 0) (fun p => t p.1) (fun p => V.int p.2)
theorem s_extend {l : Addr} {D : Ends} (hl : H l = some (.lst xs)) (ha : Ev ta σ H (.ref l)) (hb : EvL tb σ H ys) (hz : xs.length + ys.length ≤ 100000) (k : ∀ H1, Ex H H1 → D.nx σ (upd H1 l (.lst (xs ++ ys)))) : tDrop (tBM K "list" rExtend ta (tCons tb tNil)) D σ H :=
  ha H (Ex.refl H) _ fun H1 e1 => ⟨Or.inl ⟨rfl, xs, sq_of (e1 l _ hl)⟩, hb H1 e1 _ fun m H2 hm e2 h2 => ⟨l, m, xs, ys, rfl, rfl, e2 _ _ (e1 _ _ hl), h2, sz_of hz, k H2 (e1.trans e2)⟩⟩
theorem s_appG {l : Addr} {D : Ends} (ha : Ev ta σ H (.ref l)) (hl : SqL K H l xs) (h : ∀ H1, Ex H H1 → te σ H1 fun y H2 => ∃ ys, H2 l = some (.lst ys) ∧ ys.length < sizeLine ∧ D.nx σ (upd H2 l (.lst (ys ++ [y])))) : tDrop (tBM K "list" rAppend ta (tCons te tNil)) D σ H :=
  ha H (Ex.refl H) (fun x H1 => tyV K "list" x H1 ∧ tCons te tNil σ H1 fun vs H2 => rAppend x vs H2 fun _ H3 => D.nx σ H3) fun H1 e1 => ⟨Or.inl ⟨rfl, xs, ex_l e1 hl⟩, by
    have hh := h H1 e1
    have e : (fun y H2 => ∃ ys, H2 l = some (.lst ys) ∧ ys.length < sizeLine ∧ D.nx σ (upd H2 l (.lst (ys ++ [y])))) = (fun (y : V) (H2 : Hp) => rAppend (.ref l) [y] H2 fun _ H3 => D.nx σ H3) := by
      funext y H2
      apply propext
      constructor
      · rintro ⟨ys, a1, a2, a3⟩
        exact ⟨l, ys, y, rfl, rfl, a1, a2, a3⟩
      · rintro ⟨l', ys, y', e1, e2, a1, a2, a3⟩
        cases e1
        cases e2
        exact ⟨ys, a1, a2, a3⟩
    rw [e] at hh
    exact hh⟩
theorem t_pop {l : Addr} {Q : VK} (ha : Ev ta σ H (.ref l)) (hl : SqL K H l xs) (h : ∀ H1, Ex H H1 → te σ H1 fun v H2 => ∃ ys i k y, v = .int i ∧ H2 l = some (.lst ys) ∧ -(2 ^ 63) ≤ i ∧ i < 2 ^ 63 ∧ seqIndex? i ys.length = some k ∧ ys[k]? = some y ∧ Q y (upd H2 l (.lst (ys.eraseIdx k)))) : tBM K "list" rPopAt ta (tCons te tNil) σ H Q :=
  ha H (Ex.refl H) (fun x H1 => tyV K "list" x H1 ∧ tCons te tNil σ H1 fun vs H2 => rPopAt x vs H2 Q) fun H1 e1 => ⟨Or.inl ⟨rfl, xs, ex_l e1 hl⟩, by
    have hh := h H1 e1
    have e : (fun (v : V) (H2 : Hp) => ∃ ys i k y, v = .int i ∧ H2 l = some (.lst ys) ∧ -(2 ^ 63) ≤ i ∧ i < 2 ^ 63 ∧ seqIndex? i ys.length = some k ∧ ys[k]? = some y ∧ Q y (upd H2 l (.lst (ys.eraseIdx k)))) = (fun (v : V) (H2 : Hp) => rPopAt (.ref l) [v] H2 Q) := by
      funext v H2
      apply propext
      constructor
      · rintro ⟨ys, i, k, y, rfl, a1, a2, a3, a4, a5, a6⟩
        exact ⟨l, ys, i, k, y, rfl, rfl, a1, a2, a3, a4, a5, a6⟩
      · rintro ⟨l', ys, i, k, y, e1, e2, a1, a2, a3, a4, a5, a6⟩
        cases e1
        injection e2 with e2 _
        exact ⟨ys, i, k, y, e2, a1, a2, a3, a4, a5, a6⟩
    rw [e] at hh
    exact hh⟩
end
end Kb
set_option Elab.async false
set_option linter.all false
set_option maxRecDepth 100000
set_option maxHeartbeats 4000000
namespace Kb
open PySem PySem.Spec PyProof.Rows L2
/-! ### the pen: a dict of five texts -/
def penK (c : Addr) (a d n f : Int) : List (Key × V) := [(.inr "cells", .ref c), (.inr "at", .int a), (.inr "digits", .int d), (.inr "count", .int n), (.inr "fold", .int f)]
section
variable {c : Addr} {a d n f x : Int}
theorem pk_cells : valV (penK c a d n f) (Sum.inr "cells") = some (.ref c) := by rfl
theorem pk_at : valV (penK c a d n f) (Sum.inr "at") = some (.int a) := by rfl
theorem pk_digits : valV (penK c a d n f) (Sum.inr "digits") = some (.int d) := by rfl
theorem pk_count : valV (penK c a d n f) (Sum.inr "count") = some (.int n) := by rfl
theorem pk_fold : valV (penK c a d n f) (Sum.inr "fold") = some (.int f) := by rfl
theorem pp_at : putK (penK c a d n f) (Sum.inr "at") (.int x) = penK c x d n f := by rfl
theorem pp_digits : putK (penK c a d n f) (Sum.inr "digits") (.int x) = penK c a x n f := by rfl
theorem pp_count : putK (penK c a d n f) (Sum.inr "count") (.int x) = penK c a d x f := by rfl
theorem pp_fold : putK (penK c a d n f) (Sum.inr "fold") (.int x) = penK c a d n x := by rfl
end

/-! ### exact readings -/
section
variable {D : Ends} {σ : L2.St} {H : Hp} {td ty tv te ta tb : TE} {p : Addr} {k : Str} {v x y z : V} {kvs : List (Key × V)} {i j : Int}
theorem val_dget (h1 : Val td σ H (.ref p)) (h2 : Val ty σ H (.str k)) (e : H p = some (.dK kvs)) (l : valV kvs (.inr k) = some v) : Val (tDGet td ty) σ H v := fun Q q =>
  h1 _ (h2 _ ⟨p, v, rfl, by have z := DGet.k (k := .inr k) e; rw [l] at z; exact z, q⟩)
theorem st_dput (hv : Val tv σ H v) (h1 : Val td σ H (.ref p)) (h2 : Val ty σ H (.str k)) (e : H p = some (.dK kvs)) (hl : kvs.length < sizeLine) (q : D.nx σ (upd H p (.dK (putK kvs (.inr k) v)))) : sDPut td ty tv D σ H :=
  hv _ (h1 _ (h2 _ ⟨p, _, rfl, DPut.k (k := .inr k) e hl, q⟩))
def rInt1 : List V → Hp → VK → Prop := fun xs H Q => (∃ i, xs = [.int i] ∧ Q (.int i) H) ∨ ∃ k, xs = [.bl k] ∧ Q (.int (if k then 1 else 0)) H
theorem call_int1' {X : Cx} : CallR X (.type "int") rInt1 := call_int1
theorem val_int (h : Val te σ H (.int i)) : Val (tCB rInt1 (tCons te tNil)) σ H (.int i) := fun Q q => h _ (.inl ⟨i, rfl, q⟩)
theorem val_I0 {g : Int → Int → V} (ha : Val ta σ H (.int i)) (hb : Val tb σ H (.int j)) : Val (tOp (rI0 g) ta tb) σ H (g i j) := val_op ha hb fun _ q => ⟨i, j, rfl, rfl, q⟩
theorem val_I {C : Int → Int → Prop} {g : Int → Int → V} (ha : Val ta σ H (.int i)) (hb : Val tb σ H (.int j)) (hc : C i j) : Val (tOp (rI C g) ta tb) σ H (g i j) := val_op ha hb fun _ q => ⟨i, j, rfl, rfl, hc, q⟩
theorem ans_I0 {g : Int → Int → Bool} {b : Bool} (ha : Val ta σ H (.int i)) (hb : Val tb σ H (.int j)) (e : g i j = b) : Ans (tTest (tOp (rI0 fun i j => .bl (g i j)) ta tb)) σ H b := ans_cmp ha hb fun Q q => ⟨i, j, rfl, rfl, by show Q (.bl (g i j)) H; rw [e]; exact q⟩
theorem val_ixL {K : PySem.W.Frag} {xs : List V} (ha : Val ta σ H (.ref p)) (hb : Val tb σ H (.int i)) (h : SqL K H p xs) (e : atI xs i = some v) : Val (tOp (rIxL K) ta tb) σ H v := val_op ha hb fun _ q => ⟨p, xs, i, v, rfl, rfl, h, e, q⟩
def rLenS (K : PySem.W.Frag) : List V → Hp → VK → Prop := fun xs H Q => ∃ p ys, xs = [.ref p] ∧ (SqL K H p ys ∨ SqT K H p ys) ∧ Q (.int ys.length) H
theorem call_lenS {X : Cx} : CallR X (.builtin "len") (rLenS X.K) := call_len_seq
theorem val_len {K : PySem.W.Frag} {xs : List V} (ha : Val ta σ H (.ref p)) (h : SqL K H p xs) : Val (tCB (rLenS K) (tCons ta tNil)) σ H (.int xs.length) := fun Q q => ha _ ⟨p, xs, rfl, .inl h, q⟩
end
/-! ### promises -/
structure PenOk (H : Hp) (p c : Addr) (cs : List Int) (a d n f : Int) : Prop where
  at_ : H p = some (.dK (penK c a d n f))
  cells : H c = some (.lst (cs.map V.int))
  len : cs.length ≤ 63
  a0 : 0 ≤ a
  d0 : 0 ≤ d
  n0 : 0 ≤ n
  f0 : 0 ≤ f ∧ f < 2147483647
def Pen (H : Hp) (p : Addr × Addr) : Prop := ∃ cs a d n f, PenOk H p.1 p.2 cs a d n f
theorem PenOk.ne {H : Hp} {p c : Addr} {cs : List Int} {a d n f : Int} (h : PenOk H p c cs a d n f) : c ≠ p := ne_of h.cells h.at_ (fun z => nomatch z)
/-- the pen's dict is written -/
theorem PenOk.put {H : Hp} {p c : Addr} {cs : List Int} {a d n f a' d' n' f' : Int} (h : PenOk H p c cs a d n f) (ha : 0 ≤ a') (hd : 0 ≤ d') (hn : 0 ≤ n') (hf : 0 ≤ f' ∧ f' < 2147483647) : PenOk (upd H p (.dK (penK c a' d' n' f'))) p c cs a' d' n' f' :=
  ⟨upd_same, by rw [upd_ne h.ne]; exact h.cells, h.len, ha, hd, hn, hf⟩
theorem Pen.same {H H' : Hp} {p : Addr × Addr} (h : Pen H p) (e : Same H H') : Pen H' p := by
  obtain ⟨cs, a, d, n, f, h⟩ := h
  exact ⟨cs, a, d, n, f, e _ _ h.at_, e _ _ h.cells, h.len, h.a0, h.d0, h.n0, h.f0⟩
/-- all that was tracked but at p is as it was -/
def SameBut (p : Addr) (H H' : Hp) : Prop := ∀ b o, b ≠ p → H b = some o → H' b = some o
def spPen (K : PySem.W.Frag) : Sp := fun vs H Q _ => ∃ (a : Addr) (ns : List Int), vs = [.ref a] ∧ SqL K H a (ns.map V.int) ∧ ns.length ≤ 63 ∧ ∀ (p : Addr × Addr) H', H p.1 = none → H p.2 = none → Same H H' → Pen H' p → Q (.ref p.1) H'
def spDraw : Sp := fun vs H Q _ => ∃ (p : Addr × Addr) (m : Int), vs = [.ref p.1, .int m] ∧ 0 < m ∧ m < 1073741824 ∧ Pen H p ∧ ∀ (r : Int) (o : HO), 0 ≤ r → r < m → Pen (upd H p.1 o) p → Q (.int r) (upd H p.1 o)
section
variable {P : Program} {w : World} {K : PySem.W.Frag} {mg : Str → Option Value} {base : Heap} {f fD : Addr} {fd fdD : FuncData} {CX : CXT}
def Hh (H : Hp) (p c : Addr) (a d n f : Int) : Hp := upd H p (.dK (penK c a d n f))
theorem st_pput {D : Ends} {σ : L2.St} {H : Hp} {p c : Addr} {a d n f a' d' n' f' : Int} {tv : TE} {k : Str} {v : V} (hv : Val tv σ (Hh H p c a d n f) v) (h1 : σ[0]? = some (some (.ref p))) (e : putK (penK c a d n f) (.inr k) v = penK c a' d' n' f')
    (q : D.nx σ (Hh H p c a' d' n' f')) : sDPut (tVar 0) (tC (.str k)) tv D σ (Hh H p c a d n f) :=
  st_dput hv (val_var h1) val_c upd_same (show 5 < sizeLine by decide) (by rw [e]; unfold Hh; rw [upd_upd]; exact q)
theorem ok_pen (F : Fun K "_law_pen" "_law_pen" s__law_pen f fd) (gI : mg "int" = none) (gL : mg "list" = none) : FnOk P w K mg base CX0 1 f fd ["script"] (spPen K) := by
  refine F.ok sc__law_pen (fun vs H Q E h => ?_) (fun cdv A outer s H vs Q E hr h => ⟨_, pss_cons (ps_set (i := 1) sc__law_pen.nd rfl (.inl rfl) pe_int)
    (pss_cons (ps_for PassesOwn.never rfl (pi_list (pv 0)) (pg_name (i := 2) sc__law_pen.nd rfl (.inl rfl))
      (pss_one (ps_set (i := 1) sc__law_pen.nd rfl (.inl rfl) (pe_op op_mod (pe_callTy call_int1' rfl gI (by decide +kernel) (pa_cons (pe_op op_add (pe_op op_mul (pv 1) pe_int) (pv 2)) pa_nil)) pe_int))))
    (pss_one (ps_ret (pe_disp (pps_cons pe_str (pe_callTy call_list_of rfl gL (by decide +kernel) (pa_cons (pv 0) pa_nil)) (pps_cons pe_str pe_int (pps_cons pe_str pe_int (pps_cons pe_str pe_int (pps_cons pe_str (pv 1) pps_nil))))) rfl rfl (by decide) (by decide))))), ?_⟩)
  · obtain ⟨a, ns, rfl, _⟩ := h
    rfl
  obtain ⟨a, ns, rfl, hS, hl, hQ⟩ := h
  refine Evl.q_asg (v := .int 0) Evl.ev_c fun H1 e1 => ?_
  refine Evl.q_forLn (a := a) (xs := ns.map V.int) (Evl.ev_var rfl) (Evl.ex_l e1 hS) (fun _ σ' H' => Evl.Ex H H' ∧ ∃ (fold : Int) (o : Option V), (0 ≤ fold ∧ fold < 2147483647) ∧ σ' = [some (.ref a), some (.int fold), o])
    (fun H2 e2 => ⟨e1.trans e2, 0, none, by decide, rfl⟩) (fun i σ' H' _ h => Evl.ex_l h.1 hS) (fun i x σ' H' hx hp => ?_) (fun σ' H' hp => ?_)
  · obtain ⟨e2, fold, o, hf, rfl⟩ := hp
    rw [List.getElem?_map] at hx
    obtain ⟨n, _, rfl⟩ := Option.map_eq_some_iff.mp hx
    refine Evl.s_asg (v := .int ((fold * 47 + n) % 1000000007)) (Evl.ev_op (Evl.ev_cb (Evl.ea_cons (Evl.ev_op (Evl.ev_op (Evl.ev_var rfl) Evl.ev_c (Evl.rv_I (Or.inr (by decide)))) (Evl.ev_var rfl) Evl.rv_I0) Evl.ea_nil) fun H3 _ Q q => Or.inl ⟨_, rfl, q H3 (Evl.Ex.refl _)⟩) Evl.ev_c (Evl.rv_I (by show (0 : Int) < 1000000007; decide))) fun H3 e3 => ?_
    exact ⟨e2.trans e3, _, _, ⟨Int.emod_nonneg _ (by decide), Int.lt_trans (Int.emod_lt_of_pos _ (by decide)) (by decide)⟩, rfl⟩
  · obtain ⟨e2, fold, o, hf, rfl⟩ := hp
    intro p hp
    refine ⟨_, rfl, a, ns.map V.int, rfl, .inl (Evl.ex_l (e2.trans (Evl.Ex.new hp)) hS), fun l hl2 => ?_⟩
    have lp : l ≠ p := fun z => by rw [z, upd_same] at hl2; cases hl2
    refine ⟨_, rfl, ?_⟩
    have em : mergeK [] (penK l 0 0 0 fold) = penK l 0 0 0 fold := rfl
    have hlH : H' l = none := by rw [upd_ne lp] at hl2; exact hl2
    refine ⟨by rw [upd_ne (Ne.symm lp)]; exact upd_same, penK l 0 0 0 fold, rfl, by show 5 ≤ 15; decide, hQ (p, l) _ (Evl.fresh_back e2 hp) (Evl.fresh_back e2 hlH) (fun b o hb => ?_) ?_⟩
    · have h1 := e2 b o hb
      rw [upd_ne (ne_of_none h1 hp), upd_ne (ne_of_none h1 hlH), upd_ne (ne_of_none h1 hp)]
      exact h1
    · rw [em]
      exact ⟨ns, 0, 0, 0, fold, upd_same, by rw [upd_ne lp]; exact upd_same, hl, by decide, by decide, by decide, hf⟩
theorem ok_draw (F : Fun K "_law_draw" "_law_draw" s__law_draw f fd) (gI : mg "int" = none) (gL : mg "len" = none) : FnOk P w K mg base CX0 1 f fd ["pen", "many"] spDraw := by
  refine F.ok sc__law_draw (fun vs H Q E h => ?_) (fun cdv A outer s H vs Q E hr h => ?_)
  · obtain ⟨p, m, rfl, _⟩ := h
    rfl
  have hu := hu_of hr
  refine ⟨_, pss_cons (ps_dput hu (pv 0) pe_str (pe_op op_add (pe_dget hu (pv 0) pe_str (fun _ _ => rfl)) pe_int) rfl)
    (C8.pss_cut (ps_if (PW.pt (pw_and (pt_cmpR op_eq (pe_dget hu (pv 0) pe_str (fun _ _ => rfl)) pe_int (nomark _)) (pw_and1 (pt_cmpR op_lt (pe_dget hu (pv 0) pe_str (fun _ _ => rfl)) (pe_callB call_lenS rfl gL boot_len (pa_cons (pe_dget hu (pv 0) pe_str (fun _ _ => rfl)) pa_nil)) (nomark _)))))
      (pss_cons (ps_set (i := 2) sc__law_draw.nd rfl (.inl rfl) (pe_ix ix_list (pe_dget hu (pv 0) pe_str (fun _ _ => rfl)) (pe_dget hu (pv 0) pe_str (fun _ _ => rfl)) (fun _ _ => rfl)))
        (pss_cons (ps_dput hu (pv 0) pe_str (pe_op op_add (pe_dget hu (pv 0) pe_str (fun _ _ => rfl)) pe_int) rfl)
        (pss_one (ps_if (pt_cmpR op_ge (pv 2) (pe_op op_pow pe_int pe_int) (nomark _))
          (pss_one (ps_dput hu (pv 0) pe_str (pe_op op_sub (pv 2) (pe_op op_pow pe_int pe_int)) rfl))
          (pss_one (ps_dput hu (pv 0) pe_str (pe_op op_mod (pe_callTy call_int1' rfl gI (by decide +kernel) (pa_cons (pe_op op_add (pe_op op_mul (pe_dget hu (pv 0) pe_str (fun _ _ => rfl)) pe_int) (pv 2)) pa_nil)) pe_int) rfl))))))
      pss_nil)
    (pss_cons (ps_if (pt_cmpR op_gt (pe_dget hu (pv 0) pe_str (fun _ _ => rfl)) pe_int (nomark _))
      (pss_cons (ps_set (i := 3) sc__law_draw.nd rfl (.inl rfl) (pe_op op_mod (pe_callTy call_int1' rfl gI (by decide +kernel) (pa_cons (pe_dget hu (pv 0) pe_str (fun _ _ => rfl)) pa_nil)) (pv 1)))
        (pss_cons (ps_dput hu (pv 0) pe_str (pe_op op_fdiv (pe_dget hu (pv 0) pe_str (fun _ _ => rfl)) (pv 1)) rfl)
        (pss_one (ps_ret (pv 3)))))
      pss_nil)
    (pss_cons (ps_set (i := 4) sc__law_draw.nd rfl (.inl rfl) (pe_op op_mod (pe_callTy call_int1' rfl gI (by decide +kernel) (pa_cons (pe_op op_add (pe_op op_add (pe_op op_mul (pe_dget hu (pv 0) pe_str (fun _ _ => rfl)) pe_int) (pe_op op_mul (pe_dget hu (pv 0) pe_str (fun _ _ => rfl)) pe_int)) pe_int) pa_nil)) pe_int))
    (pss_cons (ps_set (i := 4) sc__law_draw.nd rfl (.inl rfl) (pe_op op_mod (pe_callTy call_int1' rfl gI (by decide +kernel) (pa_cons (pe_op op_add (pe_op op_add (pe_op op_mul (pv 4) (pv 4)) (pe_op op_mul pe_int (pv 4))) (pe_dget hu (pv 0) pe_str (fun _ _ => rfl))) pa_nil)) pe_int))
    (pss_cons (ps_dput hu (pv 0) pe_str (pe_op op_mod (pe_callTy call_int1' rfl gI (by decide +kernel) (pa_cons (pe_op op_add (pe_op op_mul (pv 4) pe_int) pe_int) pa_nil)) pe_int) rfl)
    (pss_one (ps_ret (pe_op op_mod (pe_callTy call_int1' rfl gI (by decide +kernel) (pa_cons (pe_op op_fdiv (pv 4) pe_int) pa_nil)) (pv 1))))))))), ?_⟩
  obtain ⟨⟨p, c⟩, m, rfl, m0, m1, ⟨cs, a, d, n, f, hp⟩, hQ⟩ := h
  dsimp only at hp hQ ⊢
  have hcp := hp.ne
  have hG : ∀ a d n f, Hh H p c a d n f p = some (.dK (penK c a d n f)) := fun _ _ _ _ => upd_same
  have hC : ∀ a d n f, Hh H p c a d n f c = some (.lst (cs.map V.int)) := fun a d n f => by unfold Hh; rw [upd_ne hcp]; exact hp.cells
  refine st_seq (st_dput (p := p) (kvs := penK c a d n f) (v := .int (n + 1)) (k := "count") (val_I0 (val_dget (val_var rfl) val_c hp.at_ pk_count) val_c) (val_var rfl) val_c hp.at_ (show 5 < sizeLine by decide) ?_)
  rw [pp_count]
  show C8.tCut _ _ _ [some (V.ref p), some (V.int m), none, none, none] (Hh H p c a d (n + 1) f)
  refine ⟨fun σ' H' => ∃ (o2 : Option V) (a d f : Int), 0 ≤ a ∧ 0 ≤ d ∧ (0 ≤ f ∧ f < 2147483647) ∧ σ' = [some (V.ref p), some (V.int m), o2, none, none] ∧ H' = Hh H p c a d (n + 1) f, ?_, ?_⟩
  · by_cases hd : d = 0
    · by_cases ha : a < cs.length
      · have hlen : (cs.map V.int).length = cs.length := List.length_map ..
        obtain ⟨x, hx⟩ : ∃ x, cs[a.toNat]? = some x := by
          refine ⟨cs[a.toNat]'(by have := hp.a0; omega), List.getElem?_eq_getElem _⟩
        have hat : atI (cs.map V.int) a = some (.int x) := by
          have e : ((a.toNat : Nat) : Int) = a := Int.toNat_of_nonneg hp.a0
          rw [← e]
          exact atI_nat (by rw [List.getElem?_map, hx]; rfl)
        refine st_yes (ans_and (ans_eq (x := .int d) (y := .int 0) (val_dget (val_var rfl) val_c (hG ..) pk_digits) val_c rfl (by rw [hd]; rfl))
          (ans_I0 (i := a) (j := (cs.length : Int)) (val_dget (val_var rfl) val_c (hG ..) pk_at) (by rw [← hlen]; exact val_len (val_dget (val_var rfl) val_c (hG ..) pk_cells) (SqL.of (hC ..))) (decide_eq_true ha))) ?_
        refine st_seq (st_set (v := .int x) (val_ixL (val_dget (val_var rfl) val_c (hG ..) pk_cells) (val_dget (val_var rfl) val_c (hG ..) pk_at) (SqL.of (hC ..)) hat) ?_)
        refine st_seq (st_pput (k := "at") (val_I0 (val_dget (val_var rfl) val_c (hG ..) pk_at) val_c) rfl pp_at ?_)
        have hpow : Val (tOp (rI CPow fun i j => .int (i ^ j.toNat)) (tC (.int 10)) (tC (.int 18))) [some (V.ref p), some (V.int m), some (V.int x), none, none] (Hh H p c (a + 1) d (n + 1) f) (.int (10 ^ 18)) := val_I (i := 10) (j := 18) val_c val_c (by unfold CPow; decide)
        by_cases hb : (10 : Int) ^ 18 ≤ x
        · refine st_yes (ans_I0 (i := x) (j := 10 ^ 18) (val_var rfl) hpow (decide_eq_true hb)) ?_
          refine st_pput (k := "digits") (val_I0 (i := x) (j := 10 ^ 18) (val_var rfl) hpow) rfl pp_digits ?_
          exact ⟨_, _, _, _, by have := hp.a0; omega, by omega, hp.f0, rfl, rfl⟩
        · refine st_no (ans_I0 (i := x) (j := 10 ^ 18) (val_var rfl) hpow (decide_eq_false hb)) ?_
          refine st_pput (k := "fold") (val_I (val_int (val_I0 (val_I (val_dget (val_var rfl) val_c (hG ..) pk_fold) val_c (Or.inr (by decide))) (val_var rfl))) val_c (by show (0 : Int) < 2147483587; decide)) rfl pp_fold ?_
          exact ⟨_, _, _, _, by have := hp.a0; omega, hp.d0, ⟨Int.emod_nonneg _ (by decide), Int.lt_trans (Int.emod_lt_of_pos _ (by decide)) (by decide)⟩, rfl, rfl⟩
      · refine st_no (ans_and (ans_eq (x := .int d) (y := .int 0) (val_dget (val_var rfl) val_c (hG ..) pk_digits) val_c rfl (by rw [hd]; rfl))
          (ans_I0 (i := a) (j := (cs.length : Int)) (val_dget (val_var rfl) val_c (hG ..) pk_at) (by rw [← (List.length_map (as := cs) V.int)]; exact val_len (val_dget (val_var rfl) val_c (hG ..) pk_cells) (SqL.of (hC ..))) (decide_eq_false ha))) ?_
        exact ⟨_, _, _, _, hp.a0, hp.d0, hp.f0, rfl, rfl⟩
    · refine st_no (ans_and0 (ans_eq (x := .int d) (y := .int 0) (val_dget (val_var rfl) val_c (hG ..) pk_digits) val_c rfl (decide_eq_false fun z => hd (V.int.inj z)))) ?_
      exact ⟨_, _, _, _, hp.a0, hp.d0, hp.f0, rfl, rfl⟩
  · rintro σ' H' ⟨o2, a, d, f, ha, hd, hf, rfl, rfl⟩
    have hn : 0 ≤ n + 1 := by have := hp.n0; omega
    have end_ : ∀ (r a d n f : Int), 0 ≤ r → r < m → 0 ≤ a → 0 ≤ d → 0 ≤ n → (0 ≤ f ∧ f < 2147483647) → Q (.int r) (Hh H p c a d n f) := fun r a d n f h1 h2 h3 h4 h5 h6 => hQ r _ h1 h2 ⟨cs, a, d, n, f, hp.put h3 h4 h5 h6⟩
    by_cases hd0 : 0 < d
    · refine st_seq (st_yes (ans_I0 (i := d) (j := 0) (val_dget (val_var rfl) val_c (hG ..) pk_digits) val_c (decide_eq_true hd0)) ?_)
      refine st_seq (st_set (val_I (val_int (val_dget (val_var rfl) val_c (hG ..) pk_digits)) (val_var rfl) m0) ?_)
      refine st_seq (st_pput (k := "digits") (val_I (val_dget (val_var rfl) val_c (hG ..) pk_digits) (val_var rfl) ⟨m0, m1⟩) rfl pp_digits ?_)
      exact st_ret (val_var rfl) (end_ _ _ _ _ _ (Int.emod_nonneg _ (by omega)) (Int.emod_lt_of_pos _ m0) ha (Int.ediv_nonneg hd (by omega)) hn hf)
    · refine st_seq (st_no (ans_I0 (i := d) (j := 0) (val_dget (val_var rfl) val_c (hG ..) pk_digits) val_c (decide_eq_false hd0)) (st_next ?_))
      dsimp only
      have b1 : ∀ x : Int, 0 ≤ x % 2147483647 ∧ x % 2147483647 < 2147483647 := fun x => ⟨Int.emod_nonneg _ (by decide), Int.emod_lt_of_pos _ (by decide)⟩
      have b2 : ∀ x : Int, 0 ≤ x % 2147483629 ∧ x % 2147483629 < 2147483629 := fun x => ⟨Int.emod_nonneg _ (by decide), Int.emod_lt_of_pos _ (by decide)⟩
      refine st_seq (st_set (v := .int ((f * 48271 + (n + 1) * 7919 + 13) % 2147483647)) (val_I (val_int (val_I0 (val_I0 (val_I (val_dget (val_var rfl) val_c (hG ..) pk_fold) val_c (Or.inr (by decide))) (val_I (val_dget (val_var rfl) val_c (hG ..) pk_count) val_c (Or.inr (by decide)))) val_c)) val_c (by show (0 : Int) < 2147483647; decide)) ?_)
      dsimp only
      generalize hx : (f * 48271 + (n + 1) * 7919 + 13) % 2147483647 = x
      have bx := b1 (f * 48271 + (n + 1) * 7919 + 13)
      rw [hx] at bx
      refine st_seq (st_set (v := .int ((x * x + 31 * x + (n + 1)) % 2147483629)) (val_I (val_int (val_I0 (val_I0 (val_I (val_var rfl) (val_var rfl) (Or.inl ⟨by omega, by omega⟩)) (val_I val_c (val_var rfl) (Or.inl (by decide)))) (val_dget (val_var rfl) val_c (hG ..) pk_count))) val_c (by show (0 : Int) < 2147483629; decide)) ?_)
      dsimp only
      generalize hy : (x * x + 31 * x + (n + 1)) % 2147483629 = y
      have bY := b2 (x * x + 31 * x + (n + 1))
      rw [hy] at bY
      refine st_seq (st_pput (k := "fold") (val_I (val_int (val_I0 (val_I (val_var rfl) val_c (Or.inr (by decide))) val_c)) val_c (by show (0 : Int) < 2147483647; decide)) rfl pp_fold ?_)
      dsimp only
      exact st_ret (v := .int (y / 64 % m)) (val_I (val_int (val_I (val_var rfl) val_c ⟨by decide, by decide⟩)) (val_var rfl) m0) (end_ _ _ _ _ _ (Int.emod_nonneg _ (by omega)) (Int.emod_lt_of_pos _ m0) ha hd hn (b1 _))
end

theorem sqL_upd {K : PySem.W.Frag} {H : Hp} {l p : Addr} {xs : List V} {kvs : List (Key × V)} {o : HO} (h : SqL K H l xs) (hp : H p = some (.dK kvs)) : SqL K (upd H p o) l xs := by
  rcases h with (h | ⟨ob, h⟩) | h
  · exact .inl (.inl (by rw [upd_ne (ne_of h hp (fun z => nomatch z))]; exact h))
  · exact .inl (.inr ⟨ob, by rw [upd_ne (ne_of h hp (fun z => nomatch z))]; exact h⟩)
  · exact .inr h
theorem Pen.get {H : Hp} {p : Addr × Addr} (h : Pen H p) : ∃ kvs, H p.1 = some (.dK kvs) := by
  obtain ⟨cs, a, d, n, f, h⟩ := h
  exact ⟨_, h.at_⟩
def spPick (K : PySem.W.Frag) : Sp := fun vs H Q _ => ∃ (p : Addr × Addr) (l : Addr) (xs : List V), vs = [.ref p.1, .ref l] ∧ Pen H p ∧ SqL K H l xs ∧ 0 < xs.length ∧ xs.length < 1073741824 ∧ ∀ (v : V) (o : HO), v ∈ xs → Pen (upd H p.1 o) p → Q v (upd H p.1 o)
theorem SameBut.upd {H : Hp} (p : Addr) (o : HO) : SameBut p H (upd H p o) := fun b u ne e => by rw [upd_ne ne]; exact e
theorem SameBut.trans {H H1 H2 : Hp} {p : Addr} (a : SameBut p H H1) (b : SameBut p H1 H2) : SameBut p H H2 := fun c o ne e => b c o ne (a c o ne e)
theorem SameBut.new {H H1 : Hp} {p b : Addr} {o : HO} (a : SameBut p H H1) (h : H1 b = none) : SameBut p H (L2.upd H1 b o) := fun c u ne e => by
  have z := a c u ne e
  rw [upd_ne (ne_of_none z h)]
  exact z
theorem Pen.new {H : Hp} {p : Addr × Addr} {b : Addr} {o : HO} (h : Pen H p) (hb : H b = none) : Pen (L2.upd H b o) p := h.same fun c u e => by
  rw [upd_ne (ne_of_none e hb)]
  exact e
theorem Pen.put {H H1 : Hp} {p : Addr × Addr} {b : Addr} {o : HO} (h0 : Pen H p) (h : Pen H1 p) (hb : H b = none) : Pen (L2.upd H1 b o) p := by
  obtain ⟨cs0, a0, d0, n0, f0, g⟩ := h0
  obtain ⟨cs, a, d, n, f, h⟩ := h
  exact ⟨cs, a, d, n, f, by rw [upd_ne (ne_of_none g.at_ hb)]; exact h.at_, by rw [upd_ne (ne_of_none g.cells hb)]; exact h.cells, h.len, h.a0, h.d0, h.n0, h.f0⟩
section
variable {P : Program} {w : World} {K : PySem.W.Frag} {mg : Str → Option Value} {base : Heap} {f fD fP : Addr} {fd fdD fdP : FuncData}
theorem ok_pick (F : Fun K "_law_pick" "_law_pick" s__law_pick f fd) (GD : FnOk P w K mg base CX0 1 fD fdD ["pen", "many"] spDraw) (bD : Binds K fdD ["pen", "many"] []) (kD : PySem.W.keepIn K (.ref fD) = true) (gD : mg "_law_draw" = some (.ref fD)) (gL : mg "len" = none) :
    FnOk P w K mg base CX0 2 f fd ["pen", "some"] (spPick K) := by
  refine F.ok sc__law_pick (fun vs H Q E h => ?_) (fun cdv A outer s H vs Q E hr h => ⟨_, pss_one (ps_ret (pe_ix ix_list (pv 1) (pe_call GD hr rfl gD kD bD .nil pass0 (pa_cons (pv 0) (pa_cons (pe_callB call_lenS rfl gL boot_len (pa_cons (pv 1) pa_nil)) pa_nil))) (fun _ _ => rfl))), ?_⟩)
  · obtain ⟨p, l, xs, rfl, _⟩ := h
    rfl
  obtain ⟨p, l, xs, rfl, hp, hl, h0, h1, hQ⟩ := h
  refine ⟨_, rfl, _, rfl, _, rfl, l, xs, rfl, .inl hl, p, (xs.length : Int), rfl, by omega, by omega, hp, fun r o r0 r1 hp' => ?_⟩
  obtain ⟨kvs, hk⟩ := hp.get
  have hr2 : r.toNat < xs.length := by omega
  have er : ((r.toNat : Nat) : Int) = r := Int.toNat_of_nonneg r0
  refine ⟨l, xs, r, xs[r.toNat], rfl, rfl, sqL_upd hl hk, ?_, hQ _ o (List.getElem_mem _) hp'⟩
  have z := atI_nat (xs := xs) (j := r.toNat) (List.getElem?_eq_getElem hr2)
  rw [er] at z
  exact z
end
theorem Df.of {P : Program} {w : World} {K : PySem.W.Frag} {mg : Str → Option Value} {base : Heap} {CX : CXT} {x : Str} {st : Stmt} {ps : List Str} {k : Nat} {sp : Sp} (D : Df K mg x st ps) (h : ∀ f fd, Fun K x x st f fd → FnOk P w K mg base CX k f fd ps sp) : Gv P w K mg base CX k x ps sp := by
  obtain ⟨f, fd, F, b, kp, g⟩ := D.ex
  exact ⟨f, fd, h f fd F, b, kp, g⟩
section
variable {P : Program} {w : World} {K : PySem.W.Frag} {mg : Str → Option Value} {base : Heap}
theorem gv_pen (B : Bi mg) (D : Df K mg "_law_pen" s__law_pen ["script"]) : Gv P w K mg base CX0 1 "_law_pen" ["script"] (spPen K) := D.of fun f fd F => ok_pen F B.int B.list
theorem gv_draw (B : Bi mg) (D : Df K mg "_law_draw" s__law_draw ["pen", "many"]) : Gv P w K mg base CX0 1 "_law_draw" ["pen", "many"] spDraw := D.of fun f fd F => ok_draw F B.int B.len
theorem gv_pick (B : Bi mg) (G : Gv P w K mg base CX0 1 "_law_draw" ["pen", "many"] spDraw) (D : Df K mg "_law_pick" s__law_pick ["pen", "some"]) : Gv P w K mg base CX0 2 "_law_pick" ["pen", "some"] (spPick K) := by
  obtain ⟨f, fd, F, b, kp, g⟩ := G.ex
  exact D.of fun f2 fd2 F2 => ok_pick F2 F b kp g B.len
end
end Kb
set_option Elab.async false
set_option linter.all false
set_option maxRecDepth 100000
set_option maxHeartbeats 4000000
namespace Kb
open PySem PySem.Spec PyProof.Rows L2 Evl
/-! ### readings of what draws: all stays but the pen at p, which stays a pen -/
structure Px (p : Addr × Addr) (H H' : Hp) : Prop where
  kp : Kp p.1 H H'
  pen : Pen H' p
def ErD (p : Addr × Addr) (te : TE) (σ : L2.St) (H : Hp) (Φ : V → Hp → Prop) : Prop := ∀ H1, Px p H H1 → ∀ Q : VK, (∀ v H2, Px p H1 H2 → Φ v H2 → Q v H2) → te σ H1 Q
def ErL (p : Addr × Addr) (te : TE) (σ : L2.St) (H : Hp) (Ψ : List V → Hp → Prop) : Prop := ∀ H1, Px p H H1 → ∀ Q : VK, (∀ l xs H2, H1 l = none → Px p H1 H2 → H2 l = some (.lst xs) → Ψ xs H2 → Q (.ref l) H2) → te σ H1 Q
def ErA (p : Addr × Addr) (ta : TA) (σ : L2.St) (H : Hp) (Ψ : List V → Hp → Prop) : Prop := ∀ H1, Px p H H1 → ∀ Q : List V → Hp → Prop, (∀ vs H2, Px p H1 H2 → Ψ vs H2 → Q vs H2) → ta σ H1 Q
def ErT (p : Addr × Addr) (tt : TT) (σ : L2.St) (H : Hp) (Φ : Bool → Hp → Prop) : Prop := ∀ H1, Px p H H1 → ∀ Q : Bool → Hp → Prop, (∀ b H2, Px p H1 H2 → Φ b H2 → Q b H2) → tt σ H1 Q
section
variable {K : PySem.W.Frag} {σ : L2.St} {H H' H1 H2 : Hp} {te ta tb tl tp : TE} {tr : TA} {v w : V} {d : PyData} {vs : List V} {ds : List PyData} {p : Addr × Addr} {Φ Φ' : V → Hp → Prop} {Ψ Ψ' : List V → Hp → Prop} {D : Ends} {tz tu : TS} {tt : TT}
theorem Pen.ndat (h : Pen H p) : ∃ o, H p.1 = some o ∧ noDat o = true := by
  obtain ⟨kvs, h⟩ := h.get
  exact ⟨_, h, rfl⟩
theorem Px.refl (h : Pen H p) : Px p H H := ⟨fun _ _ e _ => e, h⟩
theorem Px.trans (a : Px p H H1) (b : Px p H1 H2) : Px p H H2 := ⟨a.kp.trans b.kp, b.pen⟩
theorem Px.of (h : Pen H p) (e : Ex H H1) : Px p H H1 := ⟨Kp.of e, h.same e⟩
theorem Px.put {b : Addr} {o : HO} (h : Pen H p) (a : Px p H H1) (hb : H b = none) : Px p H (upd H1 b o) := ⟨fun c u e ne => by rw [upd_ne (ne_of_none e hb)]; exact a.kp c u e ne, h.put a.pen hb⟩
theorem Px.ex (a : Px p H H1) (e : Ex H1 H2) : Px p H H2 := ⟨a.kp.trans (Kp.of e), a.pen.same e⟩
theorem Px.fresh (h : Pen H p) (x : Px p H H') {a : Addr} (ha : H' a = none) : H a = none := by
  by_cases e : a = p.1
  · obtain ⟨kvs, hk⟩ := x.pen.get
    rw [e, hk] at ha
    cases ha
  · cases hq : H a with
    | none => rfl
    | some o =>
      rw [x.kp a o hq e] at ha
      cases ha
theorem Px.at_ (h : Pen H p) (x : Px p H H') {a : Addr} {o : HO} (e : H a = some o) (hn : ∀ kvs, o ≠ .dK kvs) : H' a = some o := x.kp a o e fun z => by
  obtain ⟨kvs, hk⟩ := h.get
  rw [z, hk] at e
  cases e
  exact hn _ rfl
theorem Px.l (h : Pen H p) (x : Px p H H') {a : Addr} {xs : List V} (e : SqL K H a xs) : SqL K H' a xs := by
  obtain ⟨o, h1, h2⟩ := h.ndat
  exact kp_l x.kp h1 h2 e
theorem Px.t (h : Pen H p) (x : Px p H H') {a : Addr} {xs : List V} (e : SqT K H a xs) : SqT K H' a xs := by
  obtain ⟨o, h1, h2⟩ := h.ndat
  exact kp_t x.kp h1 h2 e
theorem Px.dp (h : Pen H p) (x : Px p H H') (e : Dp K H v d) : Dp K H' v d := by
  obtain ⟨o, h1, h2⟩ := h.ndat
  exact dp_kp x.kp h1 h2 e
theorem Px.dps (h : Pen H p) (x : Px p H H') (e : DpAll K H vs ds) : DpAll K H' vs ds := by
  obtain ⟨o, h1, h2⟩ := h.ndat
  exact dpAll_kp x.kp h1 h2 e
theorem Px.pd (h : Pen H p) (x : Px p H H') (e : Pd K H v d) : Pd K H' v d := by
  obtain ⟨o, h1, h2⟩ := h.ndat
  exact e.kp x.kp h1 h2
/-! what draws nothing -/
theorem er_evd (h : ∀ H1, Px p H H1 → EvD te σ H1 Φ) : ErD p te σ H Φ := fun H1 x Q q => h H1 x H1 (Ex.refl H1) Q fun v H2 e a => q v H2 (Px.of x.pen e) a
theorem er_ev (h : ∀ H1, Px p H H1 → Ev te σ H1 v) : ErD p te σ H (fun w _ => w = v) := fun H1 x Q q => h H1 x H1 (Ex.refl H1) Q fun H2 e => q v H2 (Px.of x.pen e) rfl
theorem er_evl {xs : List V} (h : ∀ H1, Px p H H1 → EvL te σ H1 xs) : ErL p te σ H (fun ys _ => ys = xs) := fun H1 x Q q => h H1 x H1 (Ex.refl H1) Q fun l H2 hl e a => q l xs H2 hl (Px.of x.pen e) a rfl
theorem er_eva (h : ∀ H1, Px p H H1 → EvA tr σ H1 vs) : ErA p tr σ H (fun ws _ => ws = vs) := fun H1 x Q q => h H1 x H1 (Ex.refl H1) Q fun H2 e => q vs H2 (Px.of x.pen e) rfl
theorem er_evt {b : Bool} (h : ∀ H1, Px p H H1 → EvT tt σ H1 b) : ErT p tt σ H (fun c _ => c = b) := fun H1 x Q q => h H1 x H1 (Ex.refl H1) Q fun H2 e => q b H2 (Px.of x.pen e) rfl
theorem ErD.imp (h : ErD p te σ H Φ) (hi : ∀ v H1, Px p H H1 → Φ v H1 → Φ' v H1) : ErD p te σ H Φ' := fun H1 x Q q => h H1 x Q fun v H2 x2 a => q v H2 x2 (hi v H2 (x.trans x2) a)
theorem ErL.imp (h : ErL p te σ H Ψ) (hi : ∀ v H1, Px p H H1 → Ψ v H1 → Ψ' v H1) : ErL p te σ H Ψ' := fun H1 x Q q => h H1 x Q fun l v H2 hl x2 e a => q l v H2 hl x2 e (hi v H2 (x.trans x2) a)
theorem ErA.imp (h : ErA p tr σ H Ψ) (hi : ∀ v H1, Px p H H1 → Ψ v H1 → Ψ' v H1) : ErA p tr σ H Ψ' := fun H1 x Q q => h H1 x Q fun v H2 x2 a => q v H2 x2 (hi v H2 (x.trans x2) a)
theorem ErD.mono (x : Px p H H1) (h : ErD p te σ H Φ) : ErD p te σ H1 Φ := fun H2 x2 Q q => h H2 (x.trans x2) Q q
theorem ErL.mono (x : Px p H H1) (h : ErL p te σ H Ψ) : ErL p te σ H1 Ψ := fun H2 x2 Q q => h H2 (x.trans x2) Q q
/-! draws, picks -/
def inR (m : Int) : V → Hp → Prop := fun v _ => ∃ r, v = .int r ∧ 0 ≤ r ∧ r < m
theorem er_draw {E : XK} {m : Int} (h : ErA p tr σ H (fun vs _ => vs = [.ref p.1, .int m])) (m0 : 0 < m) (m1 : m < 1073741824) : ErD p (tCall spDraw [] E tr) σ H (inR m) := fun H1 x Q q =>
  h H1 x _ fun vs H2 x2 e => by
    subst e
    exact ⟨p, m, rfl, m0, m1, x2.pen, fun r o r0 r1 hp => q _ _ ⟨x2.kp.trans Kp.upd, hp⟩ ⟨r, rfl, r0, r1⟩⟩
theorem er_pick {E : XK} {l : Addr} {xs : List V} (hH : Pen H p) (h : ErA p tr σ H (fun vs _ => vs = [.ref p.1, .ref l])) (hl : SqL K H l xs) (h0 : 0 < xs.length) (h1 : xs.length < 1073741824) : ErD p (tCall (spPick K) [] E tr) σ H (fun v _ => v ∈ xs) := fun H1 x Q q =>
  h H1 x _ fun vs H2 x2 e => by
    subst e
    exact ⟨p, l, xs, rfl, x2.pen, (x.trans x2).l hH hl, h0, h1, fun v o hv hp => q _ _ ⟨x2.kp.trans Kp.upd, hp⟩ hv⟩
/-- a pick of a new list -/
theorem er_pickL {E : XK} (hp : ∀ H1, Px p H H1 → Ev tp σ H1 (.ref p.1)) (hl : ErL p tl σ H Ψ) (hst : ∀ xs H1 H2, Px p H H1 → Px p H1 H2 → Ψ xs H1 → Ψ xs H2) (hz : ∀ xs H1, Ψ xs H1 → 0 < xs.length ∧ xs.length < 1073741824) : ErD p (tCall (spPick K) [] E (tCons tp (tCons tl tNil))) σ H (fun v H2 => ∃ xs, Ψ xs H2 ∧ v ∈ xs) := fun H1 x Q q =>
  hp H1 x H1 (Ex.refl H1) _ fun H2 e2 => hl H2 (x.ex e2) _ fun l xs H3 hl0 x3 h3 a => ⟨p, l, xs, rfl, x3.pen, sq_of h3, (hz xs H3 a).1, (hz xs H3 a).2, fun v o hv hpn => by
    have x4 : Px p H3 (upd H3 p.1 o) := ⟨Kp.upd, hpn⟩
    exact q _ _ (((Px.of x.pen e2).trans x3).trans x4) ⟨xs, hst xs H3 _ ((x.ex e2).trans x3) x4 a, hv⟩⟩
/-! put together -/
theorem era_nil : ErA p tNil σ H (fun vs _ => vs = []) := fun H1 x Q q => q [] H1 (Px.refl x.pen) rfl
theorem era_cons (h : ErD p te σ H Φ) (h2 : ErA p tr σ H Ψ) (hst : ∀ v H1 H2, Px p H H1 → Px p H1 H2 → Φ v H1 → Φ v H2) : ErA p (tCons te tr) σ H (fun vs H1 => ∃ v r, vs = v :: r ∧ Φ v H1 ∧ Ψ r H1) := fun H1 x Q q =>
  h H1 x _ fun v H2 x2 a => h2 H2 (x.trans x2) _ fun r H3 x3 b => q (v :: r) H3 (x2.trans x3) ⟨v, r, rfl, hst v H2 H3 (x.trans x2) x3 a, b⟩
theorem erl_lst (h : ErA p tr σ H Ψ) (hl : ∀ vs H1, Ψ vs H1 → vs.length ≤ 100000) (hst : ∀ vs H1 H2, Px p H H1 → Px p H1 H2 → Ψ vs H1 → Ψ vs H2) : ErL p (tLst tr) σ H Ψ := fun H1 x Q q =>
  h H1 x _ fun vs H2 x2 a => ⟨sz_of (hl vs H2 a), fun l hl0 => by
    have x3 : Px p H2 (upd H2 l (.lst vs)) := Px.of x2.pen (Ex.new hl0)
    exact q l vs _ (Px.fresh x.pen x2 hl0) (x2.trans x3) upd_same (hst vs H2 _ (x.trans x2) x3 a)⟩
theorem erd_tup (h : ErA p tr σ H Ψ) (hl : ∀ vs H1, Ψ vs H1 → vs.length ≤ 100000) (hst : ∀ vs H1 H2, Px p H H1 → Px p H1 H2 → Ψ vs H1 → Ψ vs H2) : ErD p (tTup tr) σ H (fun v H1 => ∃ l vs, v = .ref l ∧ H1 l = some (.tup vs) ∧ Ψ vs H1) := fun H1 x Q q =>
  h H1 x _ fun vs H2 x2 a => ⟨sz_of (hl vs H2 a), fun l hl0 => by
    have x3 : Px p H2 (upd H2 l (.tup vs)) := Px.of x2.pen (Ex.new hl0)
    exact q _ _ (x2.trans x3) ⟨l, vs, rfl, upd_same, hst vs H2 _ (x.trans x2) x3 a⟩⟩
/-! statements -/
theorem sr_asg {i : Nat} (hp : Pen H p) (h : ErD p te σ H Φ) (k : ∀ v H1, Px p H H1 → Φ v H1 → D.nx (σ.set i (some v)) H1) : tAsg te (gName i) D σ H := h H (Px.refl hp) _ fun v H1 x a => k v H1 x a
theorem qr_asg {i : Nat} (hp : Pen H p) (h : ErD p te σ H Φ) (k : ∀ v H1, Px p H H1 → Φ v H1 → tz D (σ.set i (some v)) H1) : tSeq (tAsg te (gName i)) tz D σ H := sr_asg (D := { D with nx := tz D }) hp h k
theorem sr_asgL {i : Nat} (hp : Pen H p) (h : ErL p te σ H Ψ) (k : ∀ l xs H1, H l = none → Px p H H1 → H1 l = some (.lst xs) → Ψ xs H1 → D.nx (σ.set i (some (.ref l))) H1) : tAsg te (gName i) D σ H := h H (Px.refl hp) _ fun l xs H1 hl x e a => k l xs H1 hl x e a
theorem qr_asgL {i : Nat} (hp : Pen H p) (h : ErL p te σ H Ψ) (k : ∀ l xs H1, H l = none → Px p H H1 → H1 l = some (.lst xs) → Ψ xs H1 → tz D (σ.set i (some (.ref l))) H1) : tSeq (tAsg te (gName i)) tz D σ H := sr_asgL (D := { D with nx := tz D }) hp h k
theorem sr_ret (hp : Pen H p) (h : ErD p te σ H Φ) (k : ∀ v H1, Px p H H1 → Φ v H1 → D.rt v H1) : tRet te D σ H := h H (Px.refl hp) _ fun v H1 x a => k v H1 x a
theorem sr_retL (hp : Pen H p) (h : ErL p te σ H Ψ) (k : ∀ l xs H1, H l = none → Px p H H1 → H1 l = some (.lst xs) → Ψ xs H1 → D.rt (.ref l) H1) : tRet te D σ H := h H (Px.refl hp) _ fun l xs H1 hl x e a => k l xs H1 hl x e a
/-- tuple(a new list) -/
theorem erd_tupL (h : ErL p te σ H Ψ) (hst : ∀ vs H1 H2, Px p H H1 → Px p H1 H2 → Ψ vs H1 → Ψ vs H2) : ErD p (tCB (rTupP K) (tCons te tNil)) σ H (fun v H1 => ∃ l xs, v = .ref l ∧ SqP H1 l xs ∧ Ψ xs H1) := fun H1 x Q q =>
  h H1 x _ fun l xs H2 hl x2 e a => ⟨l, xs, rfl, .inl ⟨sq_of e, fun m o hm ho => by
    have x3 : Px p H2 (upd H2 m (.frz o (.tup xs))) := Px.of x2.pen (Ex.new hm)
    exact q _ _ (x2.trans x3) ⟨m, xs, rfl, ⟨o, ho, upd_same⟩, hst xs H2 _ (x.trans x2) x3 a⟩⟩⟩
end
end Kb
set_option Elab.async false
set_option linter.all false
set_option maxRecDepth 100000
set_option maxHeartbeats 4000000
namespace Kb
open PySem PySem.Spec PyProof.Rows L2 Evl
/-- what is known of a value stays when the pen is used, when a list is changed -/
structure Stb (p : Addr × Addr) (Φ : V → Hp → Prop) : Prop where
  px : ∀ v H1 H2, Pen H1 p → Px p H1 H2 → Φ v H1 → Φ v H2
  mu : ∀ v H1 b xs ys, H1 b = some (.lst xs) → Φ v H1 → Φ v (upd H1 b (.lst ys))
mutual
/-- data without lists -/
def noL : PyData → Bool
  | .list _ => false
  | .dict _ => false
  | .tuple ds => noLs ds
  | _ => true
def noLs : List PyData → Bool
  | [] => true
  | d :: ds => noL d && noLs ds
end
section
variable {K : PySem.W.Frag} {σ : L2.St} {H H' H1 H2 : Hp} {te ta tb tl tp : TE} {tr : TA} {v w : V} {d : PyData} {vs : List V} {ds : List PyData} {p : Addr × Addr} {Φ Φ' : V → Hp → Prop} {Ψ Ψ' : List V → Hp → Prop} {D : Ends} {tz tu : TS} {tt : TT}
theorem t_mu {b q : Addr} {xs ys zs : List V} (hb : H b = some (.lst xs)) (h : SqT K H q zs) : SqT K (upd H b (.lst ys)) q zs := by
  rcases h with (h | ⟨o2, h⟩) | h
  · exact .inl (.inl (by rw [upd_ne (fun z => by rw [z, hb] at h; cases h)]; exact h))
  · exact .inl (.inr ⟨o2, by rw [upd_ne (fun z => by rw [z, hb] at h; cases h)]; exact h⟩)
  · exact .inr h
mutual
theorem dp_mu {b : Addr} {xs ys : List V} (hb : H b = some (.lst xs)) : ∀ {v : V} {d : PyData}, Dp K H v d → noL d = true → Dp K (upd H b (.lst ys)) v d
  | _, _, .non, _ => .non
  | _, _, .bl b, _ => .bl b
  | _, _, .int i, _ => .int i
  | _, _, .str x, _ => .str x
  | _, _, .lst h a, z => by simp [noL] at z
  | _, _, .tup h a, z => .tup (t_mu hb h) (dps_mu hb a (by simpa [noL] using z))
theorem dps_mu {b : Addr} {xs ys : List V} (hb : H b = some (.lst xs)) : ∀ {vs : List V} {ds : List PyData}, DpAll K H vs ds → noLs ds = true → DpAll K (upd H b (.lst ys)) vs ds
  | _, _, .nil, _ => .nil
  | _, _, .cons h a, z => by
    simp only [noLs, Bool.and_eq_true] at z
    exact .cons (dp_mu hb h z.1) (dps_mu hb a z.2)
end
theorem pd_mu {b : Addr} {xs ys : List V} (hb : H b = some (.lst xs)) (h : Pd K H v d) (hn : noL d = true) : Pd K (upd H b (.lst ys)) v d := by
  obtain ⟨q, zs, ds, rfl, rfl, ⟨o, ho, h⟩, a⟩ := h
  exact ⟨q, zs, ds, rfl, rfl, ⟨o, ho, by rw [upd_ne (fun z => by rw [z, hb] at h; cases h)]; exact h⟩, dps_mu hb a (by simpa [noL] using hn)⟩
/-- a datum without lists -/
def isD (K : PySem.W.Frag) (S : PyData → Prop) : V → Hp → Prop := fun v H => ∃ d, Dp K H v d ∧ noL d = true ∧ S d
theorem Stb.pure (f : V → Prop) : Stb p (fun v _ => f v) := ⟨fun _ _ _ _ _ h => h, fun _ _ _ _ _ _ h => h⟩
theorem Stb.isD {S : PyData → Prop} : Stb p (isD K S) := ⟨fun v H1 H2 hp x ⟨d, h, n, s⟩ => ⟨d, x.dp hp h, n, s⟩, fun v H1 b xs ys hb ⟨d, h, n, s⟩ => ⟨d, dp_mu hb h n, n, s⟩⟩
theorem stb_isD {S : PyData → Prop} : Stb p (isD K S) := Stb.isD
/-- a plain tuple without lists -/
def isP (K : PySem.W.Frag) (S : PyData → Prop) : V → Hp → Prop := fun v H => ∃ d, Pd K H v d ∧ noL d = true ∧ S d
theorem stb_isP {S : PyData → Prop} : Stb p (isP K S) := ⟨fun v H1 H2 hp x ⟨d, h, n, s⟩ => ⟨d, x.pd hp h, n, s⟩, fun v H1 b xs ys hb ⟨d, h, n, s⟩ => ⟨d, pd_mu hb h n, n, s⟩⟩
theorem isP_D {S : PyData → Prop} (h : isP K S v H) : isD K S v H := let ⟨d, a, n, s⟩ := h; ⟨d, a.dp, n, s⟩
/-- items of a list, each with its own -/
def each (F : Nat → V → Hp → Prop) (n : Nat) : List V → Hp → Prop := fun xs H => xs.length = n ∧ ∀ (i : Nat) x, xs[i]? = some x → F i x H
theorem each_px {F : Nat → V → Hp → Prop} (hs : ∀ i, Stb p (F i)) {n : Nat} {xs : List V} (hp : Pen H1 p) (x : Px p H1 H2) (h : each F n xs H1) : each F n xs H2 := ⟨h.1, fun i y hy => (hs i).px y H1 H2 hp x (h.2 i y hy)⟩
theorem each_snoc {F : Nat → V → Hp → Prop} {n : Nat} {xs : List V} {y : V} (h : each F n xs H) (hy : F n y H) : each F (n + 1) (xs ++ [y]) H := by
  refine ⟨by rw [List.length_append, h.1]; rfl, fun i x hx => ?_⟩
  by_cases hi : i < xs.length
  · rw [List.getElem?_append_left hi] at hx
    exact h.2 i x hx
  · rw [List.getElem?_append_right (by omega)] at hx
    have : i - xs.length = 0 := by
      cases hq : i - xs.length with
      | zero => rfl
      | succ k =>
        rw [hq] at hx
        simp at hx
    rw [this] at hx
    have e : y = x := by simpa using hx
    have e2 : i = n := by rw [← h.1]; omega
    rw [← e, e2]
    exact hy
theorem each_mu {F : Nat → V → Hp → Prop} (hs : ∀ i, Stb p (F i)) {n : Nat} {xs : List V} {b : Addr} {zs ys : List V} (hb : H b = some (.lst zs)) (h : each F n xs H) : each F n xs (upd H b (.lst ys)) := ⟨h.1, fun i y hy => (hs i).mu y H b zs ys hb (h.2 i y hy)⟩
/-- a comprehension over range(n), n drawn perhaps, whose items draw -/
theorem erl_lcR {j : Nat} {ws : List Nat} {Nn : Int → Prop} {F : Nat → V → Hp → Prop} (h : ErA p tr σ H (fun vs _ => ∃ n : Int, vs = [.int n] ∧ 0 ≤ n ∧ n ≤ 40000 ∧ Nn n)) (hw : ∀ x, wipe ((wipe σ ws).set j (some x)) ws = wipe σ ws) (ht : ∀ σ' H1, EvT tt σ' H1 true)
    (hs : ∀ i, Stb p (F i)) (he : ∀ i : Nat, ErD p te ((wipe σ ws).set j (some (.int (i : Int)))) H (F i)) : ErL p (tLc (iRng1 tr) (gName j) tt te ws) σ H (fun xs H2 => ∃ n : Nat, Nn n ∧ each F n xs H2) := fun H0 x0 Q q =>
  h H0 x0 _ fun vs H1 x1 ⟨n, e, n0, n1, hn⟩ => by
    subst e
    refine ⟨n, rfl, by omega, by omega, fun Dl hD => lc_range (lo := 0) (n := n.toNat) (fun i H' => Px p H1 H' ∧ ∃ xs, each F i xs H' ∧ H' Dl = some (.lst xs)) ⟨Px.of x1.pen (Ex.new hD), [], ⟨rfl, fun i x z => by simp at z⟩, upd_same⟩ (fun i H' hi a => ?_) (fun H' a => ?_)⟩
    · have e0 : (0 : Int) + (i : Int) = (i : Int) := Int.zero_add _
      show wipe ((wipe σ ws).set j (some (.int ((0 : Int) + (i : Int))))) ws = wipe σ ws ∧ tt ((wipe σ ws).set j (some (.int ((0 : Int) + (i : Int))))) H' fun b H3 => if b = true then te ((wipe σ ws).set j (some (.int ((0 : Int) + (i : Int))))) H3 fun y H4 => ∃ acc, H4 Dl = some (.lst acc) ∧ acc.length < sizeLine ∧ (Px p H1 (upd H4 Dl (.lst (acc ++ [y]))) ∧ ∃ xs, each F (i + 1) xs (upd H4 Dl (.lst (acc ++ [y]))) ∧ (upd H4 Dl (.lst (acc ++ [y]))) Dl = some (.lst xs)) else (Px p H1 H3 ∧ ∃ xs, each F (i + 1) xs H3 ∧ H3 Dl = some (.lst xs))
      rw [e0]
      obtain ⟨xa, xs, ha, hd⟩ := a
      refine ⟨hw _, ht _ _ H' (Ex.refl H') _ fun H3 e3 => ?_⟩
      refine he i H3 ((((x0.trans x1).trans xa).ex e3)) _ fun y H4 x4 hy => ?_
      have x3 := xa.ex e3
      have hd4 : H4 Dl = some (.lst xs) := x4.at_ x3.pen (e3 _ _ hd) (fun _ z => nomatch z)
      have ha4 : each F i xs H4 := each_px hs xa.pen ((Px.of xa.pen e3).trans x4) ha
      exact ⟨xs, hd4, sz_lt (by rw [ha.1]; omega), Px.put x1.pen (x3.trans x4) hD, xs ++ [y], each_mu hs hd4 (each_snoc ha4 hy), upd_same⟩
    · obtain ⟨xa, xs, ha, hd⟩ := a
      have en : ((n.toNat : Nat) : Int) = n := Int.toNat_of_nonneg n0
      exact q Dl xs H' (Px.fresh x0.pen x1 hD) (x1.trans xa) hd ⟨n.toNat, by rw [en]; exact hn, ha⟩
/-- over a list (new or held) or a tuple whose items are known -/
theorem erl_lcI {j : Nat} {ws : List Nat} {wi : TI} {xs : List V} {n : Nat} {F : Nat → V → Hp → Prop} {J : It} {G : Hp → Prop} (wk : Walk J n G (YAt xs)) (hn : n = xs.length) (hz : n ≤ 40000)
    (hwi : ∀ H1, Px p H H1 → ∀ R : It → Hp → Prop, (∀ H2, Px p H1 H2 → (∀ H3, Px p H2 H3 → G H3) → R J H2) → wi σ H1 R) (hw : ∀ x, wipe ((wipe σ ws).set j (some x)) ws = wipe σ ws) (ht : ∀ σ' H1, EvT tt σ' H1 true)
    (hs : ∀ i, Stb p (F i)) (he : ∀ (i : Nat) x, xs[i]? = some x → ErD p te ((wipe σ ws).set j (some x)) H (F i)) : ErL p (tLc wi (gName j) tt te ws) σ H (each F n) := fun H0 x0 Q q =>
  hwi H0 x0 _ fun H1 x1 hG => fun Dl hD =>
    lc_it wk (fun i H' => Px p H1 H' ∧ G H' ∧ ∃ ys, each F i ys H' ∧ H' Dl = some (.lst ys)) ⟨Px.of x1.pen (Ex.new hD), hG _ (Px.of x1.pen (Ex.new hD)), [], ⟨rfl, fun i x z => by simp at z⟩, upd_same⟩ (fun i H' _ a => a.2.1) (fun i x H' H'' hi a y => by
      obtain ⟨rfl, hxi⟩ := y
      obtain ⟨xa, gg, ys, ha, hd⟩ := a
      refine ⟨hw _, ht _ _ _ (Ex.refl _) _ fun H3 e3 => ?_⟩
      refine he i x hxi H3 ((((x0.trans x1).trans xa).ex e3)) _ fun y H4 x4 hy => ?_
      have x3 := xa.ex e3
      have hd4 : H4 Dl = some (.lst ys) := x4.at_ x3.pen (e3 _ _ hd) (fun _ z => nomatch z)
      have ha4 : each F i ys H4 := each_px hs xa.pen ((Px.of xa.pen e3).trans x4) ha
      exact ⟨ys, hd4, sz_lt (by rw [ha.1]; omega), Px.put x1.pen (x3.trans x4) hD, hG _ (Px.put x1.pen (x3.trans x4) hD), ys ++ [y], each_mu hs hd4 (each_snoc ha4 hy), upd_same⟩)
      (fun H' a => q Dl _ H' (Px.fresh x0.pen x1 hD) (x1.trans a.1) a.2.2.choose_spec.2 a.2.2.choose_spec.1)
/-- over a held list -/
theorem erl_lcH {j : Nat} {ws : List Nat} {xs : List V} {a : Addr} {F : Nat → V → Hp → Prop} (hH : Pen H p) (hl : ∀ H1, Px p H H1 → Ev tl σ H1 (.ref a)) (hx : SqL K H a xs) (hz : xs.length ≤ 40000) (hw : ∀ x, wipe ((wipe σ ws).set j (some x)) ws = wipe σ ws) (ht : ∀ σ' H1, EvT tt σ' H1 true)
    (hs : ∀ i, Stb p (F i)) (he : ∀ (i : Nat) x, xs[i]? = some x → ErD p te ((wipe σ ws).set j (some x)) H (F i)) : ErL p (tLc (iSeq K tl) (gName j) tt te ws) σ H (each F xs.length) :=
  erl_lcI (wk := walk_list (K := K) (a := a) (xs := xs)) rfl hz (fun H1 x R k => .inl (hl H1 x H1 (Ex.refl H1) _ fun H2 e2 => ⟨a, rfl, ⟨xs, (x.ex e2).l hH hx⟩, k H2 (Px.of x.pen e2) (fun H3 x3 => ((x.ex e2).trans x3).l hH hx)⟩)) hw ht hs he
/-- over a held tuple -/
theorem erl_lcHT {j : Nat} {ws : List Nat} {xs : List V} {a : Addr} {F : Nat → V → Hp → Prop} (hH : Pen H p) (hl : ∀ H1, Px p H H1 → Ev tl σ H1 (.ref a)) (hx : SqT K H a xs) (hz : xs.length ≤ 40000) (hw : ∀ x, wipe ((wipe σ ws).set j (some x)) ws = wipe σ ws) (ht : ∀ σ' H1, EvT tt σ' H1 true)
    (hs : ∀ i, Stb p (F i)) (he : ∀ (i : Nat) x, xs[i]? = some x → ErD p te ((wipe σ ws).set j (some x)) H (F i)) : ErL p (tLc (iSeq K tl) (gName j) tt te ws) σ H (each F xs.length) :=
  erl_lcI (wk := walk_tup (K := K) (a := a) (xs := xs)) rfl hz (fun H1 x R k => .inr (.inl (hl H1 x H1 (Ex.refl H1) _ fun H2 e2 => ⟨a, rfl, ⟨xs, (x.ex e2).t hH hx⟩, k H2 (Px.of x.pen e2) (fun H3 x3 => ((x.ex e2).trans x3).t hH hx)⟩))) hw ht hs he
end
end Kb
set_option Elab.async false
set_option linter.all false
set_option maxRecDepth 100000
set_option maxHeartbeats 4000000
namespace Kb
open PySem PySem.Spec PyProof.Rows L2 Evl
section
variable {K : PySem.W.Frag} {σ : L2.St} {H H' H1 H2 : Hp} {te ta tb tl tp : TE} {tr : TA} {v w x : V} {d : PyData} {vs : List V} {ds : List PyData} {p : Addr × Addr} {Φ Φ' : V → Hp → Prop} {Ψ Ψ' : List V → Hp → Prop} {D : Ends} {tz tu : TS} {tt : TT} {r : R2}
theorem er_op1 {f : V → Prop} (ha : ∀ H1, Px p H H1 → Ev ta σ H1 x) (hb : ErD p tb σ H Φ) (hr : ∀ y H1, Px p H H1 → Φ y H1 → ∃ z, RV r x y H1 z ∧ f z) : ErD p (tOp r ta tb) σ H (fun z _ => f z) := fun H1 x1 Q q =>
  ha H1 x1 H1 (Ex.refl H1) _ fun H2 e2 => hb H2 (x1.ex e2) _ fun y H3 x3 a => by
    obtain ⟨z, h1, h2⟩ := hr y H3 ((x1.ex e2).trans x3) a
    exact h1 H3 (Ex.refl H3) _ fun H4 e4 => q z H4 (((Px.of x1.pen e2).trans x3).ex e4) h2
theorem er_op2 {f : V → Prop} (ha : ErD p ta σ H Φ) (hb : ∀ H1, Px p H H1 → Ev tb σ H1 x) (hr : ∀ y H1, Px p H H1 → Φ y H1 → ∃ z, (∀ H2, RV r y x H2 z) ∧ f z) : ErD p (tOp r ta tb) σ H (fun z _ => f z) := fun H1 x1 Q q =>
  ha H1 x1 _ fun y H2 x2 a => hb H2 (x1.trans x2) H2 (Ex.refl H2) _ fun H3 e3 => by
    obtain ⟨z, h1, h2⟩ := hr y H2 (x1.trans x2) a
    exact h1 H3 H3 (Ex.refl H3) _ fun H4 e4 => q z H4 ((x2.ex e3).ex e4) h2
theorem era1 (h : ErD p te σ H Φ) : ErA p (tCons te tNil) σ H (fun vs H1 => ∃ v, vs = [v] ∧ Φ v H1) := fun H1 x1 Q q => h H1 x1 _ fun v H2 x2 a => q [v] H2 x2 ⟨v, rfl, a⟩
/-- f(a new list) -/
theorem erl_callL {sp : Sp} {E : XK} (h : ErL p te σ H Ψ) (hs : ∀ l xs H1, Px p H H1 → H1 l = some (.lst xs) → Ψ xs H1 → ∀ Q : VK, (∀ m ys H2, H1 m = none → Px p H1 H2 → H2 m = some (.lst ys) → Ψ' ys H2 → Q (.ref m) H2) → sp [.ref l] H1 Q E) : ErL p (tCall sp [] E (tCons te tNil)) σ H Ψ' := fun H1 x1 Q q =>
  h H1 x1 _ fun l xs H2 hl x2 h2 a => hs l xs H2 (x1.trans x2) h2 a Q fun m ys H3 hm x3 h3 b => q m ys H3 (Px.fresh x1.pen x2 hm) (x2.trans x3) h3 b
theorem er_andT {b0 : Bool} {t u : TT} {f : Bool → Prop} (h1 : ∀ H1, Px p H H1 → EvT t σ H1 b0) (h2 : b0 = true → ErT p u σ H (fun _ _ => True)) : ErT p (tAnd t u) σ H (fun _ _ => True) := fun H1 x1 Q q => h1 H1 x1 H1 (Ex.refl H1) _ fun H2 e2 => by
  cases b0 with
  | true => exact h2 rfl H2 (x1.ex e2) Q fun b H3 x3 a => q b H3 ((Px.of x1.pen e2).trans x3) trivial
  | false => exact q false H2 (Px.of x1.pen e2) trivial
theorem ert_test (h : ErD p te σ H (fun v _ => ∃ b, v = .bl b)) : ErT p (tTest te) σ H (fun _ _ => True) := fun H1 x1 Q q => h H1 x1 _ fun v H2 x2 ⟨b, hb⟩ => ⟨b, hb, q b H2 x2 trivial⟩
/-- items out of a list of texts, of numbers -/
theorem each_strs {zs : List Str} {n : Nat} {xs : List V} (h : each (fun _ v _ => v ∈ zs.map V.str) n xs H) : ∃ ys : List Str, xs = ys.map V.str ∧ ys.length = n ∧ ∀ y ∈ ys, y ∈ zs := by
  obtain ⟨hl, ha⟩ := h
  have : ∀ x ∈ xs, ∃ y ∈ zs, V.str y = x := fun x hx => by
    obtain ⟨i, hi⟩ := List.getElem?_of_mem hx
    exact List.mem_map.mp (ha i x hi)
  clear ha
  induction xs generalizing n with
  | nil => exact ⟨[], rfl, hl, fun _ h => nomatch h⟩
  | cons x r ih =>
    obtain ⟨ys, h1, h2, h3⟩ := ih rfl fun x hx => this x (List.mem_cons_of_mem _ hx)
    obtain ⟨y, hy, e⟩ := this x List.mem_cons_self
    refine ⟨y :: ys, by rw [h1, List.map_cons, e], by rw [List.length_cons, h2]; exact hl, fun z hz => ?_⟩
    rcases List.mem_cons.mp hz with rfl | hz
    · exact hy
    · exact h3 z hz
theorem each_ints {f : Int → Prop} {n : Nat} {xs : List V} (h : each (fun _ v _ => ∃ i, v = .int i ∧ f i) n xs H) : ∃ ys : List Int, xs = ys.map V.int ∧ ys.length = n ∧ ∀ y ∈ ys, f y := by
  obtain ⟨hl, ha⟩ := h
  have : ∀ x ∈ xs, ∃ i, x = V.int i ∧ f i := fun x hx => by
    obtain ⟨i, hi⟩ := List.getElem?_of_mem hx
    exact ha i x hi
  clear ha
  induction xs generalizing n with
  | nil => exact ⟨[], rfl, hl, fun _ h => nomatch h⟩
  | cons x r ih =>
    obtain ⟨ys, h1, h2, h3⟩ := ih rfl fun x hx => this x (List.mem_cons_of_mem _ hx)
    obtain ⟨y, e, hy⟩ := this x List.mem_cons_self
    refine ⟨y :: ys, by rw [h1, List.map_cons, e], by rw [List.length_cons, h2]; exact hl, fun z hz => ?_⟩
    rcases List.mem_cons.mp hz with rfl | hz
    · exact hy
    · exact h3 z hz
end
end Kb
set_option Elab.async false
set_option linter.all false
set_option maxRecDepth 100000
set_option maxHeartbeats 4000000
namespace Kb
open PySem PySem.Spec PyProof.Rows L2 Evl
section
variable {K : PySem.W.Frag} {σ : L2.St} {H H' H1 H2 : Hp} {te ta tb tl tp : TE} {tr : TA} {v w x : V} {d : PyData} {vs xs ys : List V} {ds : List PyData} {p : Addr × Addr} {Φ Φ' : V → Hp → Prop} {Ψ Ψ' : List V → Hp → Prop} {D : Ends} {tz tu : TS} {tt : TT} {r : R2} {a : Addr}
/-- xs + a new list that draws, xs a new list -/
theorem erl_catL (ha : ∀ H1, Px p H H1 → EvL ta σ H1 xs) (hb : ErL p tb σ H Ψ) (hz : ∀ ys H1, Ψ ys H1 → xs.length + ys.length ≤ 100000) (hst : ∀ ys H1 H2, Px p H H1 → Px p H1 H2 → Ψ ys H1 → Ψ ys H2) : ErL p (tOp (rAdd K) ta tb) σ H (fun zs H2 => ∃ ys, zs = xs ++ ys ∧ Ψ ys H2) := fun H1 x1 Q q =>
  ha H1 x1 H1 (Ex.refl H1) _ fun l H2 hl e2 h2 => hb H2 (x1.ex e2) _ fun m ys H3 hm x3 h3 b => by
    have h2' : H3 l = some (.lst xs) := x3.at_ (x1.pen.same e2) h2 (fun _ z => nomatch z)
    refine .inr (.inr (.inl ⟨l, m, xs, ys, rfl, rfl, h2', h3, sz_of (hz ys H3 b), fun r hr => ?_⟩))
    have x4 : Px p H3 (upd H3 r (.lst (xs ++ ys))) := Px.of x3.pen (Ex.new hr)
    exact q r _ _ (Px.fresh x1.pen ((Px.of x1.pen e2).trans x3) hr) (((Px.of x1.pen e2).trans x3).trans x4) upd_same ⟨ys, rfl, hst ys H3 _ ((x1.ex e2).trans x3) x4 b⟩
/-- a new list and a held one -/
theorem el_catNH (ha : EvL ta σ H xs) (hb : Ev tb σ H (.ref a)) (hy : H a = some (.lst ys)) (hz : xs.length + ys.length ≤ 100000) : EvL (tOp (rAdd K) ta tb) σ H (xs ++ ys) := fun H1 e Q q =>
  ha H1 e _ fun l H2 hl e2 h2 => hb H2 (e.trans e2) _ fun H3 e3 => .inr (.inr (.inl ⟨l, a, xs, ys, rfl, rfl, e3 _ _ h2, (e2.trans e3) _ _ (e _ _ hy), sz_of hz, fun r hr => q r _ (fresh_back (e2.trans e3) hr) ((e2.trans e3).trans (Ex.new hr)) upd_same⟩))
/-- a test whose first part draws nothing -/
theorem er_andB {b0 : Bool} {t u : TT} (h1 : ∀ H1, Px p H H1 → EvT t σ H1 b0) (h2 : b0 = true → ErT p u σ H (fun _ _ => True)) : ErT p (tAnd t u) σ H (fun b _ => b = true → b0 = true) := fun H1 x1 Q q => h1 H1 x1 H1 (Ex.refl H1) _ fun H2 e2 => by
  cases b0 with
  | true => exact h2 rfl H2 (x1.ex e2) Q fun b H3 x3 a => q b H3 ((Px.of x1.pen e2).trans x3) (fun _ => rfl)
  | false => exact q false H2 (Px.of x1.pen e2) (fun z => z)
/-- a row of two numbers, as a new tuple -/
def isT2 (i j : Int) : V → Hp → Prop := fun v H => ∃ t, v = .ref t ∧ H t = some (.tup [.int i, .int j])
theorem stb_T2 {i j : Int} : Stb p (isT2 i j) := ⟨fun v H1 H2 hp x ⟨t, e, h⟩ => ⟨t, e, x.at_ hp h (fun _ z => nomatch z)⟩, fun v H1 b xs ys hb ⟨t, e, h⟩ => ⟨t, e, by rw [upd_ne (fun z => by rw [z, hb] at h; cases h)]; exact h⟩⟩
/-- over zip(xs, ys), the items new tuples -/
theorem erl_lcZ {i1 i2 : Nat} {ws : List Nat} {R : List V → List V → Prop} {F : List V → List V → Nat → V → Hp → Prop} (h : ErA p tr σ H (fun vs H1 => ∃ a b xs ys, vs = [.ref a, .ref b] ∧ SqL K H1 a xs ∧ SqL K H1 b ys ∧ R xs ys)) (hlen : ∀ xs ys, R xs ys → ys.length = xs.length ∧ xs.length ≤ 40000)
    (hw : ∀ x y, wipe (((wipe σ ws).set i1 (some x)).set i2 (some y)) ws = wipe σ ws) (ht : ∀ σ' H1, EvT tt σ' H1 true) (hs : ∀ xs ys i, Stb p (F xs ys i))
    (he : ∀ xs ys i x y, R xs ys → xs[i]? = some x → ys[i]? = some y → ErD p te (((wipe σ ws).set i1 (some x)).set i2 (some y)) H (F xs ys i)) :
    ErL p (tLc (iZip K tr) (gTup K 2 (gCons (gName i1) (gCons (gName i2) gNil))) tt te ws) σ H (fun zs H2 => ∃ xs ys, R xs ys ∧ each (F xs ys) xs.length zs H2) := fun H0 x0 Q q =>
  h H0 x0 _ fun vs H1 x1 ⟨a, b, xs, ys, e, ha, hb, hR⟩ => by
    subst e
    obtain ⟨hl1, hl2⟩ := hlen xs ys hR
    refine ⟨a, b, xs, ys, rfl, ha, hb, fun Dl hD => ?_⟩
    refine lc_it (walk_zip (K := K) (a := a) (b := b) (xs := xs) (ys := ys) (n := xs.length) (by omega)) (fun i H' => Px p H1 H' ∧ ∃ zs, each (F xs ys) i zs H' ∧ H' Dl = some (.lst zs)) ⟨Px.of x1.pen (Ex.new hD), [], ⟨rfl, fun i x z => by simp at z⟩, upd_same⟩ (fun i H' _ z => ⟨z.1.l x1.pen ha, z.1.l x1.pen hb⟩) (fun i v H' H'' hi z y => ?_) (fun H' z => q Dl _ H' (Px.fresh x0.pen x1 hD) (x1.trans z.1) z.2.choose_spec.2 ⟨xs, ys, hR, z.2.choose_spec.1⟩)
    obtain ⟨T, x, y, rfl, hT, rfl, hx, hy⟩ := y
    obtain ⟨xa, zs, hz, hd⟩ := z
    have e5 : Ex H' (upd H' T (.tup [x, y])) := Ex.new hT
    refine ⟨T, [x, y], rfl, st_of upd_same, rfl, x, [y], rfl, y, [], rfl, rfl, hw _ _, ht _ _ _ (Ex.refl _) _ fun H3 e3 => ?_⟩
    have x3 := (xa.ex e5).ex e3
    refine he xs ys i x y hR hx hy H3 ((x0.trans x1).trans x3) _ fun u H4 x4 hu => ?_
    have hd4 : H4 Dl = some (.lst zs) := x4.at_ x3.pen (e3 _ _ (e5 _ _ hd)) (fun _ z => nomatch z)
    have hz4 : each (F xs ys) i zs H4 := each_px (hs xs ys) xa.pen ((Px.of xa.pen (e5.trans e3)).trans x4) hz
    exact ⟨zs, hd4, sz_lt (by rw [hz.1]; omega), Px.put x1.pen (x3.trans x4) hD, zs ++ [u], each_mu (hs xs ys) hd4 (each_snoc hz4 hu), upd_same⟩
/-- what stands in a row of two numbers -/
def rdP (H : Hp) : V → Int × Int
  | .ref t => match H t with
    | some (.tup [.int i, .int j]) => (i, j)
    | _ => (0, 0)
  | _ => (0, 0)
theorem rdP_of {i j : Int} (h : isT2 i j v H) : rdP H v = (i, j) ∧ ∃ t, v = .ref t ∧ H t = some (.tup [.int i, .int j]) := by
  obtain ⟨t, rfl, h⟩ := h
  refine ⟨?_, t, rfl, h⟩
  simp only [rdP, h]
end
end Kb
set_option Elab.async false
set_option linter.all false
set_option maxRecDepth 100000
set_option maxHeartbeats 4000000
namespace Kb
open PySem PySem.Spec PyProof.Rows L2 Evl
section
variable {K : PySem.W.Frag} {σ : L2.St} {H H' H1 H2 : Hp} {te ta tb tl tp : TE} {tr : TA} {v w x : V} {d : PyData} {vs xs ys : List V} {ds : List PyData} {p : Addr × Addr} {Φ Φ' : V → Hp → Prop} {Ψ Ψ' : List V → Hp → Prop} {D : Ends} {tz tu : TS} {tt : TT} {r : R2} {a : Addr}
/-- rows of two numbers -/
def t2s (qs : List (Int × Int)) (zs : List V) (H : Hp) : Prop := zs.length = qs.length ∧ ∀ (i : Nat) z, zs[i]? = some z → ∃ q, qs[i]? = some q ∧ isT2 q.1 q.2 z H
theorem t2s_dp {qs : List (Int × Int)} : ∀ {zs : List V}, t2s qs zs H → DpAll K H zs (qs.map fun q => rowD (.inl q.1, q.2)) := by
  induction qs with
  | nil =>
    intro zs h
    cases zs with
    | nil => exact .nil
    | cons z r => exact absurd h.1 (by simp)
  | cons q qs ih =>
    intro zs h
    cases zs with
    | nil => exact absurd h.1 (by simp)
    | cons z r =>
      refine .cons ?_ (ih ⟨by simpa using h.1, fun i y hy => ?_⟩)
      · obtain ⟨q', e, t, rfl, ht⟩ := h.2 0 z rfl
        simp at e
        subst e
        exact .tup (st_of ht) (.cons (.int _) (.cons (.int _) .nil))
      · obtain ⟨q', e, hq⟩ := h.2 (i + 1) y (by simpa using hy)
        exact ⟨q', by simpa using e, hq⟩
/-- sorted(a new list of rows of two numbers) -/
theorem erl_sortP {S : List (Int × Int) → Prop} (h : ErL p te σ H (fun zs H2 => ∃ ps, S ps ∧ t2s ps zs H2)) : ErL p (tCB (rSortA K) (tCons te tNil)) σ H (fun zs H2 => ∃ ps qs, S ps ∧ qs.Perm ps ∧ qs.Pairwise (fun x y => x.1 ≤ y.1) ∧ t2s qs zs H2) := fun H1 x1 Q q =>
  h H1 x1 _ fun l xs H2 hl x2 h2 ⟨ps, hS, hps⟩ => by
    have hk : ∀ x ∈ xs, ∃ q ∈ ps, rdP H2 x = q ∧ ∃ t, x = .ref t ∧ H2 t = some (.tup [.int q.1, .int q.2]) := fun x hx => by
      obtain ⟨i, hi⟩ := List.getElem?_of_mem hx
      obtain ⟨q, hq, ht⟩ := hps.2 i x hi
      obtain ⟨e1, e2⟩ := rdP_of ht
      exact ⟨q, List.mem_of_getElem? hq, by rw [e1], e2⟩
    have hmap : xs.map (rdP H2) = ps := by
      apply List.ext_getElem?
      intro i
      rw [List.getElem?_map]
      cases hc : xs[i]? with
      | none =>
        have : ps[i]? = none := by
          rw [List.getElem?_eq_none_iff] at hc ⊢
          have := hps.1
          omega
        rw [this]
        rfl
      | some x =>
        obtain ⟨q, hq, ht⟩ := hps.2 i x hc
        rw [hq]
        show some (rdP H2 x) = some q
        rw [(rdP_of ht).1]
    refine .inr (.inr (.inr ⟨l, xs, rdP H2, rfl, sq_of h2, fun x hx => ?_, fun ys r hs hb hr => ?_⟩))
    · obtain ⟨q, _, e, t, rfl, ht⟩ := hk x hx
      exact ⟨t, rfl, by rw [ht, e]⟩
    · have x3 : Px p H2 (upd H2 r (.lst ys)) := Px.of x2.pen (Ex.new hr)
      have hperm : ys.Perm xs := hb.perm
      refine q r ys _ (Px.fresh x1.pen x2 hr) (x2.trans x3) upd_same ⟨ps, ys.map (rdP H2), hS, by rw [← hmap]; exact hperm.map _, ?_, by rw [List.length_map], fun i z hz => ?_⟩
      · rw [List.pairwise_map]
        refine List.Pairwise.imp (fun {x y} hxy => ?_) hs
        have := SrtO.lexB_no.mp hxy
        omega
      · obtain ⟨q', hq', e, t, rfl, ht⟩ := hk z (hperm.mem_iff.mp (List.mem_of_getElem? hz))
        refine ⟨rdP H2 (.ref t), by rw [List.getElem?_map, hz]; rfl, t, rfl, ?_⟩
        rw [e, upd_ne (ne_of_none ht hr)]
        exact ht
/-- a slice of a held list -/
theorem el_slL {lo hi : Option Int} {tl th : TO} (ha : Ev ta σ H (.ref a)) (h : SqL K H a xs) (hl : EvO tl σ H lo) (hh : EvO th σ H hi) : EvL (tSl (rSl K) ta tl th) σ H (cutV xs lo hi) := fun H1 e Q q =>
  ha H1 e _ fun H2 e2 => hl H2 (e.trans e2) _ fun H3 e3 => hh H3 ((e.trans e2).trans e3) _ fun H4 e4 => .inl ⟨a, xs, rfl, ex_l (((e.trans e2).trans e3).trans e4) h, fun r hr => q r _ (fresh_back ((e2.trans e3).trans e4) hr) (((e2.trans e3).trans e4).trans (Ex.new hr)) upd_same⟩
theorem cut_tail (x : V) (r : List V) : cutV (x :: r) (some 1) none = r := by
  unfold cutV
  have e : HT.sIx (x :: r).length 0 (some 1) = 1 := by
    simp only [HT.sIx]
    rw [if_neg (by decide), List.length_cons]
    show min 1 _ = 1
    omega
  rw [e, HT.sIx_none]
  simp
theorem t2s_px {qs : List (Int × Int)} {zs : List V} (hp : Pen H p) (x : Px p H H') (h : t2s qs zs H) : t2s qs zs H' := ⟨h.1, fun i z hz => let ⟨q, e, ht⟩ := h.2 i z hz; ⟨q, e, stb_T2.px z H H' hp x ht⟩⟩
theorem int_at {ns : List Int} {i : Nat} {x : V} (h : (ns.map V.int)[i]? = some x) : ∃ n, ns[i]? = some n ∧ x = .int n := by
  rw [List.getElem?_map] at h
  cases hq : ns[i]? with
  | none => rw [hq] at h; cases h
  | some n =>
    rw [hq] at h
    cases h
    exact ⟨n, rfl, rfl⟩
theorem er_T2 {i j : Int} (ha : ∀ H1, Px p H H1 → Ev ta σ H1 (.int i)) (hb : ∀ H1, Px p H H1 → Ev tb σ H1 (.int j)) : ErD p (tTup (tCons ta (tCons tb tNil))) σ H (isT2 i j) :=
  (erd_tup (Ψ := fun vs _ => vs = [.int i, .int j]) (er_eva fun H1 x1 => ea_cons (ha H1 x1) (ea_cons (hb H1 x1) ea_nil)) (fun vs H1 h => by rw [h]; exact (show 2 ≤ 100000 by decide)) (fun _ _ _ _ _ h => h)).imp fun v H1 x1 ⟨l, vs, e, h, e2⟩ => ⟨l, e, by rw [h, e2]⟩
theorem era1L (h : ErL p te σ H Ψ) : ErA p (tCons te tNil) σ H (fun vs H1 => ∃ l xs, vs = [.ref l] ∧ H1 l = some (.lst xs) ∧ Ψ xs H1) := fun H1 x1 Q q => h H1 x1 _ fun l xs H2 hl x2 h2 a => q [.ref l] H2 x2 ⟨l, xs, rfl, h2, a⟩
theorem Px.sqp (h : Pen H p) (x : Px p H H') {a : Addr} {xs : List V} (e : SqP H a xs) : SqP H' a xs := by
  obtain ⟨o, h1, h2⟩ := e
  exact ⟨o, h1, x.at_ h h2 (fun _ z => nomatch z)⟩
def iOf : V → Int
  | .int i => i
  | _ => 0
theorem map_iOf (ns : List Int) : (ns.map V.int).map iOf = ns := by
  rw [List.map_map]
  show ns.map (fun i => i) = ns
  exact List.map_id' ns
theorem perm_ints {ys : List V} {ns : List Int} (h : ys.Perm (ns.map V.int)) : ∃ rs : List Int, ys = rs.map V.int ∧ rs.Perm ns := by
  refine ⟨ys.map iOf, ?_, by have := h.map iOf; rwa [map_iOf] at this⟩
  rw [List.map_map]
  refine (List.map_id' ys).symm.trans (List.map_congr_left fun v hv => ?_)
  obtain ⟨i, _, e⟩ := List.mem_map.mp (h.mem_iff.mp hv)
  rw [← e]
  rfl
theorem sr_ifS {Φ : Bool → Hp → Prop} (hp : Pen H p) (h : ErT p tt σ H Φ) (k : ∀ b H1, Px p H H1 → Φ b H1 → if b = true then tz D σ H1 else tu D σ H1) : tIfS tt tz tu D σ H := h H (Px.refl hp) _ fun b H1 x a => k b H1 x a
theorem qr_ifS {Φ : Bool → Hp → Prop} {tw : TS} (hp : Pen H p) (h : ErT p tt σ H Φ) (k : ∀ b H1, Px p H H1 → Φ b H1 → if b = true then tz { D with nx := tw D } σ H1 else tu { D with nx := tw D } σ H1) : tSeq (tIfS tt tz tu) tw D σ H := sr_ifS (D := { D with nx := tw D }) hp h k
end
end Kb
set_option Elab.async false
set_option linter.all false
set_option maxRecDepth 100000
set_option maxHeartbeats 4000000
namespace Kb
open PySem PySem.Spec PyProof.Rows L2 LamX
/-! ### lambdas that are held, handed down and called below -/
/-- a lambda's words -/
structure LF where
  q : Str
  params : Arguments
  body : Expr
  scope : Scope
  cl : List (Str × Addr)
  c : Addr
def LamO (f : Addr) (F : LF) : HO := .ext fun h => ∃ pm ctv : Value, h.get? f = some (PySem.W.kla_obj "<lambda>" F.q F.params F.body F.scope F.cl pm F.c ctv)
theorem lamO_at {P : Program} {w : World} {H : Hp} {h : Heap} {f : Addr} {F : LF} (hok : HOk P w H h) (e : H f = some (LamO f F)) : ∃ pm ctv : Value, h.get? f = some (PySem.W.kla_obj "<lambda>" F.q F.params F.body F.scope F.cl pm F.c ctv) := by
  obtain ⟨z, _, _⟩ := hok f _ e
  exact z
theorem lamO_ne {f : Addr} {F : LF} (ps : Array Value) : LamO f F ≠ .tbl ps := fun z => by
  unfold LamO at z
  cases z
section
variable {X : Cx} {pins : List (Addr × Obj)} {σ : L2.St} {H : Hp} {s : Shared}
theorem inv_lam {F : LF} {t' : Nat} {pm ctv : Value} (I : L2.Inv X pins σ H s) :
    L2.Inv X pins σ (upd H s.heap.objs.size (LamO s.heap.objs.size F)) { s with heap := s.heap.push (PySem.W.kla_obj "<lambda>" F.q F.params F.body F.scope F.cl pm F.c ctv), toks := t' } := by
  refine I.laid (a := s.heap.objs.size) (fun b u e => Heap.get?_push_of_some _ e) (Nat.le_refl _) ?_
  have e : (s.heap.push (PySem.W.kla_obj "<lambda>" F.q F.params F.body F.scope F.cl pm F.c ctv)).get? s.heap.objs.size = some (PySem.W.kla_obj "<lambda>" F.q F.params F.body F.scope F.cl pm F.c ctv) := Heap.get?_push_size _ rfl
  exact ⟨⟨pm, ctv, e⟩, ⟨_, e⟩, fun h1 h2 ⟨p, d, z⟩ st => ⟨p, d, st _ z⟩⟩
/-- the lambda is made, and known from then on -/
theorem lam_makeT {T : List (Addr × Str)} {c P : Addr} {params : Arguments} {body : Expr} {scope : Scope} {pos : Pos} {E : Value → Shared → Prop} {Q : Value → Shared → Prop} (I : L2.Inv X pins σ H s) (TB : TabB X.base X.mg c P) (hcode : X.env.code = .ref c)
    (hm : (P, X.env.qual ++ "<lambda>") ∈ T) (hu : ∀ p ∈ T, p.1 = P → p.2 = X.env.qual ++ "<lambda>") (hT : Tabs T H) (hdef : defaultsOf params X.env = ([], [])) (hfree : ∀ y ∈ scope.names, y.2 = .free → ∃ c, X.env.cells.lookup y.1 = some c)
    (h : ∀ (f c' : Addr) (H1 : Hp) (s' : Shared), L2.Inv X pins σ H1 s' → ExtN H H1 → (∀ b, H1 b = none → H b = none) → Tabs T H1 → H f = none → H1 f = some (LamO f ⟨X.env.qual ++ "<lambda>", params, body, scope, cloFrom X.env.cells scope.names [], c'⟩) →
      H1 c' = some (CodeO c' (X.env.qual ++ "<lambda>")) → Q (.ref f) s') :
    wpAny (model X.prog X.w) X.A (eval (.Lambda params body scope pos) X.env) Q E s := by
  obtain ⟨ps, hP, ht, ha⟩ := hT _ hm
  refine PySem.W.kla_eval hdef ?_
  have bP : s.heap.BuiltinsAt X.mg P := TB.bm.keeps I.bk
  have hP' : s.heap.get? P = some { cls := .none, data := .fields ps } := I.hok P _ hP
  cases hc : codeAmong pos ps.toList with
  | none =>
    refine PySem.W.kla_makeFunction (mg := X.mg) (c := c) (P := P) (ps := ps) (closure_ok hfree) I.ok.glob (I.mod.glob.keeps I.bk) hcode (TB.code.keeps I.bk) hP' ht hc TB.gP bP fun c' ctv h' tk hx hge hlt hrec htb => ?_
    obtain ⟨c2, oc, vs, t, e2, hoc, hd, hv⟩ := hrec
    cases e2
    have hsz : s.heap.objs.size ≤ h'.objs.size := Nat.le_trans hge (Nat.le_of_lt hlt)
    have nC : H c' = none := I.hok.fresh hge
    have I1 := inv_table (t' := tk) (more := #[rawInt pos.line, rawInt pos.col, .ref c']) (h' := h') I hP (fun b o hb e => hx b o hb e) htb hge ⟨oc, vs, t, hoc, hd, hv⟩
    have hE : ExtN H (upd (upd H P (.tbl (ps ++ #[rawInt pos.line, rawInt pos.col, .ref c']))) c' (CodeO c' (X.env.qual ++ "<lambda>"))) := fun b o e n => by
      rw [upd_ne (ne_of_none e nC), upd_ne (fun z => n ps (Option.some.inj (e.symm.trans (by rw [z]; exact hP))))]
      exact e
    have eL : (ps ++ #[rawInt pos.line, rawInt pos.col, .ref c']).toList = ps.toList ++ [rawInt pos.line, rawInt pos.col, .ref c'] := by simp
    have T1 : Tabs T (upd (upd H P (.tbl (ps ++ #[rawInt pos.line, rawInt pos.col, .ref c']))) c' (CodeO c' (X.env.qual ++ "<lambda>"))) := fun p hp => by
      by_cases hb : p.1 = P
      · rw [hu p hp hb, hb]
        refine ⟨_, by rw [upd_ne (ne_of_none hP nC), upd_same], by rw [eL]; exact PySem.TriplesOk_snoc _ _ _ _ ht, fun p' cv hcv => ?_⟩
        rw [eL] at hcv
        rcases among_app _ ht hcv with z | z
        · obtain ⟨c0, e1, e2⟩ := ha p' cv z
          exact ⟨c0, e1, hE _ _ e2 codeO_ne⟩
        · exact ⟨c', z, upd_same⟩
      · obtain ⟨ps', a1, a2, a3⟩ := hT p hp
        refine ⟨ps', by rw [upd_ne (ne_of_none a1 nC), upd_ne hb]; exact a1, a2, fun p' cv hcv => ?_⟩
        obtain ⟨c0, e1, e2⟩ := a3 p' cv hcv
        exact ⟨c0, e1, hE _ _ e2 codeO_ne⟩
    have nF := I1.hok.fresh (Nat.le_refl _)
    have I2 := inv_lam (F := ⟨X.env.qual ++ "<lambda>", params, body, scope, cloFrom X.env.cells scope.names [], c'⟩) (t' := tk) (pm := (X.mg "__name__").getD .none) (ctv := ctv) I1
    refine h h'.objs.size c' _ _ I2 (fun b o e n => ?_) (fun b e => NdefX.upd_none (NdefX.upd_none (NdefX.upd_none e))) (T1.ext fun b o e => ?_) (I.hok.fresh hsz) upd_same ?_
    · have e1 := hE b o e n
      exact (upd_ne (ne_of_none e1 nF)).trans e1
    · exact (upd_ne (ne_of_none e nF)).trans e
    · exact (upd_ne (Nat.ne_of_lt hlt)).trans upd_same
  | some cv =>
    obtain ⟨c', e, hco⟩ := ha pos cv hc
    subst e
    refine PySem.W.kla_makeFunctionHit (mg := X.mg) (c := c) (P := P) (ps := ps) (closure_ok hfree) I.ok.glob (I.mod.glob.keeps I.bk) hcode (TB.code.keeps I.bk) hP' ht hc bP fun ctv h' tk hx hsz => ?_
    have I1 : L2.Inv X pins σ H { s with heap := h', toks := tk } := I.kept hx
    have nF : H h'.objs.size = none := I1.hok.fresh (Nat.le_refl _)
    have I2 := inv_lam (F := ⟨X.env.qual ++ "<lambda>", params, body, scope, cloFrom X.env.cells scope.names [], c'⟩) (t' := tk) (pm := (X.mg "__name__").getD .none) (ctv := ctv) I1
    refine h h'.objs.size c' _ _ I2 (fun b o e n => ?_) (fun b e => NdefX.upd_none e) (hT.ext fun b o e => ?_) nF upd_same ?_
    · exact (upd_ne (ne_of_none e nF)).trans e
    · exact (upd_ne (ne_of_none e nF)).trans e
    · exact (upd_ne (ne_of_none hco nF)).trans hco
def tLamT (X : Cx) (T : List (Addr × Str)) (params : Arguments) (body : Expr) (scope : Scope) : TE := fun σ H Q => Tabs T H ∧ ∀ (f c' : Addr) (H1 : Hp), ExtN H H1 → (∀ b, H1 b = none → H b = none) → Tabs T H1 → H f = none →
  H1 f = some (LamO f ⟨X.env.qual ++ "<lambda>", params, body, scope, cloFrom X.env.cells scope.names [], c'⟩) → H1 c' = some (CodeO c' (X.env.qual ++ "<lambda>")) → Q (.ref f) H1
theorem pe_lamT {T : List (Addr × Str)} {c P : Addr} {params : Arguments} {body : Expr} {scope : Scope} {pos : Pos} (TB : TabB X.base X.mg c P) (hcode : X.env.code = .ref c) (hm : (P, X.env.qual ++ "<lambda>") ∈ T) (hu : ∀ p ∈ T, p.1 = P → p.2 = X.env.qual ++ "<lambda>")
    (hdef : defaultsOf params X.env = ([], [])) (L : LamS X.env.scope scope) : PE X (.Lambda params body scope pos) (tLamT X T params body scope) := by
  refine ⟨fun pins s σ H Q I h => ?_⟩
  obtain ⟨hT, h⟩ := h
  exact lam_makeT I TB hcode hm hu hT hdef (L.has I.ok) fun f c' H1 s' I1 e1 e2 e3 e4 e5 e6 => ⟨.ref f, H1, I1, rfl, h f c' H1 e1 e2 e3 e4 e5 e6⟩
/-- entered from below: the captured cells stand as they were -/
theorem lam_start3 {A : Around} {outer : List Env} {E : XK} {scope : Scope} {f c' : Addr} {h₁ : Heap} {tk : Nat} {s1 : Shared} {HZ : Hp} (I : L2.Inv X pins σ H s) (L : LamS X.env.scope scope) (e0 : Env0 X.prog X.w X.K X.mg X.base A outer s1 HZ) (hd : A.handled = none)
    (un : ∀ y c, X.env.cells.lookup y = some c → HZ c = none ∧ ∀ o, s.heap.get? c = some o → s1.heap.get? c = some o) (hns : h₁.Ns s1.heap.objs.size fun y => ([] : List (Str × Value)).reverse.lookup y) (kp : ∀ b o, s1.heap.get? b = some o → h₁.get? b = some o) :
    L2.Inv (lamCx X A outer s1 HZ E scope f c') [] σ HZ { s1 with heap := h₁, toks := tk } := by
  have hfree := L.has I.ok
  have cm : ∀ {y c}, (cloFrom X.env.cells scope.names []).lookup y = some c → X.env.cells.lookup y = some c := fun {y c} e => by
    rcases cloFrom_mem (PySem.mem_of_lookup e) with hm | ⟨h1, h2⟩
    · cases hm
    · obtain ⟨c1, hc⟩ := hfree _ h1 rfl
      have hc : X.env.cells.lookup y = some c1 := hc
      have e2 : c = c1 := by
        rw [h2, hc] <;> rfl
      rw [e2]
      exact hc
  have look : ∀ {y}, scope.names.lookup y = some .free → ∃ c, (cloFrom X.env.cells scope.names []).lookup y = some c := fun {y} hl => by
    have hy : (y, NameKind.free) ∈ scope.names := PySem.mem_of_lookup hl
    exact mem_lookup (cloFrom_has (cells := X.env.cells) (acc := []) hy)
  have cellK : ∀ {y : Str} {c : Addr} {v : Option Value}, X.env.cells.lookup y = some c → s.heap.IsCell c v → h₁.IsCell c v := fun {y c v} n ⟨o, ho, hd⟩ => ⟨o, kp _ _ ((un y c n).2 o ho), hd⟩
  have noA : ∀ b : Addr, b ∉ (lamCx X A outer s1 HZ E scope f c').ex := fun b z => absurd (show b ∈ ([] : List Addr) from z) (by simp)
  refine ⟨⟨e0.mod, L.kind, rfl, rfl, Nat.le_refl _, fun y z c e1 e2 => I.ok.inj y z c (cm e1) (cm e2), fun y hy => ?_, fun y c z _ => ?_, fun _ => hd, Around.frames_deeper e0.frames, .inr ⟨rfl, rfl⟩, fun b z => absurd z (noA b), e0.bs, e0.bsz, fun b _ _ => noA b,
      fun b z => absurd z (noA b), e0.funs, e0.frf⟩,
    rfl, e0.bare, Un.kept kp, ⟨_, hns, fun i y v e1 e2 e3 => ?_⟩, fun y c e => ?_, e0.hok.fresh (Nat.le_refl _), fun y c e => (un y c (cm e)).1, fun q hq => absurd (show q ∈ ([] : List (Addr × Obj)) ++ [] from hq) (by simp), e0.hok.kept kp, I.len⟩
  · have hy : scope.names.lookup y = some .cell ∨ scope.names.lookup y = some .free := hy
    rcases hy with hy | hy
    · exact absurd rfl (L.own _ (PySem.mem_of_lookup hy)).2
    · exact look hy
  · have z : false = true := z
    cases z
  · have e3 : Vis scope y := e3
    rcases e3 with k | k | k
    · exact absurd rfl (L.own _ (PySem.mem_of_lookup k)).1
    · exact absurd rfl (L.own _ (PySem.mem_of_lookup k)).2
    · obtain ⟨m, hn, hl⟩ := I.loc
      have hvis : Vis X.env.scope y := (L.free _ (PySem.mem_of_lookup k) rfl).elim (fun k => .inr (.inl k)) (fun k => .inr (.inr k))
      obtain ⟨w', r, q⟩ := hl i y v e1 e2 hvis
      obtain ⟨c2, h2⟩ := look k
      refine ⟨w', r, .inr ⟨.inr k, c2, h2, ?_⟩⟩
      have c1 := cm h2
      rcases q with ⟨k', _⟩ | ⟨_, c3, e', z⟩
      · have k' : X.env.scope.names.lookup y = some .local := k'
        rcases L.free _ (PySem.mem_of_lookup k) rfl with k2 | k2 <;> rw [show X.env.scope.names.lookup y = _ from k2] at k' <;> cases k'
      · rw [c1] at e'
        cases e'
        exact cellK c1 z
  · obtain ⟨w', z⟩ := I.cell y c (cm e)
    exact ⟨w', cellK (cm e) z⟩
end
/-- f, a callable without parameters, as it is at (s, H): what it does when it is called below -/
structure LamAt (P : Program) (w : World) (K : PySem.W.Frag) (mg : Str → Option Value) (base : Heap) (k : Nat) (fr : List Addr) (s : Shared) (H : Hp) (f : Addr) (tl : Hp → VK → XK → Prop) : Prop where
  fn : ∃ F, H f = some (LamO f F)
  ex : ∃ Fp : List Addr, (∀ b ∈ Fp, H b = none ∧ b ∉ fr ∧ ∃ o, s.heap.get? b = some o) ∧
    ∀ (A : Around) (outer : List Env) (s1 : Shared) (H1 : Hp) (Q : VK) (E : XK), Room k A → Env0 P w K mg base A outer s1 H1 → Evl.Ex H H1 → (∀ b ∈ Fp, H1 b = none ∧ ∀ o, s.heap.get? b = some o → s1.heap.get? b = some o) → tl H1 Q E →
      codeAny (model P w) A (.call (.ref f) ⟨[], []⟩) (CR (L2.CX P w) outer P w H1 s1 Q E) s1
section
variable {P : Program} {w : World} {K : PySem.W.Frag} {mg : Str → Option Value} {base : Heap} {k : Nat} {fr : List Addr} {s s1 : Shared} {H H1 : Hp} {f : Addr} {tl : Hp → VK → XK → Prop}
theorem LamAt.move (h : LamAt P w K mg base k fr s H f tl) (e : Evl.Ex H H1) (u : Un fr [] H H1 s.heap s1.heap) : LamAt P w K mg base k fr s1 H1 f tl := by
  obtain ⟨⟨F, hF⟩, Fp, h1, h2⟩ := h
  refine ⟨⟨F, e _ _ hF⟩, Fp, fun b hb => ?_, fun A outer s2 H2 Q E hr e0 ex kp ht => h2 A outer s2 H2 Q E hr e0 (e.trans ex) (fun b hb => ?_) ht⟩
  · obtain ⟨a1, a2, o, ho⟩ := h1 b hb
    exact ⟨u.free b o ho a1 (fun z => nomatch z), a2, o, u.keep b o ho a1 a2 (fun z => nomatch z)⟩
  · obtain ⟨a1, a2, o, ho⟩ := h1 b hb
    refine ⟨(kp b hb).1, fun o' ho' => (kp b hb).2 o' (u.keep b o' ho' a1 a2 (fun z => nomatch z))⟩
theorem LamAt.deeper (h : LamAt P w K mg base k fr s H f tl) {L : Addr} (hL : s.heap.get? L = none) : LamAt P w K mg base k (L :: fr) s H f tl := by
  obtain ⟨hF, Fp, h1, h2⟩ := h
  refine ⟨hF, Fp, fun b hb => ?_, h2⟩
  obtain ⟨a1, a2, o, ho⟩ := h1 b hb
  exact ⟨a1, fun z => (List.mem_cons.mp z).elim (fun e => by rw [← e, ho] at hL; cases hL) a2, o, ho⟩
end
section
variable {X : Cx} {pins : List (Addr × Obj)} {σ : L2.St} {H : Hp} {s : Shared}
/-- the lambda, handed down from its maker -/
theorem lamAt_of {f c' : Addr} {params : Arguments} {body : Expr} {scope : Scope} {k : Nat} {tb : XK → TE} (I : L2.Inv X pins σ H s) (hfn : ∀ x, X.fn x = true) (hst : X.stack = X.env :: X.outer) (hfrm : X.env.frame = some X.env.locals) (L : LamS X.env.scope scope)
    (hf : H f = some (LamO f ⟨X.env.qual ++ "<lambda>", params, body, scope, cloFrom X.env.cells scope.names [], c'⟩)) (hc : H c' = some (CodeO c' (X.env.qual ++ "<lambda>")))
    (hbind : ∀ (cl : List (Str × Addr)) (pm cv ctv : Value), bindArgs (PySem.W.kla_fn "<lambda>" (X.env.qual ++ "<lambda>") params body scope cl pm cv ctv) ⟨[], []⟩ = pure [])
    (hbody : ∀ (A : Around) (outer : List Env) (s : Shared) (H : Hp) (E : XK), Room k (A.deeper (lamEnv X scope s.heap.objs.size f c')) → PE (lamCx X A outer s H E scope f c') body (tb E)) :
    LamAt X.prog X.w X.K X.mg X.base (k + 1) (frs X.stack) s H f (fun H1 Q E => tb E σ H1 Q) := by
  refine ⟨⟨_, hf⟩, X.env.cells.filterMap (fun p => X.env.cells.lookup p.1), fun b hb => ?_, fun A outer s1 H1 Q E hr e0 ex kp ht => ?_⟩
  · obtain ⟨p, _, hp⟩ := List.mem_filterMap.mp hb
    obtain ⟨v, o, ho, hd⟩ := I.cell p.1 b hp
    refine ⟨I.freeC p.1 b hp, fun z => ?_, o, ho⟩
    rcases List.mem_cons.mp (I.stkSub b z) with e | e
    · exact I.cne p.1 b hp e
    · obtain ⟨_, o2, ho2, _⟩ := I.ok.funs.mem e
      exact absurd (Nat.lt_of_lt_of_le (Heap.lt_size ho2) (I.ok.cab p.1 b (hfn _) hp)) (Nat.lt_irrefl _)
  · obtain ⟨pm, ctv, of1⟩ := lamO_at e0.hok (ex _ _ hf)
    obtain ⟨⟨oc, vs, t, hoc, hdc, hvc⟩, _, _⟩ := e0.hok c' _ (ex _ _ hc)
    have lim : s1.heap.NoLimit := e0.mod.nolimit.keeps fun b o e => (e0.bs b o e).1
    refine PySem.W.kla_callFunE hr.depth of1 rfl L.co L.gen rfl ⟨c', oc, vs, t, rfl, hoc, hdc, hvc⟩ ?_
    rw [hbind]
    refine wpAny_pure (wpAny_newFunctionEnv (fun y hy => (L.own y hy).2) (fun y hy => absurd hy (by simp)) (fun h₁ hns hsb => ⟨lim.fresh _ hsb, ?_⟩) L.kind)
    show codeAny _ _ (.expr body (lamEnv X scope s1.heap.objs.size f c')) _ _
    have kp2 : ∀ b o, s1.heap.get? b = some o → h₁.get? b = some o := fun b o e => hsb.extBut b o (Nat.ne_of_lt (Heap.lt_size e)) (Heap.get?_push_of_some _ e)
    have J : L2.Inv (lamCx X A outer s1 H1 E scope f c') [] σ H1 { s1 with heap := h₁, toks := s1.toks + ([] : List (Str × Value)).length } :=
      lam_start3 I L e0 hr.hd (fun y c hy => kp c (List.mem_filterMap.mpr (by
        obtain ⟨c0, hc0⟩ : ∃ p ∈ X.env.cells, p.1 = y := ⟨_, PySem.mem_of_lookup hy, rfl⟩
        exact ⟨c0, hc0.1, by rw [hc0.2]; exact hy⟩))) hns kp2
    refine PySem.W.kla_codeExpr (wpAny_mono ((hbody _ _ s1 H1 E (hr.deeper _)).run [] _ _ H1 Q J ht) (fun v s' hq => ?_) fun e s' hq => hq)
    obtain ⟨w', H', J', rv, q⟩ := hq
    exact ⟨w', H', J'.os, J'.bare, J'.base, J'.hok, rv, q⟩
/-- x(), x a local that holds such a callable; told by what stood at the entry -/
def tActZ (P : Program) (w : World) (K : PySem.W.Frag) (mg : Str → Option Value) (base : Heap) (k i : Nat) (fr0 fr : List Addr) (s0 : Shared) (H0 : Hp) (E : L2.St → XK) : TE := fun σ H Q => ∃ (f : Addr) (tl : Hp → VK → XK → Prop), σ[i]? = some (some (.ref f)) ∧ (∀ s1 : Shared, Un fr0 [] H0 H s0.heap s1.heap → LamAt P w K mg base k fr s1 H f tl) ∧ tl H Q (E σ)
theorem pe_actZ {P : Program} {w : World} {K : PySem.W.Frag} {mg : Str → Option Value} {base : Heap} {fr0 fr : List Addr} {s0 : Shared} {H0 : Hp} {k i : Nat} {E : L2.St → XK} {a : Str} {p1 p2 : Pos} (hP : X.prog = P) (hw : X.w = w) (hK : X.K = K) (hmg : X.mg = mg) (hba : X.base = base) (hfs : X.fs = fr0) (hst : frs X.stack = fr) (hs0 : X.s_0 = s0) (hH0 : X.H_0 = H0) (hex : X.ex = [])
    (hx : ∀ σ, PassesAt (L2.CX X.prog X.w) X σ (E σ)) (hr : Room k X.A) (hN : X.N[i]? = some a) (hv : Vis X.env.scope a) (hd : (a == ("__debug__" : Str)) = false := by decide) (hcd : (a == ("__classdict__" : Str)) = false := by decide) :
    PE X (.Call (.Name a p1) [] [] p2) (tActZ P w K mg base k i fr0 fr s0 H0 E) := by
  subst hP hw hK hmg hba hfs hst hs0 hH0
  refine ⟨fun pins s σ H Q I h => ?_⟩
  obtain ⟨f, tl, hs, hl, ht⟩ := h
  refine wpAny_Call_Name_kw (thn ((pe_var (pos := p1) (i := i) hN hv hd hcd).run pins s σ H (fun v H1 => v = .ref f ∧ H1 = H) I ⟨.ref f, hs, rfl, rfl⟩) fun u s1 ⟨v, H1, I1, r1, q1⟩ => ?_)
  obtain ⟨ev, eH⟩ := q1
  subst ev
  rw [eH] at I1
  obtain rfl : u = Value.ref f := r1
  have ub := I1.base
  rw [hex] at ub
  obtain ⟨⟨F, hF⟩, Fp, h1, h2⟩ := hl s1 ub
  obtain ⟨pm, ctv, of1⟩ := lamO_at I1.hok hF
  refine PySem.W.callWith_F0 ⟨_, _, _, _, of1⟩ ?_
  refine wpAny_call (codeAny_mono (h2 X.A X.stack s1 H Q (E σ) hr I1.env0 (Evl.Ex.refl H) (fun b hb => ⟨(h1 b hb).1, fun o ho => ho⟩) ht) fun r s' hq => ?_)
  cases r with
  | error e => exact hx σ pins H s1 e s' I1 hq
  | ok fl =>
    cases fl with
    | ret u => exact I1.after hq
    | next => exact False.elim hq
    | brk => exact False.elim hq
    | cont => exact False.elim hq
end
end Kb
set_option Elab.async false
set_option linter.all false
set_option maxRecDepth 100000
set_option maxHeartbeats 4000000
namespace Kb
open PySem PySem.Spec PyProof.Rows L2 LamX
/-! ### promises that speak of the very state -/
abbrev SpZ := Shared → List Addr → List V → Hp → VK → Prop
structure FnZ (P : Program) (w : World) (K : PySem.W.Frag) (mg : Str → Option Value) (base : Heap) (k : Nat) (f : Addr) (fd : FuncData) (ps : List Str) (sp : SpZ) : Prop where
  len : ∀ s fr vs H Q, sp s fr vs H Q → vs.length = ps.length
  run : ∀ (A : Around) (outer : List Env) (s : Shared) (H : Hp) (args : Args) (us : List Value) (vs : List V) (Q : VK), Room k A → A.guards = some [] → Env0 P w K mg base A outer s H → BindsTo s fd args (ps.zip us) → Vals vs us → sp s (frs outer) vs H Q →
    codeAny (model P w) A (.call (.ref f) args) (CR C8.CX0 outer P w H s Q C8.E0) s
structure Gz (P : Program) (w : World) (K : PySem.W.Frag) (mg : Str → Option Value) (base : Heap) (k : Nat) (x : Str) (ps : List Str) (sp : SpZ) : Prop where
  ex : ∃ (f : Addr) (fd : FuncData), FnZ P w K mg base k f fd ps sp ∧ L2.Binds K fd ps [] ∧ PySem.W.keepIn K (.ref f) = true ∧ mg x = some (.ref f)
section
variable {P : Program} {w : World} {K : PySem.W.Frag} {mg : Str → Option Value} {base : Heap}
theorem Df.gz {x : Str} {st : Stmt} {N ps : List Str} {k : Nat} {sp : SpZ} (D : Df K mg x st ps) (S : FnScope N ps (defScope st)) (len : ∀ s fr vs H Q, sp s fr vs H Q → vs.length = ps.length)
    (hbody : ∀ (f : Addr) (cdv : Value) (A : Around) (outer : List Env) (s : Shared) (H : Hp) (vs : List V) (Q : VK), Room k (A.deeper (envOfC x (defScope st) s.heap.objs.size f cdv)) → A.guards = some [] → sp s (frs outer) vs H Q →
      ∃ t, PSs (cxOf C8.CX0 P w K mg base N x (defScope st) f cdv A outer s H C8.E0).nox (defBody st) t ∧ t { nx := fun _ H' => Q .non H', rt := Q } (L2.start N vs) H) : Gz P w K mg base (k + 1) x ps sp := by
  obtain ⟨f, fd, F, b, kp, g⟩ := D.ex
  obtain ⟨oc, od, kV, doc, pm, an, cdv, ct, osl, rfl, lk, hcd⟩ := F.ex
  refine ⟨f, _, ⟨len, fun A outer s H args us vs Q hr hgd e0 hb r hsp => ?_⟩, b, kp, g⟩
  refine run_ofS lk hcd S hr e0 hb r (len _ _ _ _ _ hsp) fun hr' => ?_
  obtain ⟨t, h, q⟩ := hbody f cdv A outer s H vs Q hr' hgd hsp
  exact ⟨t, h.nox, q⟩
end
section
variable {X : Cx} {j k : Nat} {ps : List Str} {sp : SpZ} {x : Str} {p pos : Pos} {e : Expr} {es : List Expr} {t : TA}
def tCallZ (X : Cx) (sp : SpZ) (t : TA) : TE := fun σ H Q => t σ H fun vs H1 => ∀ pins s1, L2.Inv X pins σ H1 s1 → sp s1 (frs X.stack) vs H1 Q
theorem pe_cz (G : Gz X.prog X.w X.K X.mg X.base j x ps sp) (hr : Room k X.A) (hgd : X.A.guards = some []) (hg : Gl X x) (ha : PA X (e :: es) t) (hj : j ≤ k := by first | decide | omega)
    (hdb : (x == ("__debug__" : Str)) = false := by decide) (he : starEach (e :: es) X.env = (false, eval e X.env) :: starEach es X.env := by rfl) (hpl : (backTo pos (starEach es X.env)).any (·.1) = false := by rfl) :
    PE X (.Call (.Name x p) (e :: es) [] pos) (tCallZ X sp t) := by
  obtain ⟨f, fd, F, b, kp, g⟩ := G.ex
  refine ⟨fun pins s σ H Q I h => ?_⟩
  refine wpAny_Call_Name_kw (ld_glob I hg g ?_ hdb)
  refine PySem.W.callWith_K (h₀ := X.base) I.ok.mod.kin kp (thn (ha.run pos pins s σ H _ I h) fun us s1 ⟨vs, H1, I1, r, q1⟩ => ⟨I1.kIn, ?_⟩) he hpl
  have q := q1 pins s1 I1
  have hl : us.length = ps.length := by rw [← r.length]; exact F.len _ _ _ _ _ q
  have bd := b s1 us I1.kIn (by rw [List.append_nil]; exact hl)
  rw [List.append_nil] at bd
  refine wpAny_call (codeAny_mono (F.run X.A X.stack s1 H1 ⟨us, []⟩ us vs Q (hr.mono hj) hgd I1.env0 bd r q) fun r' s' hq => ?_)
  cases r' with
  | error e => exact False.elim hq
  | ok fl =>
    cases fl with
    | ret u => exact I1.after hq
    | next => exact False.elim hq
    | brk => exact False.elim hq
    | cont => exact False.elim hq
end
end Kb
set_option Elab.async false
set_option linter.all false
set_option maxRecDepth 100000
set_option maxHeartbeats 4000000
namespace Kb
open PySem PySem.Spec PyProof.Rows L2 Evl
def lettersS : Str := "abcdefghijklmnopqrstuvwxyz"
def digitsS : Str := "0123456789"
def wordsL : List Str := ["nil", "new", "free", "if", "else", "while", "keep", "end", "call", "with", "needs", "gives", "routine"]
structure WT (K : PySem.W.Frag) (mg : Str → Option Value) : Prop where
  LETTERS : Gc mg "LETTERS" (.str lettersS)
  DIGITS : Gc mg "DIGITS" (.str digitsS)
  MOST_SIGNS : Gc mg "MOST_SIGNS" (.int 12)
  WORDS : Gc mg "WORDS" (.ref (He.ga K "WORDS"))
  words : ∀ H, SqT K H (He.ga K "WORDS") (wordsL.map V.str)
def digC (c : Nat) : Bool := decide (c ∈ digitsS.cps.toList)
def nameZ (z : Str) : Bool := (decide (1 ≤ (z.length : Int)) && decide ((z.length : Int) ≤ 12) && !inV (.str z) (wordsL.map V.str)) && (decide (((Txt.lstripChars z lettersS).length : Int) < z.length) && (Txt.lstripChars z lettersS).cps.toList.all digC)
def nameD : PyData → Bool
  | .str z => nameZ z
  | _ => false
section
variable {P : Program} {w : World} {K : PySem.W.Frag} {mg : Str → Option Value} {base : Heap}
theorem ok_is_plain_name (B : Bi mg) (W : WT K mg) (D : Df K mg "is_plain_name" s_is_plain_name ["value"]) : Gv P w K mg base CX0 1 "is_plain_name" ["value"] (spB K TxtOk nameD) := by
  have nd := sc_is_plain_name.nd
  refine D.gv sc_is_plain_name (fun vs H Q E h => ?_) (fun f cdv A outer s H vs Q E hr h => ?_)
  · obtain ⟨v, d, rfl, _⟩ := h
    rfl
  have hu64 := hu64_of hr
  refine ⟨_, (pss_cons (ps_if (PW.pt (pw_or (pt_not (pt_val (pe_callB (id := "isinstance") (r := rIsi K) call_isi rfl B.isi (by decide +kernel) (pa_cons (pv 0) (pa_cons (pe_bltn (v := .ty "str") rfl B.str (by decide +kernel) rfl) pa_nil))))) (pw_or (pt_not (pt_chain op_le op_le pe_int (pe_callB (r := rLen K) callA_len rfl B.len (by decide +kernel) (pa_cons (pv 0) pa_nil)) (pe_gc W.MOST_SIGNS rfl))) (pw_or1 (pt_cmpR (r := rInA K) (opA_in hu64) (pv 0) (pe_gc W.WORDS rfl) rfl))))) (pss_one (ps_ret pe_bl)) pss_nil)
    (pss_cons (ps_set (i := 1) nd rfl (.inl rfl) (pe_bmK (K := K) rfl PySem.F.plainAttrs_str PySem.F.slot_str_lstrip PySem.F.type_str_lstrip mt_lstripChars (pv 0) (pa_cons (pe_gc W.LETTERS rfl) pa_nil)))
    (pss_one (ps_ret (pe_and (pe_cmpR opA_lt (pe_callB (r := rLen K) callA_len rfl B.len (by decide +kernel) (pa_cons (pv 1) pa_nil)) (pe_callB (r := rLen K) callA_len rfl B.len (by decide +kernel) (pa_cons (pv 0) pa_nil)) (nomark _)) (pe_one (pe_callB (r := rAll K) (cr_all rfl) rfl B.all (by decide +kernel) (pa_cons (pe_lc (own := [("sign", 2)]) rfl nd (piA_seq (pv 1)) (blk_ok (by kernel_rfl)) (fun _ _ _ _ _ => (pg_name (i := 2) nd rfl (.inl rfl))) (fun _ _ _ _ _ => pts_nil) (fun _ _ _ _ _ => (pe_cmpR (r := rInA K) (opA_in hu64) (pv 2) (pe_gc W.DIGITS rfl) rfl))) pa_nil)))))))), ?_⟩
  obtain ⟨v, d, rfl, hd, hc, hQ⟩ := h
  cases hz : strD d with
  | none =>
    have hb : isB "str" d = false := by rw [isB_str, hz]; rfl
    have hm : nameD d = false := by cases d <;> first | rfl | cases hz
    rw [hm] at hQ
    refine q_when (b := true) (et_is (et_or (b := false) (et_not (et_B (ev_isiD (ev_var rfl) hd (kit_str d)))) (fun z => by rw [hb] at z; cases z)) (by rw [hb]; rfl)) (fun _ H1 e => s_ret ev_c fun H2 e2 => hQ H2 (e.trans e2)) (fun z => nomatch z)
  | some z =>
    obtain rfl : d = .str z := by cases d <;> first | (injection hz with hz; rw [hz]) | cases hz
    cases hd
    have hz4 : z.length ≤ 40000 := hc
    have hz2 : z.length ≤ 100000 := Nat.le_trans hz4 (by decide)
    have hlb : (Txt.lstripChars z lettersS).length ≤ z.length := len_lstripChars _ _
    refine q_when (b := (false || (!(decide (1 ≤ (z.length : Int)) && decide ((z.length : Int) ≤ 12)) || inV (.str z) (wordsL.map V.str))))
      (et_or (a := false) (et_not (et_B (ev_isiD (d := .str z) (ev_var rfl) (.str _) (kit_str _)))) (fun _ => et_or (et_not (et_test (ev_chain ev_c (ev_lenT (ev_var rfl) hz2) ev_c rv_I0 (fun _ => rv_I0)))) (fun _ => et_test (ev_op (ev_var rfl) ev_c (rv_inA (W.words _) rfl rfl)))))
      (fun b H1 e => s_ret ev_c fun H2 e2 => ?_) (fun b H1 e => ?_)
    · have key : ∀ A B W X : Bool, (false || (!(A && B) || W)) = true → ((A && B && !W) && X) = false := by decide
      have hm : nameD (.str z) = false := key _ _ _ _ b
      rw [hm] at hQ
      exact hQ H2 (e.trans e2)
    · have key : ∀ A B W X : Bool, (false || (!(A && B) || W)) = false → ((A && B && !W) && X) = X := by decide
      have hm : nameD (.str z) = _ := key _ _ _ _ b
      rw [hm] at hQ
      refine q_asg (ev_bm1 (ev_var rfl) ev_c (fun _ => rfl) fun H1 Q q => ⟨_, _, rfl, rfl, sz_of hz2, q⟩) fun H2 e2 => ?_
      refine s_ret (ev_andV (ev_op (ev_lenT (ev_var rfl) (Nat.le_trans hlb hz2)) (ev_lenT (ev_var rfl) hz2) rv_lt) (fun _ => ev_allN (el_is (el_lcS (fun _ => true) (fun i => .bl (digC ((Txt.lstripChars z lettersS).cps.getD i 0))) (ev_var rfl) (Nat.le_trans hlb hz4) (fun _ => rfl) (fun i c H1 e hc => fun H2 e2 Q q => q H2 (Ex.refl H2)) (fun i c H1 e hc _ => ev_is (ev_op (ev_var rfl) ev_c rv_inc) (by rw [getD_of hc]; rfl))) given_txt))) (fun H3 e3 => ?_)
      have q := hQ H3 ((e.trans e2).trans e3)
      rw [List.all_map]
      exact q
/-- the i-th sign as a text -/
def signAt (z : Str) (i : Nat) : V := .str ⟨#[z.cps.getD i 0]⟩
theorem sign_at {z : Str} {i : Nat} (h : i < z.length) : atI z.cps.toList (i : Int) = some (z.cps.getD i 0) := by
  have h2 : i < z.cps.size := h
  refine atI_nat (j := i) ?_
  rw [Array.getElem?_toList, Array.getElem?_eq_getElem h2]
  simp [Array.getD, h2]
def hiddenZ (z : Str) : Bool := (decide (2 ≤ (z.length : Int)) && decide ((z.length : Int) ≤ 7) && decide (signAt z 0 = .str ".")) && ((cutS z (some 1) none).cps.toList.all digC && (!decide (signAt z 1 = .str "0") || decide (V.int z.length = .int 2)))
def hiddenD : PyData → Bool
  | .str z => hiddenZ z
  | _ => false
def plainD : PyData → Bool
  | .str z => decide (V.str z = .str "nil") || nameZ z
  | _ => false
def termD (d : PyData) : Bool := plainD d || hiddenD d
/-- is it less, of two texts or two numbers -/
def ltV : V → V → Bool
  | .int i, .int j => decide (i < j)
  | .str i, .str j => decide (i.cps.toList < j.cps.toList)
  | _, _ => false
def ltKind : List V → Prop := fun xs => (∀ x ∈ xs, ∃ i, x = V.int i) ∨ (∀ x ∈ xs, ∃ i, x = V.str i)
theorem rv_ltV {H : Hp} {x y : V} (h : (∃ i j, x = V.int i ∧ y = V.int j) ∨ (∃ i j, x = V.str i ∧ y = V.str j)) : RV rLt x y H (.bl (ltV x y)) := by
  rcases h with ⟨i, j, rfl, rfl⟩ | ⟨i, j, rfl, rfl⟩
  · exact rv_lt
  · exact rv_ltS
def risV (xs : List V) : Bool := ((List.range ((xs.length : Int) - 1).toNat).map fun i => ltV (xs.getD i .non) (xs.getD (i + 1) .non)).all id
def spRising (K : PySem.W.Frag) : Sp := fun vs H Q _ => ∃ (p : Addr) (xs : List V), vs = [.ref p] ∧ SqL K H p xs ∧ xs.length ≤ 40000 ∧ ltKind xs ∧ ∀ H', Ex H H' → Q (.bl (risV xs)) H'
theorem getD_at {xs : List V} {i : Nat} (h : i < xs.length) : atI xs (i : Int) = some (xs.getD i .non) := by
  refine atI_nat (j := i) ?_
  rw [List.getElem?_eq_getElem h]
  simp [h]
theorem getD_mem {xs : List V} {i : Nat} (h : i < xs.length) : xs.getD i .non ∈ xs := by
  simp [h]
theorem ok_rising (B : Bi mg) (D : Df K mg "rising" s_rising ["value"]) : Gv P w K mg base CX0 1 "rising" ["value"] (spRising K) := by
  have nd := sc_rising.nd
  refine D.gv sc_rising (fun vs H Q E h => ?_) (fun f cdv A outer s H vs Q E hr h => ⟨_, (pss_one (ps_ret (pe_callB (r := rAll K) (cr_all rfl) rfl B.all (by decide +kernel) (pa_cons (pe_lc (own := [("at", 1)]) rfl nd (pi_range1 rfl B.range (pa_cons (pe_op op_sub (pe_callB (r := rLen K) callA_len rfl B.len (by decide +kernel) (pa_cons (pv 0) pa_nil)) pe_int) pa_nil)) (blk_ok (by kernel_rfl)) (fun _ _ _ _ _ => (pg_name (i := 1) nd rfl (.inl rfl))) (fun _ _ _ _ _ => pts_nil) (fun _ _ _ _ _ => (pe_cmpR opA_lt (pe_ix (r := rIx K) ix_seq (pv 0) (pv 1) (fun _ _ => rfl)) (pe_ix (r := rIx K) ix_seq (pv 0) (pe_op (r := rAdd K) opA_add (pv 1) pe_int) (fun _ _ => rfl)) (nomark _)))) pa_nil)))), ?_⟩)
  · obtain ⟨v, d, rfl, _⟩ := h
    rfl
  obtain ⟨p, xs, rfl, hx, hl, hk, hQ⟩ := h
  refine s_ret (ev_allN (el_is (el_lcR (n := (xs.length : Int) - 1) (fun _ => true) (fun i => .bl (ltV (xs.getD i .non) (xs.getD (i + 1) .non))) (ea_cons (ev_op (ev_lenL (ev_var rfl) hx) ev_c rv_I0) ea_nil) (by omega) (fun _ => rfl) (fun i H1 e hi H2 e2 Q q => q H2 (Ex.refl H2)) (fun i H1 e hi _ => ?_) (by omega)) (given_bl _))) (fun H1 e1 => hQ H1 e1)
  have e2 : ((i : Int) + 1) = ((i + 1 : Nat) : Int) := by omega
  have h1 : i < xs.length := by omega
  have h2 : i + 1 < xs.length := by omega
  have m1 := getD_mem h1
  have m2 := getD_mem h2
  refine ev_op (ev_op (ev_var rfl) (ev_var rfl) (rv_iL (ex_l e hx) (getD_at h1))) (ev_op (ev_var rfl) (ev_op (ev_var rfl) ev_c rv_add) (rv_iL (ex_l e hx) (by rw [e2]; exact getD_at h2))) (rv_ltV ?_)
  rcases hk with hk | hk
  · obtain ⟨a, ha⟩ := hk _ m1
    obtain ⟨b, hb⟩ := hk _ m2
    exact .inl ⟨a, b, ha, hb⟩
  · obtain ⟨a, ha⟩ := hk _ m1
    obtain ⟨b, hb⟩ := hk _ m2
    exact .inr ⟨a, b, ha, hb⟩
end
end Kb
set_option Elab.async false
set_option linter.all false
set_option maxRecDepth 100000
set_option maxHeartbeats 4000000
namespace Kb
open PySem PySem.Spec PyProof.Rows L2 Evl
structure WS (K : PySem.W.Frag) (mg : Str → Option Value) : Prop extends WT K mg where
  MOST_VALUE : Gc mg "MOST_VALUE" (.int 1000000)
  MOST_NAMES : Gc mg "MOST_NAMES" (.int 60)
  MOST_CELLS : Gc mg "MOST_CELLS" (.int 40)
def noC (_ : PyData) : Prop := True
def numD : PyData → Bool
  | .int i => decide (i ≥ 0)
  | _ => false
def valueD : PyData → Bool
  | .int i => decide (i ≥ 0) && decide (i ≤ 1000000)
  | _ => false
def addrD : PyData → Bool
  | .int i => decide (1 ≤ i) && decide (i ≤ 1000000)
  | _ => false
/-- the value of a number or text -/
def dV : PyData → V
  | .int i => .int i
  | .str s => .str s
  | .bool b => .bl b
  | _ => .non
def storeD : PyData → Bool
  | .tuple ds => !decide ((ds.length : Int) > 60) && (ds.all pairD && (ds.all (fun r => nameD (pr1 r) && valueD (pr2 r)) && risV (ds.map fun r => dV (pr1 r))))
  | _ => false
def heapD : PyData → Bool
  | .tuple ds => !decide ((ds.length : Int) > 40) && (ds.all pairD && (ds.all (fun r => addrD (pr1 r) && valueD (pr2 r)) && risV (ds.map fun r => dV (pr1 r))))
  | _ => false
theorem storeD_t (ds : List PyData) : storeD (.tuple ds) = (!decide ((ds.length : Int) > 60) && (ds.all pairD && (ds.all (fun r => nameD (pr1 r) && valueD (pr2 r)) && risV (ds.map fun r => dV (pr1 r))))) := rfl
theorem heapD_t (ds : List PyData) : heapD (.tuple ds) = (!decide ((ds.length : Int) > 40) && (ds.all pairD && (ds.all (fun r => addrD (pr1 r) && valueD (pr2 r)) && risV (ds.map fun r => dV (pr1 r))))) := rfl
def RowsTxt (d : PyData) : Prop := ∀ ds, d = .tuple ds → ∀ r ∈ ds, TxtOk (pr1 r)
section
variable {P : Program} {w : World} {K : PySem.W.Frag} {mg : Str → Option Value} {base : Heap} {H : Hp} {v : V} {d : PyData} {σ : L2.St} {te : TE}
theorem ok_is_whole (B : Bi mg) (D : Df K mg "is_whole" s_is_whole ["value"]) : Gv P w K mg base CX0 1 "is_whole" ["value"] (spB K noC wholeD) := by
  refine D.gv sc_is_whole (fun vs H Q E h => ?_) (fun f cdv A outer s H vs Q E hr h => ⟨_, (pss_one (ps_ret (pe_and (pe_callB (id := "isinstance") (r := rIsi K) call_isi rfl B.isi (by decide +kernel) (pa_cons (pv 0) (pa_cons (pe_bltn (v := .ty "int") rfl B.int (by decide +kernel) rfl) pa_nil))) (pe_one (pe_not (pe_callB (id := "isinstance") (r := rIsi K) call_isi rfl B.isi (by decide +kernel) (pa_cons (pv 0) (pa_cons (pe_bltn (v := .ty "bool") rfl B.bool (by decide +kernel) rfl) pa_nil)))))))), ?_⟩)
  · obtain ⟨v, d, rfl, _⟩ := h
    rfl
  obtain ⟨v, d, rfl, hd, hc, hQ⟩ := h
  exact s_ret (ev_is (ev_andV (ev_isiD (ev_var rfl) hd (kit_int d)) (fun _ => ev_notV (ev_isiD (ev_var rfl) hd (kit_bool d)))) (by rw [isB_whole])) (fun H1 e1 => hQ H1 e1)
theorem ok_is_number (B : Bi mg) (g_is_whole : Gv P w K mg base CX0 1 "is_whole" ["value"] (spB K noC wholeD)) (D : Df K mg "is_number" s_is_number ["value"]) : Gv P w K mg base CX0 2 "is_number" ["value"] (spB K noC numD) := by
  refine D.gv sc_is_number (fun vs H Q E h => ?_) (fun f cdv A outer s H vs Q E hr h => ⟨_, (pss_one (ps_ret (pe_and (pe_cg g_is_whole hr rfl pass0 (pa_cons (pv 0) pa_nil)) (pe_one (pe_cmpR op_ge (pv 0) pe_int (nomark _)))))), ?_⟩)
  · obtain ⟨v, d, rfl, _⟩ := h
    rfl
  obtain ⟨v, d, rfl, hd, hc, hQ⟩ := h
  refine s_ret (v := .bl (numD d)) ?_ (fun H1 e1 => hQ H1 e1)
  refine ev_is (ev_andV (b := numD d) (ev_call (ea_cons (ev_var rfl) ea_nil) (spB_v hd trivial)) (fun e => ?_)) ?_
  · cases d <;> first | cases e | skip
    cases hd
    exact ev_op (ev_var rfl) ev_c rv_I0
  · cases d <;> rfl
theorem ok_is_value (B : Bi mg) (W : WS K mg) (g_is_number : Gv P w K mg base CX0 2 "is_number" ["value"] (spB K noC numD)) (D : Df K mg "is_value" s_is_value ["value"]) : Gv P w K mg base CX0 3 "is_value" ["value"] (spB K noC valueD) := by
  refine D.gv sc_is_value (fun vs H Q E h => ?_) (fun f cdv A outer s H vs Q E hr h => ⟨_, (pss_one (ps_ret (pe_and (pe_cg g_is_number hr rfl pass0 (pa_cons (pv 0) pa_nil)) (pe_one (pe_cmpR op_le (pv 0) (pe_gc W.MOST_VALUE rfl) (nomark _)))))), ?_⟩)
  · obtain ⟨v, d, rfl, _⟩ := h
    rfl
  obtain ⟨v, d, rfl, hd, hc, hQ⟩ := h
  refine s_ret (v := .bl (valueD d)) ?_ (fun H1 e1 => hQ H1 e1)
  cases d with
  | int i =>
    cases hd
    exact ev_andV (ev_call (ea_cons (ev_var rfl) ea_nil) (spB_v (.int i) trivial)) (fun e => ev_op (ev_var rfl) ev_c rv_I0)
  | _ => exact ev_is (ev_andV (b := false) (ev_call (ea_cons (ev_var rfl) ea_nil) (spB_v hd trivial)) (fun e => nomatch e)) rfl
theorem ok_is_address (B : Bi mg) (W : WS K mg) (g_is_whole : Gv P w K mg base CX0 1 "is_whole" ["value"] (spB K noC wholeD)) (D : Df K mg "is_address" s_is_address ["value"]) : Gv P w K mg base CX0 2 "is_address" ["value"] (spB K noC addrD) := by
  refine D.gv sc_is_address (fun vs H Q E h => ?_) (fun f cdv A outer s H vs Q E hr h => ⟨_, (pss_one (ps_ret (pe_and (pe_cg g_is_whole hr rfl pass0 (pa_cons (pv 0) pa_nil)) (pe_one (pe_chain op_le op_le pe_int (pv 0) (pe_gc W.MOST_VALUE rfl)))))), ?_⟩)
  · obtain ⟨v, d, rfl, _⟩ := h
    rfl
  obtain ⟨v, d, rfl, hd, hc, hQ⟩ := h
  refine s_ret (v := .bl (addrD d)) ?_ (fun H1 e1 => hQ H1 e1)
  cases d with
  | int i =>
    cases hd
    exact ev_andV (a := true) (ev_call (ea_cons (ev_var rfl) ea_nil) (spB_v (.int i) trivial)) (fun e => ev_chain ev_c (ev_var rfl) ev_c rv_I0 (fun _ => rv_I0))
  | _ => exact ev_is (ev_andV (b := false) (ev_call (ea_cons (ev_var rfl) ea_nil) (spB_v hd trivial)) (fun e => nomatch e)) rfl
/-- is it a pair: the words of a comprehension -/
theorem ev_pair {i : Nat} (hv : σ[i]? = some (some v)) (hd : Dp K H v d) : Ev (tAndV (tCB (rIsi K) (tCons (tVar i) (tCons (tC (.ty "tuple")) tNil))) (tOp (rEqA K) (tCB (rLen K) (tCons (tVar i) tNil)) (tC (.int 2)))) σ H (.bl (pairD d)) := by
  refine ev_is (ev_andV (b := pairD d) (ev_isiD (ev_var hv) hd (kit_tuple d)) (fun e => ?_)) ?_
  · rw [isB_tup] at e
    obtain ⟨ds, hz⟩ := Option.isSome_iff_exists.mp e
    obtain rfl := tupD_some hz
    cases hd with
    | @tup a xs _ hx ha =>
      refine ev_is (ev_op (ev_lenU (ev_var hv) hx) ev_c (rv_eqs rfl)) ?_
      have hl := dpAll_len ha
      rw [hl]
      match ds with
      | [] => rfl
      | [_] => rfl
      | [_, _] => rfl
      | _ :: _ :: _ :: _ =>
        simp [pairD]
        omega
  · rw [isB_tup]
    cases d <;> rfl
theorem dp_dV {d : PyData} (h : Dp K H v d) (e : (wholeD d || (strD d).isSome) = true) : v = dV d := by
  cases h <;> first | rfl | cases e
theorem ris_rows {us : List (V × V)} {ds : List PyData} {xs : List V} (q : Prt K H xs us ds) (h : ∀ r ∈ ds, (wholeD (pr1 r) || (strD (pr1 r)).isSome) = true) : us.map Prod.fst = ds.map fun r => dV (pr1 r) := by
  apply List.ext_getElem?
  intro i
  rw [List.getElem?_map, List.getElem?_map]
  cases hu : us[i]? with
  | none =>
    have : ds[i]? = none := by
      rw [List.getElem?_eq_none_iff] at hu ⊢
      rw [← prt_len q]
      exact hu
    rw [this]
    rfl
  | some u =>
    obtain ⟨d, h0, h1, _⟩ := prt_get q hu
    rw [h0]
    show some u.1 = some (dV (pr1 d))
    rw [dp_dV h1 (h d (List.mem_of_getElem? h0))]
theorem nameD_str {d : PyData} (h : nameD d = true) : ∃ z, d = .str z := by cases d <;> first | exact ⟨_, rfl⟩ | cases h
theorem addrD_int {d : PyData} (h : addrD d = true) : ∃ z, d = .int z := by cases d <;> first | exact ⟨_, rfl⟩ | cases h
theorem valueD_int {d : PyData} (h : valueD d = true) : ∃ z, d = .int z := by cases d <;> first | exact ⟨_, rfl⟩ | cases h
theorem ok_is_store (B : Bi mg) (W : WS K mg) (g_is_plain_name : Gv P w K mg base CX0 1 "is_plain_name" ["value"] (spB K TxtOk nameD)) (g_is_value : Gv P w K mg base CX0 3 "is_value" ["value"] (spB K noC valueD)) (g_rising : Gv P w K mg base CX0 1 "rising" ["value"] (spRising K))
    (D : Df K mg "is_store" s_is_store ["value"]) : Gv P w K mg base CX0 4 "is_store" ["value"] (spB K RowsTxt storeD) := by
  have nd := sc_is_store.nd
  refine D.gv sc_is_store (fun vs H Q E h => ?_) (fun f cdv A outer s H vs Q E hr h => ?_)
  · obtain ⟨v, d, rfl, _⟩ := h
    rfl
  have hu64 := hu64_of hr
  refine ⟨_, (pss_cons (ps_if (PW.pt (pw_or (pt_not (pt_val (pe_callB (id := "isinstance") (r := rIsi K) call_isi rfl B.isi (by decide +kernel) (pa_cons (pv 0) (pa_cons (pe_bltn (v := .ty "tuple") rfl B.tuple (by decide +kernel) rfl) pa_nil))))) (pw_or1 (pt_cmpR op_gt (pe_callB (r := rLen K) callA_len rfl B.len (by decide +kernel) (pa_cons (pv 0) pa_nil)) (pe_gc W.MOST_NAMES rfl) (nomark _))))) (pss_one (ps_ret pe_bl)) pss_nil)
    (pss_cons (ps_if (pt_not (pt_val (pe_callB (r := rAll K) (cr_all rfl) rfl B.all (by decide +kernel) (pa_cons (pe_lc (own := [("row", 1)]) rfl nd (piA_seq (pv 0)) (blk_ok (by kernel_rfl)) (fun _ _ _ _ _ => (pg_name (i := 1) nd rfl (.inl rfl))) (fun _ _ _ _ _ => pts_nil) (fun _ _ _ _ _ => (pe_and (pe_callB (id := "isinstance") (r := rIsi K) call_isi rfl B.isi (by decide +kernel) (pa_cons (pv 1) (pa_cons (pe_bltn (v := .ty "tuple") rfl B.tuple (by decide +kernel) rfl) pa_nil))) (pe_one (pe_cmpR (r := rEqA K) (opA_eq hu64) (pe_callB (r := rLen K) callA_len rfl B.len (by decide +kernel) (pa_cons (pv 1) pa_nil)) pe_int (nomark _)))))) pa_nil)))) (pss_one (ps_ret pe_bl)) pss_nil)
    (pss_cons (ps_if (pt_not (pt_val (pe_callB (r := rAll K) (cr_all rfl) rfl B.all (by decide +kernel) (pa_cons (pe_lc (own := [("name", 2), ("number", 3)]) rfl nd (piA_seq (pv 0)) (blk_ok (by kernel_rfl)) (fun _ _ _ _ _ => (pgK_tup (K := K) (n := 2) rfl rfl (pgs_cons (pg_name (i := 2) nd rfl (.inl rfl)) (pgs_cons (pg_name (i := 3) nd rfl (.inl rfl)) pgs_nil)))) (fun _ _ _ _ _ => pts_nil) (fun _ _ _ _ _ => (by exact (pe_and (pe_cg g_is_plain_name hr rfl pass0 (pa_cons (pv 2) pa_nil)) (pe_one (pe_cg g_is_value hr rfl pass0 (pa_cons (pv 3) pa_nil))))))) pa_nil)))) (pss_one (ps_ret pe_bl)) pss_nil)
    (pss_one (ps_ret (pe_cg g_rising hr rfl pass0 (pa_cons (pe_lc (own := [("name", 2), ("number", 3)]) rfl nd (piA_seq (pv 0)) (blk_ok (by kernel_rfl)) (fun _ _ _ _ _ => (pgK_tup (K := K) (n := 2) rfl rfl (pgs_cons (pg_name (i := 2) nd rfl (.inl rfl)) (pgs_cons (pg_name (i := 3) nd rfl (.inl rfl)) pgs_nil)))) (fun _ _ _ _ _ => pts_nil) (fun _ _ _ _ _ => (pv 2))) pa_nil))))))), ?_⟩
  obtain ⟨v, d, rfl, hd, hc, hQ⟩ := h
  cases hz : tupD d with
  | none =>
    have hb : isB "tuple" d = false := by rw [isB_tup, hz]; rfl
    have hm : storeD d = false := by cases d <;> first | rfl | cases hz
    rw [hm] at hQ
    refine q_when (b := true) (et_is (et_or (b := false) (et_not (et_B (ev_isiD (ev_var rfl) hd (kit_tuple d)))) (fun z => by rw [hb] at z; cases z)) (by rw [hb]; rfl)) (fun _ H1 e => s_ret ev_c fun H2 e2 => hQ H2 (e.trans e2)) (fun z => nomatch z)
  | some ds =>
    obtain rfl := tupD_some hz
    cases id hd with
    | @tup a xs _ hx ha =>
    have hl := dpAll_len ha
    refine q_when (b := (false || decide ((ds.length : Int) > 60))) (et_or (a := false) (et_is (et_not (et_B (ev_isiD (ev_var rfl) hd (kit_tuple _)))) (by rw [isB_tup]; rfl)) (fun _ => et_test (ev_is (ev_op (ev_lenU (ev_var rfl) hx) ev_c rv_I0) (by rw [hl])))) (fun b H1 e => s_ret ev_c fun H2 e2 => ?_) (fun b H1 e => ?_)
    · have hm : storeD (.tuple ds) = false := by
        rw [storeD_t, show decide ((ds.length : Int) > 60) = true by simpa using b]
        rfl
      rw [hm] at hQ
      exact hQ H2 (e.trans e2)
    have b1 : decide ((ds.length : Int) > 60) = false := by simpa using b
    have hz : xs.length ≤ 40000 := by
      have := of_decide_eq_false b1
      omega
    refine q_when (b := !(ds.map pairD).all id) (et_not (et_B (ev_allN (el_tests pairD (ev_var rfl) (ex_t e hx) (DpAll.ext e ha) hz (fun _ => rfl) (fun _ _ => et_true fun _ _ _ q => q) (fun i v d H1 e _ hd => ev_pair rfl hd))))) (fun b H2 e2 => s_ret ev_c fun H3 e3 => ?_) (fun b H2 e2 => ?_)
    · have hm : storeD (.tuple ds) = false := by
        rw [List.all_map] at b
        rw [storeD_t, show ds.all pairD = false by simpa using b]
        simp
      rw [hm] at hQ
      exact hQ H3 ((e.trans e2).trans e3)
    rw [List.all_map] at b
    have b2 : ds.all pairD = true := by
      have z : (!ds.all pairD) = false := b
      simpa using z
    obtain ⟨us, hp⟩ := prt_of (DpAll.ext (e.trans e2) ha) b2
    have hx2 := ex_t (e.trans e2) hx
    refine q_when (b := !(ds.map fun r => nameD (pr1 r) && valueD (pr2 r)).all id) (et_not (et_B (ev_allN (el_prtT (fun r => nameD (pr1 r) && valueD (pr2 r)) (ev_var rfl) hx2 hp hz (fun _ _ => rfl) (fun _ _ => et_true fun _ _ _ q => q) (fun i u d H1 e hd h1 h2 =>
      ev_andV (ev_call (ea_cons (ev_var rfl) ea_nil) (spB_v h1 (hc ds rfl d (List.mem_of_getElem? hd)))) (fun _ => ev_call (ea_cons (ev_var rfl) ea_nil) (spB_v h2 trivial))))))) (fun b H3 e3 => s_ret ev_c fun H4 e4 => ?_) (fun b H3 e3 => ?_)
    · have hm : storeD (.tuple ds) = false := by
        rw [List.all_map] at b
        rw [storeD_t, show (ds.all fun r => nameD (pr1 r) && valueD (pr2 r)) = false by simpa using b]
        simp
      rw [hm] at hQ
      exact hQ H4 (((e.trans e2).trans e3).trans e4)
    rw [List.all_map] at b
    have b3 : (ds.all fun r => nameD (pr1 r) && valueD (pr2 r)) = true := by
      have z : (!ds.all fun r => nameD (pr1 r) && valueD (pr2 r)) = false := b
      simpa using z
    have hs : ∀ r ∈ ds, ∃ z, pr1 r = .str z := fun r hr => nameD_str (by have := List.all_eq_true.mp b3 r hr; simp only [Bool.and_eq_true] at this; exact this.1)
    have hr1 := ris_rows hp (fun r hr => by obtain ⟨z, hz⟩ := hs r hr; rw [hz]; rfl)
    have hm : storeD (.tuple ds) = risV (ds.map fun r => dV (pr1 r)) := by
      rw [storeD_t, b1, b2, b3]
      rfl
    rw [hm] at hQ
    refine s_ret ?_ (fun H4 e4 => hQ H4 (((e.trans e2).trans e3).trans e4))
    refine ev_callL (el_prt1 (ev_var rfl) (ex_t e3 hx2) (hp.ext e3) hz (fun _ _ => rfl) (fun _ _ => et_true fun _ _ _ q => q) (fun u H1 => ev_var rfl)) (fun p H4 hp4 H5 e5 Q q E => ?_)
    refine ⟨p, _, rfl, ex_l e5 (sq_of hp4), ?_, ?_, fun H6 e6 => ?_⟩
    · rw [List.length_map, prt_len hp, ← hl]
      exact hz
    · rw [hr1]
      refine .inr fun x hx => ?_
      obtain ⟨r, hr, rfl⟩ := List.mem_map.mp hx
      obtain ⟨z, hz⟩ := hs r hr
      exact ⟨z, by rw [hz]; rfl⟩
    · rw [hr1]
      exact q H6 e6
theorem ok_is_heap (B : Bi mg) (W : WS K mg) (g_is_address : Gv P w K mg base CX0 2 "is_address" ["value"] (spB K noC addrD)) (g_is_value : Gv P w K mg base CX0 3 "is_value" ["value"] (spB K noC valueD)) (g_rising : Gv P w K mg base CX0 1 "rising" ["value"] (spRising K))
    (D : Df K mg "is_heap" s_is_heap ["value"]) : Gv P w K mg base CX0 4 "is_heap" ["value"] (spB K noC heapD) := by
  have nd := sc_is_heap.nd
  refine D.gv sc_is_heap (fun vs H Q E h => ?_) (fun f cdv A outer s H vs Q E hr h => ?_)
  · obtain ⟨v, d, rfl, _⟩ := h
    rfl
  have hu64 := hu64_of hr
  refine ⟨_, (pss_cons (ps_if (PW.pt (pw_or (pt_not (pt_val (pe_callB (id := "isinstance") (r := rIsi K) call_isi rfl B.isi (by decide +kernel) (pa_cons (pv 0) (pa_cons (pe_bltn (v := .ty "tuple") rfl B.tuple (by decide +kernel) rfl) pa_nil))))) (pw_or1 (pt_cmpR op_gt (pe_callB (r := rLen K) callA_len rfl B.len (by decide +kernel) (pa_cons (pv 0) pa_nil)) (pe_gc W.MOST_CELLS rfl) (nomark _))))) (pss_one (ps_ret pe_bl)) pss_nil)
    (pss_cons (ps_if (pt_not (pt_val (pe_callB (r := rAll K) (cr_all rfl) rfl B.all (by decide +kernel) (pa_cons (pe_lc (own := [("row", 1)]) rfl nd (piA_seq (pv 0)) (blk_ok (by kernel_rfl)) (fun _ _ _ _ _ => (pg_name (i := 1) nd rfl (.inl rfl))) (fun _ _ _ _ _ => pts_nil) (fun _ _ _ _ _ => (pe_and (pe_callB (id := "isinstance") (r := rIsi K) call_isi rfl B.isi (by decide +kernel) (pa_cons (pv 1) (pa_cons (pe_bltn (v := .ty "tuple") rfl B.tuple (by decide +kernel) rfl) pa_nil))) (pe_one (pe_cmpR (r := rEqA K) (opA_eq hu64) (pe_callB (r := rLen K) callA_len rfl B.len (by decide +kernel) (pa_cons (pv 1) pa_nil)) pe_int (nomark _)))))) pa_nil)))) (pss_one (ps_ret pe_bl)) pss_nil)
    (pss_cons (ps_if (pt_not (pt_val (pe_callB (r := rAll K) (cr_all rfl) rfl B.all (by decide +kernel) (pa_cons (pe_lc (own := [("address", 2), ("number", 3)]) rfl nd (piA_seq (pv 0)) (blk_ok (by kernel_rfl)) (fun _ _ _ _ _ => (pgK_tup (K := K) (n := 2) rfl rfl (pgs_cons (pg_name (i := 2) nd rfl (.inl rfl)) (pgs_cons (pg_name (i := 3) nd rfl (.inl rfl)) pgs_nil)))) (fun _ _ _ _ _ => pts_nil) (fun _ _ _ _ _ => (by exact (pe_and (pe_cg g_is_address hr rfl pass0 (pa_cons (pv 2) pa_nil)) (pe_one (pe_cg g_is_value hr rfl pass0 (pa_cons (pv 3) pa_nil))))))) pa_nil)))) (pss_one (ps_ret pe_bl)) pss_nil)
    (pss_one (ps_ret (pe_cg g_rising hr rfl pass0 (pa_cons (pe_lc (own := [("address", 2), ("number", 3)]) rfl nd (piA_seq (pv 0)) (blk_ok (by kernel_rfl)) (fun _ _ _ _ _ => (pgK_tup (K := K) (n := 2) rfl rfl (pgs_cons (pg_name (i := 2) nd rfl (.inl rfl)) (pgs_cons (pg_name (i := 3) nd rfl (.inl rfl)) pgs_nil)))) (fun _ _ _ _ _ => pts_nil) (fun _ _ _ _ _ => (pv 2))) pa_nil))))))), ?_⟩
  obtain ⟨v, d, rfl, hd, hc, hQ⟩ := h
  cases hz : tupD d with
  | none =>
    have hb : isB "tuple" d = false := by rw [isB_tup, hz]; rfl
    have hm : heapD d = false := by cases d <;> first | rfl | cases hz
    rw [hm] at hQ
    refine q_when (b := true) (et_is (et_or (b := false) (et_not (et_B (ev_isiD (ev_var rfl) hd (kit_tuple d)))) (fun z => by rw [hb] at z; cases z)) (by rw [hb]; rfl)) (fun _ H1 e => s_ret ev_c fun H2 e2 => hQ H2 (e.trans e2)) (fun z => nomatch z)
  | some ds =>
    obtain rfl := tupD_some hz
    cases id hd with
    | @tup a xs _ hx ha =>
    have hl := dpAll_len ha
    refine q_when (b := (false || decide ((ds.length : Int) > 40))) (et_or (a := false) (et_is (et_not (et_B (ev_isiD (ev_var rfl) hd (kit_tuple _)))) (by rw [isB_tup]; rfl)) (fun _ => et_test (ev_is (ev_op (ev_lenU (ev_var rfl) hx) ev_c rv_I0) (by rw [hl])))) (fun b H1 e => s_ret ev_c fun H2 e2 => ?_) (fun b H1 e => ?_)
    · have hm : heapD (.tuple ds) = false := by
        rw [heapD_t, show decide ((ds.length : Int) > 40) = true by simpa using b]
        rfl
      rw [hm] at hQ
      exact hQ H2 (e.trans e2)
    have b1 : decide ((ds.length : Int) > 40) = false := by simpa using b
    have hz : xs.length ≤ 40000 := by
      have := of_decide_eq_false b1
      omega
    refine q_when (b := !(ds.map pairD).all id) (et_not (et_B (ev_allN (el_tests pairD (ev_var rfl) (ex_t e hx) (DpAll.ext e ha) hz (fun _ => rfl) (fun _ _ => et_true fun _ _ _ q => q) (fun i v d H1 e _ hd => ev_pair rfl hd))))) (fun b H2 e2 => s_ret ev_c fun H3 e3 => ?_) (fun b H2 e2 => ?_)
    · have hm : heapD (.tuple ds) = false := by
        rw [List.all_map] at b
        rw [heapD_t, show ds.all pairD = false by simpa using b]
        simp
      rw [hm] at hQ
      exact hQ H3 ((e.trans e2).trans e3)
    rw [List.all_map] at b
    have b2 : ds.all pairD = true := by
      have z : (!ds.all pairD) = false := b
      simpa using z
    obtain ⟨us, hp⟩ := prt_of (DpAll.ext (e.trans e2) ha) b2
    have hx2 := ex_t (e.trans e2) hx
    refine q_when (b := !(ds.map fun r => addrD (pr1 r) && valueD (pr2 r)).all id) (et_not (et_B (ev_allN (el_prtT (fun r => addrD (pr1 r) && valueD (pr2 r)) (ev_var rfl) hx2 hp hz (fun _ _ => rfl) (fun _ _ => et_true fun _ _ _ q => q) (fun i u d H1 e hd h1 h2 =>
      ev_andV (ev_call (ea_cons (ev_var rfl) ea_nil) (spB_v h1 trivial)) (fun _ => ev_call (ea_cons (ev_var rfl) ea_nil) (spB_v h2 trivial))))))) (fun b H3 e3 => s_ret ev_c fun H4 e4 => ?_) (fun b H3 e3 => ?_)
    · have hm : heapD (.tuple ds) = false := by
        rw [List.all_map] at b
        rw [heapD_t, show (ds.all fun r => addrD (pr1 r) && valueD (pr2 r)) = false by simpa using b]
        simp
      rw [hm] at hQ
      exact hQ H4 (((e.trans e2).trans e3).trans e4)
    rw [List.all_map] at b
    have b3 : (ds.all fun r => addrD (pr1 r) && valueD (pr2 r)) = true := by
      have z : (!ds.all fun r => addrD (pr1 r) && valueD (pr2 r)) = false := b
      simpa using z
    have hs : ∀ r ∈ ds, ∃ z, pr1 r = .int z := fun r hr => addrD_int (by have := List.all_eq_true.mp b3 r hr; simp only [Bool.and_eq_true] at this; exact this.1)
    have hr1 := ris_rows hp (fun r hr => by obtain ⟨z, hz⟩ := hs r hr; rw [hz]; rfl)
    have hm : heapD (.tuple ds) = risV (ds.map fun r => dV (pr1 r)) := by
      rw [heapD_t, b1, b2, b3]
      rfl
    rw [hm] at hQ
    refine s_ret ?_ (fun H4 e4 => hQ H4 (((e.trans e2).trans e3).trans e4))
    refine ev_callL (el_prt1 (ev_var rfl) (ex_t e3 hx2) (hp.ext e3) hz (fun _ _ => rfl) (fun _ _ => et_true fun _ _ _ q => q) (fun u H1 => ev_var rfl)) (fun p H4 hp4 H5 e5 Q q E => ?_)
    refine ⟨p, _, rfl, ex_l e5 (sq_of hp4), ?_, ?_, fun H6 e6 => ?_⟩
    · rw [List.length_map, prt_len hp, ← hl]
      exact hz
    · rw [hr1]
      refine .inl fun x hx => ?_
      obtain ⟨r, hr, rfl⟩ := List.mem_map.mp hx
      obtain ⟨z, hz⟩ := hs r hr
      exact ⟨z, by rw [hz]; rfl⟩
    · rw [hr1]
      exact q H6 e6
end
end Kb
set_option Elab.async false
set_option linter.all false
set_option maxRecDepth 100000
set_option maxHeartbeats 4000000
namespace Kb
open PySem PySem.Spec PyProof.Rows L2 Evl
def SF : List Str := ["store", "heap"]
/-- what State.__init__ promises -/
def spSInit (K : PySem.W.Frag) (C BR : Addr) : Sp := fun vs H Q E => ∃ a dx v1 v2 d1 d2, vs = [.ref a, v1, v2] ∧ H a = some (.ins C dx []) ∧ Dp K H v1 d1 ∧ Dp K H v2 d2 ∧ RowsTxt (asTup d1) ∧
  (storeD (asTup d1) = false → Rs E H BR [("row", v1), ("what", .str "store")]) ∧ (storeD (asTup d1) = true → heapD (asTup d2) = false → Rs E H BR [("row", v2), ("what", .str "heap")]) ∧
  (storeD (asTup d1) = true → heapD (asTup d2) = true → ∀ w1 w2 H', Kp a H H' → Dp K H' w1 (asTup d1) → Dp K H' w2 (asTup d2) → (((tupD d1).isSome = true → Pd K H v1 d1) → Pd K H' w1 (asTup d1)) → (((tupD d2).isSome = true → Pd K H v2 d2) → Pd K H' w2 (asTup d2)) →
    H' a = some (.ins C dx [("store", w1), ("heap", w2)]) → Q .non H')
section
variable {P : Program} {w : World} {K : PySem.W.Frag} {mg : Str → Option Value} {base : Heap} {H : Hp} {v : V} {d : PyData} {σ : L2.St} {te : TE} {C BR : Addr} {f : Addr} {fd : FuncData}
/-- known = tuple(x) if isinstance(x, list) else x -/
theorem evd_known {i : Nat} (hv : σ[i]? = some (some v)) (hd : Dp K H v d) : EvD (tIf (tB (tCB (rIsi K) (tCons (tVar i) (tCons (tC (.ty "list")) tNil)))) (tCB (rTupP K) (tCons (tVar i) tNil)) (tVar i)) σ H
    (fun w H1 => Dp K H1 w (asTup d) ∧ (((tupD d).isSome = true → Pd K H v d) → Pd K H1 w (asTup d) ∨ (tupD (asTup d)) = none)) := by
  refine evd_if (et_B (ev_isiD (ev_var hv) hd (kit_list d))) (fun e => ?_) (fun e => ?_)
  · rw [isB_lst] at e
    obtain ⟨ds, hz⟩ := Option.isSome_iff_exists.mp e
    obtain rfl := lstD_some hz
    cases hd with
    | lst hx ha => exact (evd_tupP (ev_var hv) hx ha).imp fun w H1 e1 h => ⟨h.dp, fun _ => .inl h⟩
  · rw [isB_lst] at e
    have ea : asTup d = d := by cases d <;> first | rfl | cases e
    refine ev_EvD (ev_var hv) fun H1 e1 => ?_
    rw [ea]
    refine ⟨Dp.ext e1 hd, fun hp => ?_⟩
    cases ht : tupD d with
    | none => exact .inr rfl
    | some ds => exact .inl ((hp (by rw [ht]; rfl)).ext e1)
theorem storeD_tup {d : PyData} (h : storeD d = true) : (tupD d).isSome = true := by cases d <;> first | rfl | cases h
theorem heapD_tup {d : PyData} (h : heapD d = true) : (tupD d).isSome = true := by cases d <;> first | rfl | cases h
theorem ok_State_init (B : Bi mg) (g_is_store : Gv P w K mg base CX0 4 "is_store" ["value"] (spB K RowsTxt storeD)) (g_is_heap : Gv P w K mg base CX0 4 "is_heap" ["value"] (spB K noC heapD)) (k_State : Kl K mg "State" C SF) (x_BadRow : XC P w K mg base "BadRow" BR ["self", "what", "row"] (spI2 BR "what" "row"))
    (F : Fun K "__init__" "State.__init__" s_State_init f fd) : FnOk P w K mg base (L2.CX P w) 5 f fd ["self", "store", "heap"] (spSInit K C BR) := by
  have nd := sc_State_init.nd
  refine F.okX sc_State_init (fun vs H Q E h => ?_) (fun cdv A outer s H vs Q E hr h => ⟨_, (pss_cons (ps_set (i := 3) nd rfl (.inl rfl) (pe_ifExp (pt_val (pe_callB (id := "isinstance") (r := rIsi K) call_isi rfl B.isi (by decide +kernel) (pa_cons (pv 1) (pa_cons (pe_bltn (v := .ty "list") rfl B.list (by decide +kernel) rfl) pa_nil)))) (pe_callTy (r := rTupP K) call_tupleP rfl B.tuple (by decide +kernel) (pa_cons (pv 1) pa_nil)) (pv 1)))
    (pss_cons (ps_if (pt_not (pt_val (pe_cg g_is_store hr rfl pass0 (pa_cons (pv 3) pa_nil)))) (pss_one (ps_raise rfl (takes_of rfl rfl rfl rfl) (pmk_xc x_BadRow hr rfl (pa_cons pe_str (pa_cons (pv 1) pa_nil))))) pss_nil)
    (pss_cons (ps_set (i := 4) nd rfl (.inl rfl) (pe_ifExp (pt_val (pe_callB (id := "isinstance") (r := rIsi K) call_isi rfl B.isi (by decide +kernel) (pa_cons (pv 2) (pa_cons (pe_bltn (v := .ty "list") rfl B.list (by decide +kernel) rfl) pa_nil)))) (pe_callTy (r := rTupP K) call_tupleP rfl B.tuple (by decide +kernel) (pa_cons (pv 2) pa_nil)) (pv 2)))
    (pss_cons (ps_if (pt_not (pt_val (pe_cg g_is_heap hr rfl pass0 (pa_cons (pv 4) pa_nil)))) (pss_one (ps_raise rfl (takes_of rfl rfl rfl rfl) (pmk_xc x_BadRow hr rfl (pa_cons pe_str (pa_cons (pv 2) pa_nil))))) pss_nil)
    (pss_cons (ps_fld (pv 0) (pv 3) rfl)
    (pss_one (ps_fld (pv 0) (pv 4) rfl))))))), ?_⟩)
  · obtain ⟨a, dx, v1, v2, d1, d2, rfl, _⟩ := h
    rfl
  obtain ⟨a, dx, v1, v2, d1, d2, rfl, ha, h1, h2, ht, r1, r2, q⟩ := h
  refine qd_asg (evd_known rfl h1) (fun w1 H1 e1 p1 => ?_)
  refine q_when (b := !storeD (asTup d1)) (et_not (et_B (ev_call (ea_cons (ev_var rfl) ea_nil) (spB_v p1.1 ht)))) (fun b H2 e2 => ?_) (fun b H2 e2 => ?_)
  · exact rs_2 (ea_cons ev_c (ea_cons (ev_var rfl) ea_nil)) ((r1 (by simpa using b)).ext (e1.trans e2))
  have b1 : storeD (asTup d1) = true := by simpa using b
  refine qd_asg (evd_known (v := v2) rfl (Dp.ext (e1.trans e2) h2)) (fun w2 H3 e3 p2 => ?_)
  refine q_when (b := !heapD (asTup d2)) (et_not (et_B (ev_call (ea_cons (ev_var rfl) ea_nil) (spB_v p2.1 trivial)))) (fun b H4 e4 => ?_) (fun b H4 e4 => ?_)
  · exact rs_2 (ea_cons ev_c (ea_cons (ev_var rfl) ea_nil)) ((r2 b1 (by simpa using b)).ext ((e1.trans e2).trans (e3.trans e4)))
  have b2 : heapD (asTup d2) = true := by simpa using b
  have e14 := (e1.trans e2).trans (e3.trans e4)
  have ha4 := e14 _ _ ha
  refine q_fld k_State (by decide) (ev_var rfl) (ev_var rfl) ha4 (by decide) (fun H5 e5 => ?_)
  refine s_fld (fs := [("store", w1)]) k_State (by decide) (ev_var rfl) (ev_var rfl) upd_same (show 1 < 1000 by decide) (fun H6 e6 => ?_)
  have kp5 : Kp a H5 H6 := fun b o hb ne => e6 _ _ (by rw [upd_ne ne]; exact hb)
  have ha5 := e5 _ _ ha4
  have k45 : Kp a H4 (upd H6 a (.ins C dx [("store", w1), ("heap", w2)])) := ((Kp.of e5).trans kp5).trans Kp.upd
  refine q b1 b2 w1 w2 _ ((Kp.of e14).trans k45) (dp_kp k45 ha4 rfl (Dp.ext (e2.trans (e3.trans e4)) p1.1)) (dp_kp k45 ha4 rfl (Dp.ext e4 p2.1)) (fun hp => ?_) (fun hp => ?_) upd_same
  · rcases p1.2 hp with z | z
    · exact (z.ext (e2.trans (e3.trans e4))).kp k45 ha4 rfl
    · have := storeD_tup b1
      rw [z] at this
      cases this
  · rcases p2.2 (fun t => (hp t).ext (e1.trans e2)) with z | z
    · exact (z.ext e4).kp k45 ha4 rfl
    · have := heapD_tup b2
      rw [z] at this
      cases this
end
end Kb
set_option Elab.async false
set_option linter.all false
set_option maxRecDepth 100000
set_option maxHeartbeats 4000000
namespace Kb
open PySem PySem.Spec PyProof.Rows L2 Evl
/-- a State whatever its parts -/
def StAt (K : PySem.W.Frag) (H : Hp) (C : Addr) (a : Addr) (s h : PyData) : Prop := ∃ dx v1 v2, H a = some (.ins C dx [("store", v1), ("heap", v2)]) ∧ Dp K H v1 s ∧ Dp K H v2 h
structure StM (K : PySem.W.Frag) (H : Hp) (C : Addr) (a : Addr) (ns cs : List (Key × Int)) : Prop where
  ex : ∃ dx v1 v2, H a = some (.ins C dx [("store", v1), ("heap", v2)]) ∧ Pd K H v1 (rowsD ns) ∧ Pd K H v2 (rowsD cs)
  n1 : (ns.map (·.1)).Nodup
  n2 : (cs.map (·.1)).Nodup
theorem StM.ext {K : PySem.W.Frag} {H H' : Hp} {C a : Addr} {ns cs : List (Key × Int)} (h : StM K H C a ns cs) (e : Ex H H') : StM K H' C a ns cs := by
  obtain ⟨dx, v1, v2, h1, h2, h3⟩ := h.ex
  exact ⟨⟨dx, v1, v2, e _ _ h1, h2.ext e, h3.ext e⟩, h.n1, h.n2⟩
theorem StAt.ext {K : PySem.W.Frag} {H H' : Hp} {C a : Addr} {s h : PyData} (q : StAt K H C a s h) (e : Ex H H') : StAt K H' C a s h := by
  obtain ⟨dx, v1, v2, h1, h2, h3⟩ := q
  exact ⟨dx, v1, v2, e _ _ h1, Dp.ext e h2, Dp.ext e h3⟩
theorem StM.at_ {K : PySem.W.Frag} {H : Hp} {C a : Addr} {ns cs : List (Key × Int)} (h : StM K H C a ns cs) : StAt K H C a (rowsD ns) (rowsD cs) := by
  obtain ⟨dx, v1, v2, h1, h2, h3⟩ := h.ex
  exact ⟨dx, v1, v2, h1, h2.dp, h3.dp⟩
def lookI (kvs : List (Key × Int)) (k : Key) : Option Int := (kvs.find? fun p => decide (p.1 = k)).map (·.2)
theorem valV_kvI (kvs : List (Key × Int)) (k : Key) : valV (kvs.map kvI) k = (lookI kvs k).map V.int := by
  unfold valV lookI
  rw [List.find?_map]
  simp only [Option.map_map]
  rfl
/-- what == of two States promises -/
def spSEq (K : PySem.W.Frag) (C : Addr) : Sp := fun vs H Q _ => ∃ a y s h, vs = [.ref a, y] ∧ StAt K H C a s h ∧ ((∃ d, Dp K H y d ∧ ∀ H', Ex H H' → Q (.bl false) H') ∨
  ∃ b s2 h2, y = .ref b ∧ StAt K H C b s2 h2 ∧ SeqAt.shaped (.tuple [s, h]) = true ∧ SeqAt.shaped (.tuple [s2, h2]) = true ∧ ∀ H', Ex H H' → Q (.bl (PyData.eqv (.tuple [s, h]) (.tuple [s2, h2]))) H')
def spSNe (K : PySem.W.Frag) (C : Addr) : Sp := fun vs H Q _ => ∃ a y s h, vs = [.ref a, y] ∧ StAt K H C a s h ∧ ((∃ d, Dp K H y d ∧ ∀ H', Ex H H' → Q (.bl true) H') ∨
  ∃ b s2 h2, y = .ref b ∧ StAt K H C b s2 h2 ∧ SeqAt.shaped (.tuple [s, h]) = true ∧ SeqAt.shaped (.tuple [s2, h2]) = true ∧ ∀ H', Ex H H' → Q (.bl (!PyData.eqv (.tuple [s, h]) (.tuple [s2, h2]))) H')
/-- == and != by own defs -/
structure Oe (P : Program) (w : World) (K : PySem.W.Frag) (mg : Str → Option Value) (base : Heap) (n : Nat) (C : Addr) (m : Str) (sp : Sp) : Prop where
  ex : ∃ (g : Addr) (fd : FuncData) (ps : List Str), PySem.W.findIn K (.ref C) m = some (some (.ref g)) ∧ PySem.W.isFn K (.ref g) = true ∧ FnOk P w K mg base CX0 n g fd ps sp ∧ L2.Binds K fd ps []
def rEqO (K : PySem.W.Frag) (C : Addr) (sp : Sp) : R2 := fun x y H Q => rEqA K x y H Q ∨ rOwnI K C sp E0 x y H Q
def rNeO (K : PySem.W.Frag) (C : Addr) (sp : Sp) : R2 := fun x y H Q => rNeA K x y H Q ∨ rOwnI K C sp E0 x y H Q
theorem opO_eq {X : Cx} {C : Addr} {sp : Sp} {n k : Nat} (O : Oe X.prog X.w X.K X.mg X.base n C "__eq__" sp) (hr : Room k X.A) (hu : X.A.units + 64 < cLine) (hj : n ≤ k := by decide) : OpR X (compareOp .Eq) (rEqO X.K C sp) := by
  obtain ⟨g, fd, ps, h1, h2, F, b⟩ := O.ex
  exact or2 (opA_eq hu) (op_ownI (op := .Eq) (fun _ _ => rfl) h1 h2 F b (hr.mono hj) pass0)
theorem opO_ne {X : Cx} {C : Addr} {sp : Sp} {n k : Nat} (O : Oe X.prog X.w X.K X.mg X.base n C "__ne__" sp) (hr : Room k X.A) (hu : X.A.units + 64 < cLine) (hj : n ≤ k := by decide) : OpR X (compareOp .NotEq) (rNeO X.K C sp) := by
  obtain ⟨g, fd, ps, h1, h2, F, b⟩ := O.ex
  exact or2 (opA_ne hu) (op_ownI (op := .NotEq) (fun _ _ => rfl) h1 h2 F b (hr.mono hj) pass0)
section
variable {P : Program} {w : World} {K : PySem.W.Frag} {mg : Str → Option Value} {base : Heap} {H : Hp} {v : V} {d : PyData} {σ : L2.St} {te : TE} {C BR BN : Addr} {f : Addr} {fd : FuncData}
theorem rv_eqD {x y : V} {d e : PyData} (h1 : Dp K H x d) (h2 : Dp K H y e) (s1 : SeqAt.shaped d = true) (s2 : SeqAt.shaped e = true) : RV (rEqA K) x y H (.bl (PyData.eqv d e)) := fun H1 e1 Q q => .inr ⟨d, e, Dp.ext e1 h1, Dp.ext e1 h2, s1, s2, q H1 (Ex.refl H1)⟩
theorem ok_State_eq (B : Bi mg) (k_State : Kl K mg "State" C SF) (F : Fun K "__eq__" "State.__eq__" s_State_eq f fd) : FnOk P w K mg base CX0 1 f fd ["self", "other"] (spSEq K C) := by
  have nd := sc_State_eq.nd
  refine F.ok sc_State_eq (fun vs H Q E h => ?_) (fun cdv A outer s H vs Q E hr h => ?_)
  · obtain ⟨a, y, s, h, rfl, _⟩ := h
    rfl
  have hu64 := hu64_of hr
  refine ⟨_, (pss_one (ps_ret (pe_and (pe_callB (id := "isinstance") (r := rIsi K) call_isi rfl B.isi (by decide +kernel) (pa_cons (pv 1) (pa_cons (pe_glob (v := .ref _) rfl k_State.g rfl) pa_nil))) (pe_one (pe_cmpR (r := rEqA K) (opA_eq hu64) (pe_tup (pa_cons (pe_fld (pv 0) rfl) (pa_cons (pe_fld (pv 0) rfl) pa_nil))) (pe_tup (pa_cons (pe_fld (pv 1) rfl) (pa_cons (pe_fld (pv 1) rfl) pa_nil))) (nomark _)))))), ?_⟩
  obtain ⟨a, y, s, h, rfl, hst, hy⟩ := h
  rcases hy with ⟨d, hd, hQ⟩ | ⟨b, s2, h2, rfl, hst2, sh1, sh2, hQ⟩
  · exact s_ret (ev_andV (a := false) (b := false) (ev_isiN k_State (ev_var rfl) hd) (fun z => nomatch z)) (fun H1 e1 => hQ H1 e1)
  · obtain ⟨dx, v1, v2, ha, hd1, hd2⟩ := hst
    obtain ⟨dy, u1, u2, hb, hd3, hd4⟩ := hst2
    refine s_ret (ev_andV (a := true) (ev_isiS k_State (ev_var rfl) hb) (fun _ => ev_opUU (eu_tup (ea_cons (ev_fld k_State (by decide) (ev_var rfl) ha rfl) (ea_cons (ev_fld k_State (by decide) (ev_var rfl) ha rfl) ea_nil)) (show 2 ≤ 100000 by decide))
      (eu_tup (ea_cons (ev_fld k_State (by decide) (ev_var rfl) hb rfl) (ea_cons (ev_fld k_State (by decide) (ev_var rfl) hb rfl) ea_nil)) (show 2 ≤ 100000 by decide)) (fun p q H1 hp hq e => rv_eqD (d := .tuple [s, h]) (e := .tuple [s2, h2]) (.tup (st_of hp) (.cons (Dp.ext e hd1) (.cons (Dp.ext e hd2) .nil))) (.tup (st_of hq) (.cons (Dp.ext e hd3) (.cons (Dp.ext e hd4) .nil))) sh1 sh2))) (fun H1 e1 => hQ H1 e1)
theorem ok_State_ne (B : Bi mg) (k_State : Kl K mg "State" C SF) (o_eq : Oe P w K mg base 1 C "__eq__" (spSEq K C)) (F : Fun K "__ne__" "State.__ne__" s_State_ne f fd) : FnOk P w K mg base CX0 2 f fd ["self", "other"] (spSNe K C) := by
  have nd := sc_State_ne.nd
  refine F.ok sc_State_ne (fun vs H Q E h => ?_) (fun cdv A outer s H vs Q E hr h => ?_)
  · obtain ⟨a, y, s, h, rfl, _⟩ := h
    rfl
  have hu64 := hu64_of hr
  refine ⟨_, (pss_one (ps_ret (pe_not (pe_cmpR (r := rEqO K C (spSEq K C)) (opO_eq o_eq hr hu64) (pv 0) (pv 1) (nomark _))))), ?_⟩
  obtain ⟨a, y, s, h, rfl, hst, hy⟩ := h
  obtain ⟨dx, v1, v2, ha, hd1, hd2⟩ := id hst
  rcases hy with ⟨d, hd, hQ⟩ | ⟨b, s2, h2, rfl, hst2, sh1, sh2, hQ⟩
  · exact s_ret (ev_notV (a := false) (ev_op (ev_var rfl) (ev_var rfl) (fun H1 e Q q => .inr ⟨a, dx, _, _, rfl, e _ _ ha, dp_ty (Dp.ext e hd), k_State.nf _ (tyOf_mem d), a, y, s, h, rfl, hst.ext e, .inl ⟨d, Dp.ext e hd, fun H2 e2 => q H2 e2⟩⟩))) (fun H1 e1 => hQ H1 e1)
  · obtain ⟨dy, u1, u2, hb, hd3, hd4⟩ := id hst2
    exact s_ret (ev_notV (ev_op (ev_var rfl) (ev_var rfl) (fun H1 e Q q => .inr ⟨a, dx, _, _, rfl, e _ _ ha, k_State.tyx (e _ _ hb), by unfold PySem.W.notFirst; rw [beq_self_eq_true]; rfl, a, _, s, h, rfl, hst.ext e, .inr ⟨b, s2, h2, rfl, hst2.ext e, sh1, sh2, fun H2 e2 => q H2 e2⟩⟩))) (fun H1 e1 => hQ H1 e1)
def spNeed (K : PySem.W.Frag) (C BR : Addr) : Sp := fun vs H Q E => ∃ z v, vs = [.str z, v] ∧ ((∃ a dx fs, v = .ref a ∧ H a = some (.ins C dx fs) ∧ ∀ H', Ex H H' → Q v H') ∨ ∃ d, Dp K H v d ∧ Rs E H BR [("row", v), ("what", .str z)])
theorem ok_need_state (B : Bi mg) (k_State : Kl K mg "State" C SF) (x_BadRow : XC P w K mg base "BadRow" BR ["self", "what", "row"] (spI2 BR "what" "row")) (D : Df K mg "need_state" s_need_state ["what", "value"]) :
    Gv P w K mg base (L2.CX P w) 3 "need_state" ["what", "value"] (spNeed K C BR) := by
  refine D.gvX sc_need_state (fun vs H Q E h => ?_) (fun f cdv A outer s H vs Q E hr h => ⟨_, (pss_cons (ps_if (pt_not (pt_val (pe_callB (id := "isinstance") (r := rIsi K) call_isi rfl B.isi (by decide +kernel) (pa_cons (pv 1) (pa_cons (pe_glob (v := .ref _) rfl k_State.g rfl) pa_nil))))) (pss_one (ps_raise rfl (takes_of rfl rfl rfl rfl) (pmk_xc x_BadRow hr rfl (pa_cons (pv 0) (pa_cons (pv 1) pa_nil))))) pss_nil)
    (pss_one (ps_ret (pv 1)))), ?_⟩)
  · obtain ⟨z, v, rfl, _⟩ := h
    rfl
  obtain ⟨z, v, rfl, h⟩ := h
  rcases h with ⟨a, dx, fs, rfl, ha, hQ⟩ | ⟨d, hd, hR⟩
  · exact q_when (b := false) (et_is (et_not (et_B (ev_isiS k_State (ev_var rfl) ha))) rfl) (fun z => nomatch z) (fun _ H1 e1 => s_ret (ev_var rfl) fun H2 e2 => hQ H2 (e1.trans e2))
  · exact q_when (b := true) (et_is (et_not (et_B (ev_isiN k_State (ev_var rfl) hd))) rfl) (fun _ H1 e1 => rs_2 (ea_cons (ev_var rfl) (ea_cons (ev_var rfl) ea_nil)) (hR.ext e1)) (fun z => nomatch z)
def spValueBy (K : PySem.W.Frag) (C : Addr) : Sp := fun vs H Q _ => ∃ a z ns cs, vs = [.ref a, .str z] ∧ StM K H C a ns cs ∧ ∀ H', Ex H H' → Q (.int ((lookI ns (.inr z)).getD 0)) H'
def spValueOf (K : PySem.W.Frag) (C BR : Addr) : Sp := fun vs H Q E => ∃ v t, vs = [v, t] ∧ ((∃ d, Dp K H v d ∧ Rs E H BR [("row", v), ("what", .str "state")]) ∨
  ∃ a ns cs d, v = .ref a ∧ StM K H C a ns cs ∧ Dp K H t d ∧ TxtOk d ∧ (plainD d = false → Rs E H BR [("row", t), ("what", .str "term")]) ∧ (plainD d = true → ∀ z, d = .str z → ∀ H', Ex H H' → Q (.int ((lookI ns (.inr z)).getD 0)) H'))
theorem plainD_str {d : PyData} (h : plainD d = true) : ∃ z, d = .str z := by cases d <;> first | exact ⟨_, rfl⟩ | cases h
def spNeedA (K : PySem.W.Frag) (BN : Addr) : Sp := fun vs H Q E => ∃ v d, vs = [v] ∧ Dp K H v d ∧ (addrD d = false → Rs E H BN [("number", v), ("what", .str "address")]) ∧ (addrD d = true → ∀ H', Ex H H' → Q .non H')
theorem ok_need_address (B : Bi mg) (g_is_address : Gv P w K mg base CX0 2 "is_address" ["value"] (spB K noC addrD)) (x_BadNumber : XC P w K mg base "BadNumber" BN ["self", "what", "number"] (spI2 BN "what" "number")) (D : Df K mg "need_address" s_need_address ["address"]) :
    Gv P w K mg base (L2.CX P w) 3 "need_address" ["address"] (spNeedA K BN) := by
  refine D.gvX sc_need_address (fun vs H Q E h => ?_) (fun f cdv A outer s H vs Q E hr h => ⟨_, (pss_one (ps_if (pt_not (pt_val (pe_cg g_is_address hr rfl pass0 (pa_cons (pv 0) pa_nil)))) (pss_one (ps_raise rfl (takes_of rfl rfl rfl rfl) (pmk_xc x_BadNumber hr rfl (pa_cons pe_str (pa_cons (pv 0) pa_nil))))) pss_nil)), ?_⟩)
  · obtain ⟨v, d, rfl, _⟩ := h
    rfl
  obtain ⟨v, d, rfl, hd, hR, hQ⟩ := h
  exact s_when (b := !addrD d) (et_not (et_B (ev_call (ea_cons (ev_var rfl) ea_nil) (spB_v hd trivial)))) (fun b H1 e1 => rs_2 (ea_cons ev_c (ea_cons (ev_var rfl) ea_nil)) ((hR (by simpa using b)).ext e1)) (fun b H1 e1 => hQ (by simpa using b) H1 e1)
def spContent (K : PySem.W.Frag) (C BR BN : Addr) : Sp := fun vs H Q E => ∃ v t, vs = [v, t] ∧ ((∃ d, Dp K H v d ∧ Rs E H BR [("row", v), ("what", .str "state")]) ∨
  ∃ a ns cs d, v = .ref a ∧ StM K H C a ns cs ∧ Dp K H t d ∧ (addrD d = false → Rs E H BN [("number", t), ("what", .str "address")]) ∧ (addrD d = true → ∀ i, d = .int i → ∀ H', Ex H H' → Q (((lookI cs (.inl i)).map V.int).getD .non) H'))
end
end Kb
set_option Elab.async false
set_option linter.all false
set_option maxRecDepth 100000
set_option maxHeartbeats 4000000
namespace Kb
open PySem PySem.Spec PyProof.Rows L2 Evl
def cI (p : Int × Int) : Key × Int := (.inl p.1, p.2)
def intsOf (ns : List (Key × Int)) (cells : List (Int × Int)) : List Int := ns.map (·.2) ++ cells.flatMap fun p => [p.1, p.2]
theorem intsOf_len (ns : List (Key × Int)) (cells : List (Int × Int)) : (intsOf ns cells).length = ns.length + 2 * cells.length := by
  unfold intsOf
  rw [List.length_append, List.length_map]
  induction cells with
  | nil => rfl
  | cons p r ih =>
    rw [List.flatMap_cons, List.length_append, List.length_cons]
    simp only [List.length_cons, List.length_nil]
    omega
def spVals (K : PySem.W.Frag) (C : Addr) : Sp := fun vs H Q _ => ∃ a ns cells, vs = [.ref a] ∧ StM K H C a ns (cells.map cI) ∧ ns.length + 2 * cells.length < 64 ∧
  ∀ p H', H p = none → Ex H H' → H' p = some (.lst ((valsI (intsOf ns cells)).map V.int)) → Q (.ref p) H'
section
variable {P : Program} {w : World} {K : PySem.W.Frag} {mg : Str → Option Value} {base : Heap} {H : Hp} {v : V} {d : PyData} {σ : L2.St} {te : TE} {C BR BN : Addr} {f : Addr} {fd : FuncData}
theorem sp_vals {a : Addr} {ns : List (Key × Int)} {cells : List (Int × Int)} (h : StM K H C a ns (cells.map cI)) (h64 : ns.length + 2 * cells.length < 64) : SpL (spVals K C) [.ref a] H ((valsI (intsOf ns cells)).map V.int) := fun H1 e Q q E => ⟨a, ns, cells, rfl, h.ext e, h64, q⟩
theorem tv_part (ns : List (Key × Int)) (cells : List (Int × Int)) : (intsOf ns cells).map tvK = ns.map (fun p => tvK p.2) ++ cells.flatMap fun p => [tvK p.1, tvK p.2] := by
  unfold intsOf
  rw [List.map_append, List.map_map, List.map_flatMap]
  rfl
theorem ok_values_by (B : Bi mg) (k_State : Kl K mg "State" C SF) (D : Df K mg "values_by" s_values_by ["state"]) : Gv P w K mg base CX0 1 "values_by" ["state"] (spVals K C) := by
  have nd := sc_values_by.nd
  refine D.gv sc_values_by (fun vs H Q E h => ?_) (fun f cdv A outer s H vs Q E hr h => ?_)
  · obtain ⟨a, ns, cells, rfl, _⟩ := h
    rfl
  have hu := Nat.lt_of_le_of_lt (Nat.add_le_add_left (show 1 ≤ 64 by decide) _) (hu64_of hr)
  refine ⟨_, (pss_cons (ps_setDc (i := 1) (own := [("name", 4), ("value", 3)]) rfl nd rfl rfl (sw_trueD rfl rfl rfl (by decide +kernel)) (piA_seq (pe_fld (pv 0) rfl)) (blk_ok (by kernel_rfl)) (fun _ _ _ _ _ => (pgK_tup (K := K) (n := 2) rfl rfl (pgs_cons (pg_name (i := 4) nd rfl (.inl rfl)) (pgs_cons (pg_name (i := 3) nd rfl (.inl rfl)) pgs_nil)))) (fun _ _ _ _ _ => pts_nil) (fun _ _ _ _ _ => (pv 3)) (fun _ _ _ _ _ => pe_bl))
    (pss_cons (ps_for PassesOwn.never rfl (piA_seq (pe_fld (pv 0) rfl)) (pgK_tup (K := K) (n := 2) rfl rfl (pgs_cons (pg_name (i := 2) nd rfl (.inl rfl)) (pgs_cons (pg_name (i := 3) nd rfl (.inl rfl)) pgs_nil))) (pss_cons (ps_dput hu (pv 1) (pv 2) pe_bl rfl)
    (pss_one (ps_dput hu (pv 1) (pv 3) pe_bl rfl))))
    (pss_one (ps_ret (pe_lc (own := [("value", 3)]) rfl nd (piA_seq (pe_callB (r := rSortA K) (callA_sorted rfl) rfl B.sorted (by decide +kernel) (pa_cons (pv 1) pa_nil))) (blk_ok (by kernel_rfl)) (fun _ _ _ _ _ => (pg_name (i := 3) nd rfl (.inl rfl))) (fun _ _ _ _ _ => (pts_one (pt_cmpR op_gt (pv 3) pe_int (nomark _)))) (fun _ _ _ _ _ => (pv 3))))))), ?_⟩
  obtain ⟨a, ns, cells, rfl, hs, h64, hQ⟩ := h
  obtain ⟨dx, v1, v2, h1, ⟨p1, xs1, ds1, rfl, e1, hx1, hd1⟩, ⟨p2, xs2, ds2, rfl, e2, hx2, hd2⟩⟩ := hs.ex
  have e1 := PyData.tuple.inj e1
  have e2 := PyData.tuple.inj e2
  subst e1 e2
  have q1 := rows_prt hd1
  have q2 := rows_prt hd2
  have l1 : xs1.length = ns.length := by rw [q1.len, List.length_map]
  have l2 : xs2.length = cells.length := by rw [q2.len, List.length_map, List.length_map]
  refine qd_asg (ed_dcP (ns.map fun p => tvK p.2) (ev_fld k_State (by decide) (ev_var rfl) h1 rfl) hx1.t q1 (by simp) (by omega) (fun _ _ => rfl) (fun _ _ => et_true fun _ _ _ q => q) (fun i u p H1 e hu hp => ?_) (fun i u p H1 e hu hp => ?_)) (fun w H1 e1 p1 => ?_)
  · rw [List.getElem?_map] at hu hp
    cases hn : ns[i]? with
    | none => rw [hn] at hu; cases hu
    | some n =>
      rw [hn] at hu hp
      cases hu
      cases hp
      exact ev_var rfl
  · rw [List.getElem?_map] at hp
    cases hn : ns[i]? with
    | none => rw [hn] at hp; cases hp
    | some n =>
      rw [hn] at hp
      cases hp
      exact ev_c
  obtain ⟨fa, rfl, hf, hf0⟩ := p1
  refine q_forPr (us := (cells.map cI).map fun p : Key × Int => (kV p.1, V.int p.2)) (ds := (cells.map cI).map rowD) (ev_fld k_State (by decide) (ev_var rfl) (e1 _ _ h1) rfl) (ex_t e1 hx2.t) q2.len
    (fun i σ' H' => (∃ x y z, σ' = [some (.ref a), some (.ref fa), x, y, z]) ∧ Ex H H' ∧ H' fa = some (.dK (mergeK [] (ns.map (fun p => tvK p.2) ++ (cells.take i).flatMap fun p => [tvK p.1, tvK p.2]))))
    (fun H2 e2 => ⟨⟨_, _, _, rfl⟩, e1.trans e2, by rw [List.take_zero, List.flatMap_nil, List.append_nil]; exact e2 _ _ hf⟩) (fun i σ' H' _ p => ⟨ex_t p.2.1 hx2.t, Prt.ext p.2.1 q2⟩) (fun i u σ' H' hu p => ?_) (fun σ' H' p => ?_)
  · obtain ⟨⟨x, y, z, rfl⟩, ex, hk⟩ := p
    obtain ⟨c, hc⟩ : ∃ c, cells[i]? = some c := by
      cases hn : cells[i]? with
      | none =>
        rw [List.getElem?_map, List.getElem?_map, hn] at hu
        cases hu
      | some c => exact ⟨c, rfl⟩
    rw [List.getElem?_map, List.getElem?_map, hc] at hu
    cases hu
    have hlen : ∀ j, (mergeK [] (ns.map (fun p => tvK p.2) ++ (cells.take j).flatMap fun p => [tvK p.1, tvK p.2])).length ≤ 64 := fun j => by
      refine Nat.le_trans (length_mergeK _ []) ?_
      have z1 : ∀ l : List (Int × Int), (l.flatMap fun p => [tvK p.1, tvK p.2]).length = 2 * l.length := fun l => by
        induction l with
        | nil => rfl
        | cons p r ih =>
          rw [List.flatMap_cons, List.length_append, ih, List.length_cons]
          simp only [List.length_cons, List.length_nil]
          omega
      rw [List.length_append, List.length_map, z1]
      have : (cells.take j).length ≤ cells.length := by simp; omega
      simp only [List.length_nil]
      omega
    refine q_dput (k := .inl c.1) ev_c (ev_var rfl) (ev_var rfl) hk (by have := hlen i; omega) (fun H2 e2 => ?_)
    refine s_dput (k := .inl c.2) ev_c (ev_var rfl) (ev_var rfl) upd_same ?_ (fun H3 e3 => ?_)
    · have z := length_mergeK [tvK c.1] (mergeK [] (ns.map (fun p => tvK p.2) ++ (cells.take i).flatMap fun p => [tvK p.1, tvK p.2]))
      have z2 := hlen i
      have z3 : (putK (mergeK [] (ns.map (fun p => tvK p.2) ++ (cells.take i).flatMap fun p => [tvK p.1, tvK p.2])) (.inl c.1) (.bl true)).length ≤ _ + 1 := z
      omega
    · have x2 : Ex H (upd H2 fa (.dK (putK (mergeK [] (ns.map (fun p => tvK p.2) ++ (cells.take i).flatMap fun p => [tvK p.1, tvK p.2])) (.inl c.1) (.bl true)))) := (ex.trans e2).mut hf0
      refine ⟨⟨_, _, _, rfl⟩, (x2.trans e3).mut hf0, ?_⟩
      rw [upd_same, List.take_succ, hc, Option.toList_some, List.flatMap_append, ← List.append_assoc, mergeK_app []  _ (List.flatMap _ [c])]
      rfl
  · obtain ⟨⟨x, y, z, rfl⟩, ex, hk⟩ := p
    have hlc : ((cells.map cI).map fun p => (kV p.1, V.int p.2)).length = cells.length := by simp
    rw [hlc, List.take_length, ← tv_part] at hk
    have hkd := keys_dd (intsOf ns cells) [] [] rfl
    have hdl := dd_len (intsOf ns cells) []
    rw [intsOf_len, List.length_nil] at hdl
    refine s_retL (el_sieveN (ns := srtI (ddI [] (intsOf ns cells))) (fun i => decide (i > 0)) (el_sortD (ev_var rfl) hk hkd (by omega) (srt_perm _) (srt_le _)) (by rw [(srt_perm _).length_eq]; omega) (fun _ => rfl) (fun n H1 e => et_test (ev_op (ev_var rfl) ev_c rv_I0)) (fun n H1 => ev_var rfl)) (fun p H4 hp e4 h4 => ?_)
    exact hQ p H4 (fresh_back ex hp) (ex.trans e4) h4
def spValsIn (K : PySem.W.Frag) (C BR : Addr) : Sp := fun vs H Q E => ∃ v, vs = [v] ∧ ((∃ d, Dp K H v d ∧ Rs E H BR [("row", v), ("what", .str "state")]) ∨
  ∃ a ns cells, v = .ref a ∧ StM K H C a ns (cells.map cI) ∧ ns.length + 2 * cells.length < 64 ∧ ∀ p H', Ex H H' → SqP H' p ((valsI (intsOf ns cells)).map V.int) → Q (.ref p) H')
theorem sp_need_ok {a dx : Addr} {fs : List (Str × V)} {z : Str} (h : H a = some (.ins C dx fs)) : SpV (spNeed K C BR) [.str z, .ref a] H (.ref a) := fun H1 e1 Q q E => ⟨_, _, rfl, .inl ⟨a, dx, _, rfl, e1 _ _ h, q⟩⟩
/-- the values that are no address -/
def looseI (ns : List (Key × Int)) (cells : List (Int × Int)) : List Int := (valsI (intsOf ns cells)).filter fun i => !decide (i ∈ cells.map (·.1))
def spLoose (K : PySem.W.Frag) (C : Addr) : Sp := fun vs H Q _ => ∃ a ns cells, vs = [.ref a] ∧ StM K H C a ns (cells.map cI) ∧ ns.length + 2 * cells.length < 64 ∧
  ∀ p H', H p = none → Ex H H' → H' p = some (.lst ((looseI ns cells).map V.int)) → Q (.ref p) H'
theorem sp_loose {a : Addr} {ns : List (Key × Int)} {cells : List (Int × Int)} (h : StM K H C a ns (cells.map cI)) (h64 : ns.length + 2 * cells.length < 64) : SpL (spLoose K C) [.ref a] H ((looseI ns cells).map V.int) := fun H1 e Q q E => ⟨a, ns, cells, rfl, h.ext e, h64, q⟩
theorem look_cI (cells : List (Int × Int)) (i : Int) : (valV ((cells.map cI).map kvI) (.inl i)).isSome = decide (i ∈ cells.map (·.1)) := by
  rw [valV_kvI]
  unfold lookI
  rw [Option.isSome_map, Option.isSome_map, List.find?_map, Option.isSome_map]
  rw [Bool.eq_iff_iff, List.find?_isSome, decide_eq_true_iff, List.mem_map]
  constructor
  · rintro ⟨p, hp, e⟩
    have e2 : (Sum.inl p.1 : Key) = .inl i := of_decide_eq_true e
    cases e2
    exact ⟨p, hp, rfl⟩
  · rintro ⟨p, hp, rfl⟩
    exact ⟨p, hp, decide_eq_true rfl⟩
def spLooseIn (K : PySem.W.Frag) (C BR : Addr) : Sp := fun vs H Q E => ∃ v, vs = [v] ∧ ((∃ d, Dp K H v d ∧ Rs E H BR [("row", v), ("what", .str "state")]) ∨
  ∃ a ns cells, v = .ref a ∧ StM K H C a ns (cells.map cI) ∧ ns.length + 2 * cells.length < 64 ∧ ∀ p H', Ex H H' → SqP H' p ((looseI ns cells).map V.int) → Q (.ref p) H')
end
end Kb
set_option Elab.async false
set_option linter.all false
set_option maxRecDepth 100000
set_option maxHeartbeats 4000000
namespace Kb
open PySem PySem.Spec PyProof.Rows L2 Evl
def spLeast (K : PySem.W.Frag) : Sp := fun vs H Q _ => ∃ p ys m, vs = [.ref p, .int (m : Nat)] ∧ SqL K H p (ys.map V.int) ∧ m ≤ 1000 ∧ ∀ i l H', (oth ys i).length = m → H l = none → Ex H H' → H' l = some (.lst ((oth ys i).map V.int)) → Q (.ref l) H'
section
variable {P : Program} {w : World} {K : PySem.W.Frag} {mg : Str → Option Value} {base : Heap} {H : Hp} {v : V} {d : PyData} {σ : L2.St} {te : TE} {C BR BN : Addr} {f : Addr} {fd : FuncData}
/-- the least number from 1 on that is not among ys -/
def leastI (ys : List Int) (x : Int) : Prop := 1 ≤ x ∧ x ∉ ys ∧ ∀ y, 1 ≤ y → y < x → y ∈ ys
theorem oth_asc (ys : List Int) : ∀ i : Nat, (oth ys i).Pairwise (· < ·)
  | 0 => .nil
  | i + 1 => by
    unfold oth
    split
    · rw [List.append_nil]
      exact oth_asc ys i
    · rw [List.pairwise_append]
      refine ⟨oth_asc ys i, List.pairwise_singleton _ _, fun a ha b hb => ?_⟩
      rw [List.mem_singleton] at hb
      have := (oth_mem ys i a).mp ha
      omega
theorem oth_one {ys : List Int} {i : Nat} (h : (oth ys i).length = 1) : ∃ x, oth ys i = [x] ∧ leastI ys x := by
  match hx : oth ys i, h with
  | [x], _ =>
    have hm : x ∈ oth ys i := by rw [hx]; exact List.mem_singleton.mpr rfl
    obtain ⟨a, b, c⟩ := (oth_mem ys i x).mp hm
    refine ⟨x, rfl, a, c, fun y hy hyx => ?_⟩
    refine Classical.byContradiction fun hn => ?_
    have : y ∈ oth ys i := (oth_mem ys i y).mpr ⟨hy, by omega, hn⟩
    rw [hx, List.mem_singleton] at this
    omega
def spNew (K : PySem.W.Frag) (C BR : Addr) : Sp := fun vs H Q E => ∃ v, vs = [v] ∧ ((∃ d, Dp K H v d ∧ Rs E H BR [("row", v), ("what", .str "state")]) ∨
  ∃ a ns cells, v = .ref a ∧ StM K H C a ns (cells.map cI) ∧ ns.length + 2 * cells.length < 64 ∧ ∀ x H', leastI (valsI (intsOf ns cells)) x → Ex H H' → Q (.int x) H')
end
end Kb
set_option Elab.async false
set_option linter.all false
set_option maxRecDepth 100000
set_option maxHeartbeats 4000000
namespace Kb
open PySem PySem.Spec PyProof.Rows L2 Evl
/-! ### the plain law: names by two ways -/
theorem lstrip_list (z y : Str) : (Txt.lstripChars z y).cps.toList = z.cps.toList.dropWhile y.cps.contains := by
  unfold Txt.lstripChars
  rw [PyProof.Rows.stripBy_eq]
  have h1 : stripLo y.cps.contains true z = (z.cps.toList.takeWhile y.cps.contains).length := rfl
  have h2 : ∀ k, stripHi y.cps.contains false z k = z.length := fun _ => rfl
  rw [h2, h1]
  show (z.cps.extract _ z.cps.size).toList = _
  rw [Array.toList_extract]
  simp only [List.extract, Array.length_toList]
  rw [List.take_of_length_le (by simp)]
  generalize z.cps.toList = cs
  induction cs with
  | nil => rfl
  | cons c r ih =>
    by_cases hc : y.cps.contains c = true
    · rw [List.takeWhile_cons_of_pos hc, List.dropWhile_cons_of_pos hc, List.length_cons, List.drop_succ_cons]
      exact ih
    · rw [List.takeWhile_cons_of_neg hc, List.dropWhile_cons_of_neg hc]
      rfl
theorem sIx_nat (L d n : Nat) : HT.sIx L d (some (n : Int)) = min n L := by
  simp only [HT.sIx]
  rw [if_neg (by omega)]
  simp
theorem cut_from (z : Str) (n : Nat) : (cutS z (some (n : Int)) none).cps.toList = z.cps.toList.drop n := by
  have hlen : z.cps.toList.length = z.length := Array.length_toList
  unfold cutS
  show List.take _ _ = _
  have h2 : HT.sIx z.length z.length none = z.length := rfl
  rw [sIx_nat, h2, List.take_of_length_le (by rw [List.length_drop, hlen]; exact Nat.le_refl _)]
  by_cases h : n ≤ z.length
  · rw [Nat.min_eq_left h]
  · rw [Nat.min_eq_right (by omega), List.drop_of_length_le (by omega), List.drop_of_length_le (by omega)]
theorem cut_to (z : Str) (n : Nat) : (cutS z none (some (n : Int))).cps.toList = z.cps.toList.take n := by
  have hlen : z.cps.toList.length = z.length := Array.length_toList
  unfold cutS
  show List.take _ _ = _
  have h1 : HT.sIx z.length 0 none = 0 := rfl
  rw [h1, List.drop_zero, Nat.sub_zero, sIx_nat]
  by_cases h : n ≤ z.length
  · rw [Nat.min_eq_left h]
  · rw [Nat.min_eq_right (by omega), List.take_of_length_le (by omega), List.take_of_length_le (by omega)]
def sg (c : Nat) : Str := ⟨#[c]⟩
theorem join_signs (cs : List Nat) : Txt.join "" (cs.map sg) = ⟨cs.toArray⟩ := by
  show Builtin.Str.glued "" (cs.map sg) = _
  unfold Builtin.Str.glued
  cases cs with
  | nil => rfl
  | cons c r =>
    have key : ∀ (r : List Nat) (acc : Array Nat), (r.map sg).foldl (fun acc p => acc ++ ("" : Str).cps ++ p.cps) acc = acc ++ r.toArray := by
      intro r
      induction r with
      | nil => intro acc; simp
      | cons d r ih =>
        intro acc
        rw [List.map_cons, List.foldl_cons, ih]
        have : ("" : Str).cps = #[] := rfl
        rw [this]
        simp [sg]
    show (⟨((c :: r).map sg).drop 1 |>.foldl (fun acc p => acc ++ ("" : Str).cps ++ p.cps) (sg c).cps⟩ : Str) = _
    rw [List.map_cons, List.drop_succ_cons, List.drop_zero, key]
    simp [sg]
def letC (c : Nat) : Bool := decide (c ∈ lettersS.cps.toList)
theorem letC_eq (c : Nat) : lettersS.cps.contains c = letC c := by
  unfold letC
  rw [Bool.eq_iff_iff, Array.contains_iff_mem, decide_eq_true_iff, Array.mem_toList_iff]
theorem let_dig (c : Nat) (h : digC c = true) : letC c = false := by
  have key : ∀ c ∈ digitsS.cps.toList, letC c = false := by decide +kernel
  exact key c (of_decide_eq_true h)
/-- the law's test of a name's signs -/
def nameL (cs : List Nat) : Bool := !decide (cs.filter letC = []) && (decide (cs.take (cs.filter letC).length = cs.filter letC) && decide ((cs.drop (cs.filter letC).length).filter (fun c => !digC c) = []))
theorem dropW_len (f : Nat → Bool) : ∀ cs : List Nat, (cs.dropWhile f).length ≤ cs.length
  | [] => Nat.le_refl _
  | c :: r => by
    by_cases h : f c = true
    · rw [List.dropWhile_cons_of_pos h, List.length_cons]
      have := dropW_len f r
      omega
    · rw [List.dropWhile_cons_of_neg h]
      exact Nat.le_refl _
theorem dropW_app : ∀ (L Dd : List Nat), (∀ c ∈ L, letC c = true) → (∀ c ∈ Dd, digC c = true) → (L ++ Dd).dropWhile letC = Dd
  | [], [], _, _ => rfl
  | [], d :: r, _, hd => by
    rw [List.nil_append, List.dropWhile_cons_of_neg]
    rw [let_dig d (hd d List.mem_cons_self)]
    exact Bool.false_ne_true
  | c :: r, Dd, hl, hd => by
    rw [List.cons_append, List.dropWhile_cons_of_pos (hl c List.mem_cons_self)]
    exact dropW_app r Dd (fun c hc => hl c (List.mem_cons_of_mem _ hc)) hd
theorem nameL_eq (cs : List Nat) : nameL cs = (decide ((cs.dropWhile letC).length < cs.length) && (cs.dropWhile letC).all digC) := by
  obtain ⟨T, hT⟩ : ∃ T, T = cs.takeWhile letC := ⟨_, rfl⟩
  obtain ⟨Rr, hR⟩ : ∃ R, R = cs.dropWhile letC := ⟨_, rfl⟩
  have split : cs = T ++ Rr := by rw [hT, hR, List.takeWhile_append_dropWhile]
  have ft : T.filter letC = T := by
    rw [hT]
    exact List.filter_eq_self.mpr fun c hc => (List.all_eq_true.mp (List.all_takeWhile (p := letC) (l := cs))) c hc
  have hlen : cs.length = T.length + Rr.length := by rw [split, List.length_append]
  rw [← hR, Bool.eq_iff_iff]
  unfold nameL
  simp only [Bool.and_eq_true, Bool.not_eq_true', decide_eq_false_iff_not, decide_eq_true_eq, List.all_eq_true]
  constructor
  · rintro ⟨h1, h2, h3⟩
    have hd : ∀ c ∈ cs.drop (cs.filter letC).length, digC c = true := fun c hc => by
      have := List.filter_eq_nil_iff.mp h3 c hc
      simpa using this
    have hcs : cs = cs.filter letC ++ cs.drop (cs.filter letC).length := by
      conv => lhs; rw [← List.take_append_drop (cs.filter letC).length cs, h2]
    have hl : ∀ c ∈ cs.filter letC, letC c = true := fun c hc => (List.mem_filter.mp hc).2
    have hdw : cs.dropWhile letC = cs.drop (cs.filter letC).length := by
      conv => lhs; rw [hcs]
      exact dropW_app _ _ hl hd
    rw [← hR] at hdw
    refine ⟨?_, fun c hc => hd c (hdw ▸ hc)⟩
    rw [hdw, List.length_drop]
    have h0 : 0 < (cs.filter letC).length := List.length_pos_iff.mpr h1
    have h4 : (cs.filter letC).length ≤ cs.length := List.length_filter_le _ _
    omega
  · rintro ⟨h1, h2⟩
    have fd : Rr.filter letC = [] := List.filter_eq_nil_iff.mpr fun c hc => by
      rw [let_dig c (h2 c hc)]
      exact Bool.false_ne_true
    have hf : cs.filter letC = T := by rw [split, List.filter_append, ft, fd, List.append_nil]
    rw [hf]
    refine ⟨fun z => ?_, ?_, ?_⟩
    · rw [z] at hlen
      simp only [List.length_nil] at hlen
      omega
    · rw [split, List.take_left]
    · rw [split, List.drop_left]
      exact List.filter_eq_nil_iff.mpr fun c hc => by rw [h2 c hc]; decide
def nameT (z : Str) : Bool := !(!(decide (1 ≤ (z.length : Int)) && decide ((z.length : Int) ≤ 12)) || decide (z ∈ wordsL)) && nameL z.cps.toList
theorem nameT_eq (z : Str) : nameT z = nameZ z := by
  unfold nameT nameZ
  rw [nameL_eq, inV_str, lstrip_list]
  have e : lettersS.cps.contains = letC := funext letC_eq
  rw [e]
  have l1 : ((Txt.lstripChars z lettersS).length : Int) = ((z.cps.toList.dropWhile letC).length : Int) := by
    rw [← e, ← lstrip_list]
    rfl
  have l2 : (z.length : Int) = (z.cps.toList.length : Int) := rfl
  rw [l1]
  have l3 : decide (((z.cps.toList.dropWhile letC).length : Int) < (z.length : Int)) = decide ((z.cps.toList.dropWhile letC).length < z.cps.toList.length) := by
    rw [l2]
    exact decide_eq_decide.mpr Int.ofNat_lt
  rw [l3]
  generalize decide (1 ≤ (z.length : Int)) = A
  generalize decide ((z.length : Int) ≤ 12) = B
  generalize decide (z ∈ wordsL) = W
  generalize (decide ((z.cps.toList.dropWhile letC).length < z.cps.toList.length) && (z.cps.toList.dropWhile letC).all digC) = X
  revert A B W X
  decide
/-- the law's test of a hidden name -/
def hiddenT (z : Str) : Bool := !(!decide (V.str (cutS z none (some 1)) = .str ".") || (!(decide (1 ≤ ((cutS z (some 1) none).length : Int)) && decide (((cutS z (some 1) none).length : Int) ≤ 6)) || !decide ((cutS z (some 1) none).cps.toList.filter (fun c => !digC c) = []))) &&
  (decide (V.str (cutS z (some 1) none) = .str "0") || !decide (V.str (sg ((cutS z (some 1) none).cps.toList.getD 0 0)) = .str "0"))
theorem str_of_list {a b : Str} (h : a.cps.toList = b.cps.toList) : a = b := by
  cases a
  cases b
  have := congrArg List.toArray h
  simpa using this
theorem hiddenT_eq (z : Str) : hiddenT z = hiddenZ z := by
  have c1 : (cutS z (some 1) none).cps.toList = z.cps.toList.drop 1 := cut_from z 1
  have c2 : (cutS z none (some 1)).cps.toList = z.cps.toList.take 1 := cut_to z 1
  have gd : ∀ i, z.cps.getD i 0 = z.cps.toList.getD i 0 := fun i => (PyProof.Rows.getD_list z i).symm
  have len1 : ((cutS z (some 1) none).length : Int) = ((z.cps.toList.drop 1).length : Int) := by rw [← c1]; rfl
  have lenz : (z.length : Int) = (z.cps.toList.length : Int) := rfl
  unfold hiddenT hiddenZ signAt
  rw [c1, gd 0, gd 1, len1, lenz]
  have e1 : decide (V.str (cutS z none (some 1)) = .str ".") = decide (z.cps.toList.take 1 = [46]) := by
    refine decide_eq_decide.mpr ⟨fun h => ?_, fun h => ?_⟩
    · have := congrArg (fun a : Str => a.cps.toList) (V.str.inj h)
      rw [← c2]
      exact this
    · have : (cutS z none (some 1)) = (".": Str) := str_of_list (by rw [c2, h]; rfl)
      rw [this]
  have e2 : decide (V.str (cutS z (some 1) none) = .str "0") = decide (z.cps.toList.drop 1 = [48]) := by
    refine decide_eq_decide.mpr ⟨fun h => ?_, fun h => ?_⟩
    · have := congrArg (fun a : Str => a.cps.toList) (V.str.inj h)
      rw [← c1]
      exact this
    · have : (cutS z (some 1) none) = ("0": Str) := str_of_list (by rw [c1, h]; rfl)
      rw [this]
  have e3 : ∀ (c d : Nat) (s : Str), s = sg d → decide (V.str ⟨#[c]⟩ = .str s) = decide (c = d) := fun c d s hs => by
    subst hs
    refine decide_eq_decide.mpr ⟨fun h => ?_, fun h => by rw [h]; rfl⟩
    have := congrArg (fun a : Str => a.cps.toList) (V.str.inj h)
    simpa [sg] using this
  rw [e1, e2, e3 _ 46 "." rfl, e3 _ 48 "0" rfl]
  show _ = _
  have e4 : decide (V.str (sg ((z.cps.toList.drop 1).getD 0 0)) = .str "0") = decide ((z.cps.toList.drop 1).getD 0 0 = 48) := e3 _ 48 "0" rfl
  rw [e4]
  have e5 : decide (V.int (z.cps.toList.length : Int) = .int 2) = decide (z.cps.toList.length = 2) := decide_eq_decide.mpr ⟨fun h => by have := V.int.inj h; omega, fun h => by rw [h]; rfl⟩
  rw [e5]
  generalize z.cps.toList = cs
  match cs with
  | [] => rfl
  | [a] => simp
  | a :: b :: r =>
    have f1 : (decide ((b :: r).filter (fun c => !digC c) = [])) = (b :: r).all digC := by
      rw [Bool.eq_iff_iff]
      simp only [decide_eq_true_eq, List.filter_eq_nil_iff, List.all_eq_true, Bool.not_eq_true', Bool.not_eq_false]
    have g1 : (a :: b :: r).drop 1 = b :: r := rfl
    have g2 : (a :: b :: r).take 1 = [a] := rfl
    have g3 : (a :: b :: r).getD 0 0 = a := rfl
    have g4 : (a :: b :: r).getD 1 0 = b := rfl
    have g5 : (b :: r).getD 0 0 = b := rfl
    rw [g1, g2, g3, g4, g5, f1]
    have h1 : decide ([a] = [46]) = decide (a = 46) := decide_eq_decide.mpr ⟨fun h => by injection h, fun h => by rw [h]⟩
    have h2 : decide (1 ≤ (((b :: r).length : Nat) : Int)) = true := decide_eq_true (by simp only [List.length_cons]; omega)
    have h3 : decide ((((b :: r).length : Nat) : Int) ≤ 6) = decide ((((a :: b :: r).length : Nat) : Int) ≤ 7) := decide_eq_decide.mpr (by simp only [List.length_cons]; omega)
    have h4 : decide (2 ≤ (((a :: b :: r).length : Nat) : Int)) = true := decide_eq_true (by simp only [List.length_cons]; omega)
    have h5 : decide (b :: r = [48]) = (decide (b = 48) && decide ((a :: b :: r).length = 2)) := by
      rw [Bool.eq_iff_iff]
      simp only [decide_eq_true_eq, Bool.and_eq_true]
      constructor
      · intro h
        injection h with h h'
        rw [h, h']
        exact ⟨rfl, rfl⟩
      · rintro ⟨rfl, h⟩
        cases r with
        | nil => rfl
        | cons c r => simp at h
    rw [h1, h2, h3, h4, h5]
    generalize decide (a = 46) = A
    generalize decide ((((a :: b :: r).length : Nat) : Int) ≤ 7) = B
    generalize (b :: r).all digC = C
    generalize decide (b = 48) = D
    generalize decide ((a :: b :: r).length = 2) = E
    revert A B C D E
    decide
end Kb
set_option Elab.async false
set_option linter.all false
set_option maxRecDepth 100000
set_option maxHeartbeats 4000000
namespace Kb
open PySem PySem.Spec PyProof.Rows L2 Evl
/-- a text of plain signs, not long -/
structure Txt8 (z : Str) : Prop where
  len : z.length ≤ 40000
  ok : ∀ c ∈ z.cps.toList, c < 0x110000
def spWords (K : PySem.W.Frag) : Sp := fun vs H Q _ => vs = [] ∧ ∀ p H', H p = none → Ex H H' → H' p = some (.lst (wordsL.map V.str)) → Q (.ref p) H'
def spTxt (m : Str → Bool) : Sp := fun vs H Q _ => ∃ z, vs = [.str z] ∧ Txt8 z ∧ ∀ H', Ex H H' → Q (.bl (m z)) H'
theorem spTxt_v {m : Str → Bool} {z : Str} {H : Hp} (h : Txt8 z) : SpV (spTxt m) [.str z] H (.bl (m z)) := fun H1 e Q q E => ⟨z, rfl, h, q⟩
section
variable {P : Program} {w : World} {K : PySem.W.Frag} {mg : Str → Option Value} {base : Heap} {H : Hp} {v : V} {d : PyData} {σ : L2.St} {te ta tb : TE} {C BR BN : Addr} {f : Addr} {fd : FuncData}
theorem cut_txt {z : Str} (h : Txt8 z) (lo hi : Option Int) : Txt8 (cutS z lo hi) := by
  refine ⟨Nat.le_trans (cutS_length z lo hi) h.len, fun c hc => h.ok c ?_⟩
  unfold cutS at hc
  simp only at hc
  exact List.mem_of_mem_drop (List.mem_of_mem_take hc)
/-- each once, ascending: of numbers, of texts -/
def spUnlike (K : PySem.W.Frag) : Sp := fun vs H Q _ => ∃ p, vs = [.ref p] ∧ ((∃ ns : List Int, SqL K H p (ns.map V.int) ∧ ns.length ≤ 30000 ∧ ∀ l H', H l = none → Ex H H' → H' l = some (.lst ((uniqI ns).map V.int)) → Q (.ref l) H') ∨
  ∃ zs : List Str, SqL K H p (zs.map V.str) ∧ zs.length < 64 ∧ ∀ (ys : List Str) l H', (∀ x, x ∈ ys ↔ x ∈ zs) → ys.length ≤ zs.length → ys.Pairwise (fun a b => leS a b ∧ a ≠ b) → H l = none → Ex H H' → H' l = some (.lst (ys.map V.str)) → Q (.ref l) H')
theorem pw_sortedS : ∀ ys : List Str, sortedS ys = true → ys.Pairwise leS := by
  have step : ∀ (x : Str) (r : List Str), risingS x r = true → r.Pairwise leS ∧ ∀ y ∈ r, leS x y := by
    intro x r
    induction r generalizing x with
    | nil => exact fun _ => ⟨.nil, fun _ h => nomatch h⟩
    | cons y r ih =>
      intro h
      have h' : (!ltCps y.cps.toList x.cps.toList && risingS y r) = true := h
      rw [Bool.and_eq_true, Bool.not_eq_true'] at h'
      obtain ⟨a, b⟩ := ih y h'.2
      have hxy : leS x y := by
        have z := h'.1
        rw [PyProof.Rows.ltCps_eq] at z
        exact of_decide_eq_false z
      refine ⟨List.pairwise_cons.mpr ⟨b, a⟩, fun w hw => ?_⟩
      rcases List.mem_cons.mp hw with rfl | hw
      · exact hxy
      · exact (List.le_trans (show x.cps.toList ≤ y.cps.toList from hxy) (show y.cps.toList ≤ w.cps.toList from b w hw) : x.cps.toList ≤ w.cps.toList)
  intro ys h
  cases ys with
  | nil => exact .nil
  | cons x r =>
    obtain ⟨a, b⟩ := step x r h
    exact List.pairwise_cons.mpr ⟨b, a⟩
/-- the law's comprehension over a sorted list -/
theorem ev_adj {α : Type} [DecidableEq α] (f : α → V) (finj : ∀ a b, f a = f b → a = b) (fs : ∀ a b, scal (f a) (f b) = true) {p0 p : Addr} (xs : List α) (x0 : α) {H : Hp} (hl : SqL K H p (xs.map f)) (hz : xs.length ≤ 30000) {tt : TT}
    (ht : ∀ i : Nat, ∀ H1, Ex H H1 → i < xs.length → EvT tt [some (.ref p0), some (.ref p), some (.int (i : Int))] H1 (adjF xs x0 i)) :
    EvL (tLc (iRng1 (tCons (tCB (rLen K) (tCons (tVar 1) tNil)) tNil)) (gName 2) tt (tOp (rIx K) (tVar 1) (tVar 2)) [2]) [some (.ref p0), some (.ref p), none] H ((adjL xs x0).map f) := by
  refine el_is (el_lcR (n := (xs.length : Int)) (adjF xs x0) (fun i => f (xs.getD i x0)) (ea_cons (ev_is (ev_lenL (ev_var rfl) hl) (by rw [List.length_map])) ea_nil) (by omega) (fun _ => rfl) (fun i H1 e hi => ht i H1 e (by omega)) (fun i H1 e hi _ => ?_) (by omega)) ?_
  · have hi2 : i < xs.length := by omega
    refine ev_op (ev_var rfl) (ev_var rfl) (rv_iL (ex_l e hl) (atI_nat ?_))
    rw [List.getElem?_map, List.getElem?_eq_getElem hi2]
    simp [hi2]
  · rw [Int.toNat_natCast]
    unfold given adjL
    rw [List.map_map]
    rfl
theorem ok_unlike (B : Bi mg) (D : Df K mg "_law_unlike" s__law_unlike ["row"]) : Gv P w K mg base CX0 1 "_law_unlike" ["row"] (spUnlike K) := by
  have nd := sc__law_unlike.nd
  refine D.gv sc__law_unlike (fun vs H Q E h => ?_) (fun f cdv A outer s H vs Q E hr h => ?_)
  · obtain ⟨p, rfl, _⟩ := h
    rfl
  have hu64 := hu64_of hr
  refine ⟨_, (pss_cons (ps_set (i := 1) nd rfl (.inr rfl) (pe_callB (r := rSortA K) (callA_sorted rfl) rfl B.sorted (by decide +kernel) (pa_cons (pv 0) pa_nil)))
    (pss_one (ps_ret (pe_lc (own := [("at", 2)]) rfl nd (pi_range1 rfl B.range (pa_cons (pe_callB (r := rLen K) callA_len rfl B.len (by decide +kernel) (pa_cons (pv 1) pa_nil)) pa_nil)) (blk_ok (by kernel_rfl)) (fun _ _ _ _ _ => (pg_name (i := 2) nd rfl (.inl rfl))) (fun _ _ _ _ _ => (pts_one (PW.pt (pw_or (pt_cmpR (r := rEqA K) (opA_eq hu64) (pv 2) pe_int (nomark _)) (pw_or1 (pt_cmpR (r := rNeA K) (opA_ne hu64) (pe_ix (r := rIx K) ix_seq (pv 1) (pv 2) (fun _ _ => rfl)) (pe_ix (r := rIx K) ix_seq (pv 1) (pe_op op_sub (pv 2) pe_int) (fun _ _ => rfl)) (nomark _))))))) (fun _ _ _ _ _ => (pe_ix (r := rIx K) ix_seq (pv 1) (pv 2) (fun _ _ => rfl))))))), ?_⟩
  obtain ⟨p, rfl, h⟩ := h
  -- the test of a turn
  have test : ∀ {α : Type} [DecidableEq α] (f : α → V) (finj : ∀ a b, f a = f b → a = b) (fs : ∀ a b, scal (f a) (f b) = true) {q : Addr} (xs : List α) (x0 : α) {H : Hp} (hl : SqL K H q (xs.map f)), ∀ i : Nat, ∀ H1, Ex H H1 → i < xs.length →
      EvT (tOr (tTest (tOp (rEqA K) (tVar 2) (tC (.int 0)))) (tTest (tOp (rNeA K) (tOp (rIx K) (tVar 1) (tVar 2)) (tOp (rIx K) (tVar 1) (tOp (rI0 fun i j => .int (i - j)) (tVar 2) (tC (.int 1))))))) [some (.ref p), some (.ref q), some (.int (i : Int))] H1 (adjF xs x0 i) := by
    intro α _ f finj fs q xs x0 H hl i H1 e hi
    unfold adjF
    have gi : ∀ k, k < xs.length → atI (xs.map f) (k : Int) = some (f (xs.getD k x0)) := fun k hk => atI_nat (by rw [List.getElem?_map, List.getElem?_eq_getElem hk]; simp [hk])
    refine et_or (et_test (ev_is (ev_op (ev_var rfl) ev_c (rv_eqs rfl)) ?_)) (fun b => et_test (ev_is (ev_op (x := f (xs.getD i x0)) (y := f (xs.getD (i - 1) x0)) (ev_op (ev_var rfl) (ev_var rfl) (rv_iL (ex_l e hl) (gi i hi))) (ev_op (ev_var rfl) (ev_op (ev_var rfl) ev_c rv_I0) (rv_iL (ex_l e hl) ?_)) (rv_nes (fs _ _))) ?_))
    · exact congrArg V.bl (decide_eq_decide.mpr ⟨fun h => by have := V.int.inj h; omega, fun h => by rw [h]; rfl⟩)
    · have hi0 : i ≠ 0 := of_decide_eq_false b
      rw [show (i : Int) - 1 = ((i - 1 : Nat) : Int) by omega]
      exact gi (i - 1) (by omega)
    · refine congrArg (fun b => V.bl (!b)) (decide_eq_decide.mpr ⟨fun h => finj _ _ h, fun h => by rw [h]⟩)
  rcases h with ⟨ns, hl, hz, hQ⟩ | ⟨zs, hl, hz, hQ⟩
  · refine q_asgL (el_sortI (zs := srtI ns) (ev_var rfl) hl (srt_perm ns) (srt_le ns)) (fun q H1 hq e1 h1 => ?_)
    have hn : (srtI ns).length = ns.length := (srt_perm ns).length_eq
    refine s_retL (ev_adj V.int (fun a b h => V.int.inj h) (fun _ _ => rfl) (p0 := p) (p := q) (srtI ns) 0 (sq_of h1) (by omega) (test V.int (fun a b h => V.int.inj h) (fun _ _ => rfl) (srtI ns) 0 (sq_of h1))) (fun l H2 hl2 e2 h2 => ?_)
    rw [adj_srt] at h2
    exact hQ l H2 (fresh_back e1 hl2) (e1.trans e2) h2
  · refine (ev_var (σ := [some (.ref p), none, none]) (i := 0) rfl) H (Ex.refl H) _ fun H0 e0 => .inr (.inl ⟨p, zs, rfl, ex_l e0 hl, hz, fun ys q hperm hsort hq => ?_⟩)
    have hn : ys.length = zs.length := hperm.length_eq
    have h1 : upd H0 q (.lst (ys.map V.str)) q = some (.lst (ys.map V.str)) := upd_same
    have e1 := e0.trans (Ex.new (o := .lst (ys.map V.str)) hq)
    refine s_retL (ev_adj V.str (fun a b h => V.str.inj h) (fun _ _ => rfl) (p0 := p) (p := q) ys "" (sq_of h1) (by omega) (test V.str (fun a b h => V.str.inj h) (fun _ _ => rfl) ys "" (sq_of h1))) (fun l H2 hl2 e2 h2 => ?_)
    exact hQ _ l H2 (fun x => by rw [adj_mem, hperm.mem_iff]) (by
      unfold adjL
      rw [List.length_map, ← hn]
      refine Nat.le_trans (List.length_filter_le _ _) (by simp)) (adj_lt ("" : Str) leS leS_anti (pw_sortedS ys hsort)) (fresh_back e1 hl2) (e1.trans e2) h2
end
end Kb
set_option Elab.async false
set_option linter.all false
set_option maxRecDepth 100000
set_option maxHeartbeats 8000000
namespace Kb
open PySem PySem.Spec PyProof.Rows L2 L2H LamX Evl
/-! ### the law's catch: which error it was, its fields (printed by gen_caught.py) -/
structure KX (K : PySem.W.Frag) (mg : Str → Option Value) (HE : Addr) (cA : Nat → Addr) : Prop where
  iso : ∀ j i, j < 8 → i < 8 → PySem.W.kitOne K (.ref (cA j)) (.ref (cA i)) = some (decide (j = i))
  ex : ∀ j, j < 8 → ExcC K (cA j)
  xf : ∀ j, j < 8 → XfC K (cA j)
  te : ∀ j, j < 8 → PySem.W.exmOne K (.ref (cA j)) (.ref HE) = some true
  gHE : mg "HeapError" = some (.ref HE)
  g0 : mg "BadName" = some (.ref (cA 0))
  n0name : PySem.W.findIn K (.ref (cA 0)) "name" = some none
  g1 : mg "BadNumber" = some (.ref (cA 1))
  n1what : PySem.W.findIn K (.ref (cA 1)) "what" = some none
  n1number : PySem.W.findIn K (.ref (cA 1)) "number" = some none
  g2 : mg "BadRow" = some (.ref (cA 2))
  n2what : PySem.W.findIn K (.ref (cA 2)) "what" = some none
  n2row : PySem.W.findIn K (.ref (cA 2)) "row" = some none
  g3 : mg "NoName" = some (.ref (cA 3))
  n3name : PySem.W.findIn K (.ref (cA 3)) "name" = some none
  g4 : mg "TakenName" = some (.ref (cA 4))
  n4name : PySem.W.findIn K (.ref (cA 4)) "name" = some none
  g5 : mg "TooMany" = some (.ref (cA 5))
  n5what : PySem.W.findIn K (.ref (cA 5)) "what" = some none
  n5many : PySem.W.findIn K (.ref (cA 5)) "many" = some none
  n5limit : PySem.W.findIn K (.ref (cA 5)) "limit" = some none
  g6 : mg "Unlike" = some (.ref (cA 6))
  n6what : PySem.W.findIn K (.ref (cA 6)) "what" = some none
  g7 : mg "BadText" = some (.ref (cA 7))
  n7line : PySem.W.findIn K (.ref (cA 7)) "line" = some none
  n7word : PySem.W.findIn K (.ref (cA 7)) "word" = some none
/-- the items of what is told -/
def Fo (c : Nat) (fs : List (Str × V)) (xs : List V) : Prop := match c with
  | 0 => ∃ v0, fs.lookup ("name" : Str) = some v0 ∧ xs = [.str "name", v0]
  | 1 => ∃ v0 v1, fs.lookup ("what" : Str) = some v0 ∧ fs.lookup ("number" : Str) = some v1 ∧ xs = [.str "number", v0, v1]
  | 2 => ∃ v0 v1, fs.lookup ("what" : Str) = some v0 ∧ fs.lookup ("row" : Str) = some v1 ∧ xs = [.str "row", v0, v1]
  | 3 => ∃ v0, fs.lookup ("name" : Str) = some v0 ∧ xs = [.str "noname", v0]
  | 4 => ∃ v0, fs.lookup ("name" : Str) = some v0 ∧ xs = [.str "taken", v0]
  | 5 => ∃ v0 v1 v2, fs.lookup ("what" : Str) = some v0 ∧ fs.lookup ("many" : Str) = some v1 ∧ fs.lookup ("limit" : Str) = some v2 ∧ xs = [.str "many", v0, v1, v2]
  | 6 => ∃ v0, fs.lookup ("what" : Str) = some v0 ∧ xs = [.str "unlike", v0]
  | 7 => ∃ v0 v1, fs.lookup ("line" : Str) = some v0 ∧ fs.lookup ("word" : Str) = some v1 ∧ xs = [.str "text", v0, v1]
  | _ => False
/-- it raises an error of the c-th class with the fields fs -/
def Rses (tl : Hp → VK → XK → Prop) (H : Hp) (C : Addr) (fs : List (Str × V)) : Prop := ∀ (Q : VK) (E : XK), Rs E H C fs → tl H Q E
def spCaught (P : Program) (w : World) (K : PySem.W.Frag) (mg : Str → Option Value) (base : Heap) (k : Nat) (cA : Nat → Addr) : SpZ := fun s fr vs H Q => ∃ f tl c fs xs, vs = [.ref f] ∧ LamAt P w K mg base k fr s H f tl ∧ c < 8 ∧ Rses tl H (cA c) fs ∧ Fo c fs xs ∧
  ∀ t H', Ex H H' → H' t = some (.tup xs) → Q (.ref t) H'
section
variable {K : PySem.W.Frag} {σ : L2.St} {H : Hp} {te : TE} {a : Addr} {cls : Value} {d : Option Addr} {v : V} {f : Str} {fs : List (Str × V)} {C D dd : Addr} {b : Bool}
theorem ev_isP (hv : Ev te σ H (.ref a)) (hC : ExcC K D) (hk : PySem.W.kitOne K (.ref D) (.ref C) = some b) (hx : XdAt H d) : Ev (tCB (rIsP K a (.ref D) d) (tCons te (tCons (tC (.ref C)) tNil))) σ H (.bl b) := fun H1 e1 Q q =>
  hv H1 e1 _ fun H2 e2 => ⟨D, .ref C, .ref C, b, rfl, hC, rfl, (fun u h => h), hk, hx.same (e1.trans e2), q H2 e2⟩
theorem ev_xp (hv : Ev te σ H (.ref a)) (T : XfC K C) (hn : PySem.W.findIn K (.ref C) f = some none) (hx : H dd = some (.xd fs)) (hl : fs.lookup f = some v) : Ev (tXp K a (.ref C) (some dd) f te) σ H v := fun H1 e1 Q q =>
  hv H1 e1 _ fun H2 e2 => ⟨rfl, C, dd, fs, v, rfl, T, hn, rfl, (e1.trans e2) _ _ hx, hl, q H2 e2⟩
theorem un_more {fr : List Addr} {H H1 : Hp} {h h1 : Heap} {L : Addr} (u : Un fr [] H H1 h h1) (hL : h.get? L = none) : Un (L :: fr) [] H H1 h h1 :=
  ⟨fun b o e n hb hx => u.keep b o e n (fun z => hb (List.mem_cons_of_mem _ z)) hx, fun b o e n hb hx => (List.mem_cons.mp hb).elim (fun z => by rw [z, hL] at e; cases e) (fun z => u.slot b o e n z hx), u.free, u.there, u.tups, u.frzs, u.tbls⟩
end
section
variable {P : Program} {w : World} {K : PySem.W.Frag} {mg : Str → Option Value} {base : Heap} {HE : Addr} {cA : Nat → Addr} {k : Nat}
theorem ok_caught (B : Bi mg) (T : KX K mg HE cA) (D : Df K mg "_law_caught" s__law_caught ["action"]) : Gz P w K mg base (k + 1) "_law_caught" ["action"] (spCaught P w K mg base k cA) := by
  have nd := sc__law_caught.nd
  refine D.gz sc__law_caught (fun s fr vs H Q h => ?_) (fun f0 cdv A outer s H vs Q hr hgd h => ?_)
  · obtain ⟨f, tl, c, fs, xs, rfl, _⟩ := h
    rfl
  have hu64 := hu64_of hr
  refine ⟨_, pss_cons (ps_try_as (i := 1) (c := .ref HE) rfl rfl nd rfl rfl ⟨rfl, by decide, .inl T.gHE⟩ L2.takes0 (fun W pn xe tk _ => pss_one (ps_expr (pe_actZ (P := P) (w := w) (K := K) (mg := mg) (base := base) (fr0 := frs outer) (fr := s.heap.objs.size :: frs outer) (s0 := s) (H0 := H) (k := k) (i := 0) (E := fun σ => WE W σ) rfl rfl rfl rfl rfl rfl rfl rfl rfl rfl (fun σ => passAt tk σ) hr rfl (Or.inl rfl))))
    (fun a oe cls d pn hz hf => by exact (pss_cons (ps_set (i := 2) nd rfl (.inl rfl) (pe_lst pa_nil))
      (pss_cons (ps_if (pt_val (pe_callB (id := "isinstance") (r := rIsP K a cls d) (call_isP (a := a) (oe := oe) (d := d) List.mem_cons_self hz hf) rfl B.isi (by decide +kernel) (pa_cons (pv 1) (pa_cons (pe_glob (v := .ref (cA 0)) rfl T.g0 rfl) pa_nil)))) (pss_one (ps_expr (pe_bmK (K := K) rfl PySem.F.plainAttrs_list PySem.F.slot_list_append PySem.F.type_list_append mt_append (pv 2) (pa_cons (pe_tup (pa_cons pe_str (pa_cons (pe_xpK (K := K) rfl (a := a) (d := d) List.mem_cons_self hz hf (pv 1)) pa_nil))) pa_nil)))) pss_nil)
      (pss_cons (ps_if (pt_val (pe_callB (id := "isinstance") (r := rIsP K a cls d) (call_isP (a := a) (oe := oe) (d := d) List.mem_cons_self hz hf) rfl B.isi (by decide +kernel) (pa_cons (pv 1) (pa_cons (pe_glob (v := .ref (cA 1)) rfl T.g1 rfl) pa_nil)))) (pss_one (ps_expr (pe_bmK (K := K) rfl PySem.F.plainAttrs_list PySem.F.slot_list_append PySem.F.type_list_append mt_append (pv 2) (pa_cons (pe_tup (pa_cons pe_str (pa_cons (pe_xpK (K := K) rfl (a := a) (d := d) List.mem_cons_self hz hf (pv 1)) (pa_cons (pe_xpK (K := K) rfl (a := a) (d := d) List.mem_cons_self hz hf (pv 1)) pa_nil)))) pa_nil)))) pss_nil)
      (pss_cons (ps_if (pt_val (pe_callB (id := "isinstance") (r := rIsP K a cls d) (call_isP (a := a) (oe := oe) (d := d) List.mem_cons_self hz hf) rfl B.isi (by decide +kernel) (pa_cons (pv 1) (pa_cons (pe_glob (v := .ref (cA 2)) rfl T.g2 rfl) pa_nil)))) (pss_one (ps_expr (pe_bmK (K := K) rfl PySem.F.plainAttrs_list PySem.F.slot_list_append PySem.F.type_list_append mt_append (pv 2) (pa_cons (pe_tup (pa_cons pe_str (pa_cons (pe_xpK (K := K) rfl (a := a) (d := d) List.mem_cons_self hz hf (pv 1)) (pa_cons (pe_xpK (K := K) rfl (a := a) (d := d) List.mem_cons_self hz hf (pv 1)) pa_nil)))) pa_nil)))) pss_nil)
      (pss_cons (ps_if (pt_val (pe_callB (id := "isinstance") (r := rIsP K a cls d) (call_isP (a := a) (oe := oe) (d := d) List.mem_cons_self hz hf) rfl B.isi (by decide +kernel) (pa_cons (pv 1) (pa_cons (pe_glob (v := .ref (cA 3)) rfl T.g3 rfl) pa_nil)))) (pss_one (ps_expr (pe_bmK (K := K) rfl PySem.F.plainAttrs_list PySem.F.slot_list_append PySem.F.type_list_append mt_append (pv 2) (pa_cons (pe_tup (pa_cons pe_str (pa_cons (pe_xpK (K := K) rfl (a := a) (d := d) List.mem_cons_self hz hf (pv 1)) pa_nil))) pa_nil)))) pss_nil)
      (pss_cons (ps_if (pt_val (pe_callB (id := "isinstance") (r := rIsP K a cls d) (call_isP (a := a) (oe := oe) (d := d) List.mem_cons_self hz hf) rfl B.isi (by decide +kernel) (pa_cons (pv 1) (pa_cons (pe_glob (v := .ref (cA 4)) rfl T.g4 rfl) pa_nil)))) (pss_one (ps_expr (pe_bmK (K := K) rfl PySem.F.plainAttrs_list PySem.F.slot_list_append PySem.F.type_list_append mt_append (pv 2) (pa_cons (pe_tup (pa_cons pe_str (pa_cons (pe_xpK (K := K) rfl (a := a) (d := d) List.mem_cons_self hz hf (pv 1)) pa_nil))) pa_nil)))) pss_nil)
      (pss_cons (ps_if (pt_val (pe_callB (id := "isinstance") (r := rIsP K a cls d) (call_isP (a := a) (oe := oe) (d := d) List.mem_cons_self hz hf) rfl B.isi (by decide +kernel) (pa_cons (pv 1) (pa_cons (pe_glob (v := .ref (cA 5)) rfl T.g5 rfl) pa_nil)))) (pss_one (ps_expr (pe_bmK (K := K) rfl PySem.F.plainAttrs_list PySem.F.slot_list_append PySem.F.type_list_append mt_append (pv 2) (pa_cons (pe_tup (pa_cons pe_str (pa_cons (pe_xpK (K := K) rfl (a := a) (d := d) List.mem_cons_self hz hf (pv 1)) (pa_cons (pe_xpK (K := K) rfl (a := a) (d := d) List.mem_cons_self hz hf (pv 1)) (pa_cons (pe_xpK (K := K) rfl (a := a) (d := d) List.mem_cons_self hz hf (pv 1)) pa_nil))))) pa_nil)))) pss_nil)
      (pss_cons (ps_if (pt_val (pe_callB (id := "isinstance") (r := rIsP K a cls d) (call_isP (a := a) (oe := oe) (d := d) List.mem_cons_self hz hf) rfl B.isi (by decide +kernel) (pa_cons (pv 1) (pa_cons (pe_glob (v := .ref (cA 6)) rfl T.g6 rfl) pa_nil)))) (pss_one (ps_expr (pe_bmK (K := K) rfl PySem.F.plainAttrs_list PySem.F.slot_list_append PySem.F.type_list_append mt_append (pv 2) (pa_cons (pe_tup (pa_cons pe_str (pa_cons (pe_xpK (K := K) rfl (a := a) (d := d) List.mem_cons_self hz hf (pv 1)) pa_nil))) pa_nil)))) pss_nil)
      (pss_cons (ps_if (pt_val (pe_callB (id := "isinstance") (r := rIsP K a cls d) (call_isP (a := a) (oe := oe) (d := d) List.mem_cons_self hz hf) rfl B.isi (by decide +kernel) (pa_cons (pv 1) (pa_cons (pe_glob (v := .ref (cA 7)) rfl T.g7 rfl) pa_nil)))) (pss_one (ps_expr (pe_bmK (K := K) rfl PySem.F.plainAttrs_list PySem.F.slot_list_append PySem.F.type_list_append mt_append (pv 2) (pa_cons (pe_tup (pa_cons pe_str (pa_cons (pe_xpK (K := K) rfl (a := a) (d := d) List.mem_cons_self hz hf (pv 1)) (pa_cons (pe_xpK (K := K) rfl (a := a) (d := d) List.mem_cons_self hz hf (pv 1)) pa_nil)))) pa_nil)))) pss_nil)
      (pss_one (ps_ret (pe_ifExp (pt_cmpR (r := rEqA K) (opA_eq hu64) (pe_callB (r := rLen K) callA_len rfl B.len (by decide +kernel) (pa_cons (pv 2) pa_nil)) pe_int (nomark _)) (pe_ix (r := rIx K) ix_seq (pv 2) pe_int (fun _ _ => rfl)) (pe_tup (pa_cons pe_str pa_nil))))))))))))))))
    (pss_one (ps_ret (pe_tup (pa_cons pe_str pa_nil)))), ?_⟩
  obtain ⟨f, tl, c, fs, xs, rfl, hl, hc, hraise, hFo, hQ⟩ := h
  have hL : s.heap.get? s.heap.objs.size = none := Heap.get?_none_of_le (Nat.le_refl _)
  refine ⟨f, tl, rfl, fun s1 u1 => (hl.deeper hL).move (Ex.refl H) (un_more u1 hL), hraise _ _ fun d H1 hd e1 hx => ⟨true, T.te c hc, fun _ a ha => ?_, fun z => nomatch z⟩⟩
  have hx1 : XdAt H1 (some d) := .inr ⟨d, fs, rfl, hx⟩
  refine q_asgL (el_lst ea_nil (Nat.zero_le _)) (fun l H2 hl2 e2 h2 => ?_)
  match c, hc, hFo with
  | 0, hc, hFo =>
    obtain ⟨v0, l0, rfl⟩ := hFo
    refine q_when (b := true) (et_B (ev_isP (ev_var rfl) (T.ex 0 hc) (T.iso 0 0 hc (by decide)) (hx1.same (e2.trans (Ex.refl H2))))) (fun _ H3 e3 => ?_) (fun z => nomatch z)
    refine s_appU (xs := []) (((Ex.refl H2).trans e3) _ _ h2) (ev_var rfl) (eu_tup (ea_cons ev_c (ea_cons (ev_xp (ev_var rfl) (T.xf 0 hc) T.n0name (((Ex.refl H2).trans e3) _ _ (e2 _ _ hx)) l0) ea_nil)) (show 2 ≤ 100000 by decide)) (by decide) (fun t H4 ht e4 h4 => ?_)
    have hd5 : Ex H1 (upd H4 l (.lst ([] ++ [.ref t]))) := (e2.trans (((Ex.refl H2).trans e3).trans e4)).mut hl2
    have hl5 : upd H4 l (.lst ([] ++ [.ref t])) l = some (.lst [.ref t]) := upd_same
    have tl5 : t ≠ l := fun z => by rw [z, (((Ex.refl H2).trans e3) _ _ h2)] at ht; cases ht
    have ht5 : upd H4 l (.lst ([] ++ [.ref t])) t = some (.tup _) := (upd_ne tl5).trans h4
    revert hd5 hl5 ht5
    generalize upd H4 l (.lst ([] ++ [.ref t])) = G
    intro hd5 hl5 ht5
    refine q_when (b := false) (et_B (ev_isP (ev_var rfl) (T.ex 0 hc) (T.iso 0 1 hc (by decide)) (hx1.same (hd5.trans (Ex.refl G))))) (fun z => nomatch z) (fun _ H5 e5 => ?_)
    refine q_when (b := false) (et_B (ev_isP (ev_var rfl) (T.ex 0 hc) (T.iso 0 2 hc (by decide)) (hx1.same (hd5.trans ((Ex.refl G).trans e5))))) (fun z => nomatch z) (fun _ H6 e6 => ?_)
    refine q_when (b := false) (et_B (ev_isP (ev_var rfl) (T.ex 0 hc) (T.iso 0 3 hc (by decide)) (hx1.same (hd5.trans (((Ex.refl G).trans e5).trans e6))))) (fun z => nomatch z) (fun _ H7 e7 => ?_)
    refine q_when (b := false) (et_B (ev_isP (ev_var rfl) (T.ex 0 hc) (T.iso 0 4 hc (by decide)) (hx1.same (hd5.trans ((((Ex.refl G).trans e5).trans e6).trans e7))))) (fun z => nomatch z) (fun _ H8 e8 => ?_)
    refine q_when (b := false) (et_B (ev_isP (ev_var rfl) (T.ex 0 hc) (T.iso 0 5 hc (by decide)) (hx1.same (hd5.trans (((((Ex.refl G).trans e5).trans e6).trans e7).trans e8))))) (fun z => nomatch z) (fun _ H9 e9 => ?_)
    refine q_when (b := false) (et_B (ev_isP (ev_var rfl) (T.ex 0 hc) (T.iso 0 6 hc (by decide)) (hx1.same (hd5.trans ((((((Ex.refl G).trans e5).trans e6).trans e7).trans e8).trans e9))))) (fun z => nomatch z) (fun _ H10 e10 => ?_)
    refine q_when (b := false) (et_B (ev_isP (ev_var rfl) (T.ex 0 hc) (T.iso 0 7 hc (by decide)) (hx1.same (hd5.trans (((((((Ex.refl G).trans e5).trans e6).trans e7).trans e8).trans e9).trans e10))))) (fun z => nomatch z) (fun _ H11 e11 => ?_)
    exact s_ret (ev_if (b := true) (et_test (ev_op (ev_lenL (ev_var rfl) (sq_of (((((((((Ex.refl G).trans e5).trans e6).trans e7).trans e8).trans e9).trans e10).trans e11) _ _ hl5))) ev_c (rv_eqs rfl))) (fun _ => ev_op (ev_var rfl) ev_c (rv_iL (sq_of (((((((((Ex.refl G).trans e5).trans e6).trans e7).trans e8).trans e9).trans e10).trans e11) _ _ hl5)) (i := 0) rfl)) (fun z => nomatch z)) (fun H12 e12 => hQ t H12 (e1.trans (hd5.trans (((((((((Ex.refl G).trans e5).trans e6).trans e7).trans e8).trans e9).trans e10).trans e11).trans e12))) ((((((((((Ex.refl G).trans e5).trans e6).trans e7).trans e8).trans e9).trans e10).trans e11).trans e12) _ _ ht5))
  | 1, hc, hFo =>
    obtain ⟨v0, v1, l0, l1, rfl⟩ := hFo
    refine q_when (b := false) (et_B (ev_isP (ev_var rfl) (T.ex 1 hc) (T.iso 1 0 hc (by decide)) (hx1.same (e2.trans (Ex.refl H2))))) (fun z => nomatch z) (fun _ H3 e3 => ?_)
    refine q_when (b := true) (et_B (ev_isP (ev_var rfl) (T.ex 1 hc) (T.iso 1 1 hc (by decide)) (hx1.same (e2.trans ((Ex.refl H2).trans e3))))) (fun _ H4 e4 => ?_) (fun z => nomatch z)
    refine s_appU (xs := []) ((((Ex.refl H2).trans e3).trans e4) _ _ h2) (ev_var rfl) (eu_tup (ea_cons ev_c (ea_cons (ev_xp (ev_var rfl) (T.xf 1 hc) T.n1what ((((Ex.refl H2).trans e3).trans e4) _ _ (e2 _ _ hx)) l0) (ea_cons (ev_xp (ev_var rfl) (T.xf 1 hc) T.n1number ((((Ex.refl H2).trans e3).trans e4) _ _ (e2 _ _ hx)) l1) ea_nil))) (show 3 ≤ 100000 by decide)) (by decide) (fun t H5 ht e5 h5 => ?_)
    have hd5 : Ex H1 (upd H5 l (.lst ([] ++ [.ref t]))) := (e2.trans ((((Ex.refl H2).trans e3).trans e4).trans e5)).mut hl2
    have hl5 : upd H5 l (.lst ([] ++ [.ref t])) l = some (.lst [.ref t]) := upd_same
    have tl5 : t ≠ l := fun z => by rw [z, ((((Ex.refl H2).trans e3).trans e4) _ _ h2)] at ht; cases ht
    have ht5 : upd H5 l (.lst ([] ++ [.ref t])) t = some (.tup _) := (upd_ne tl5).trans h5
    revert hd5 hl5 ht5
    generalize upd H5 l (.lst ([] ++ [.ref t])) = G
    intro hd5 hl5 ht5
    refine q_when (b := false) (et_B (ev_isP (ev_var rfl) (T.ex 1 hc) (T.iso 1 2 hc (by decide)) (hx1.same (hd5.trans (Ex.refl G))))) (fun z => nomatch z) (fun _ H6 e6 => ?_)
    refine q_when (b := false) (et_B (ev_isP (ev_var rfl) (T.ex 1 hc) (T.iso 1 3 hc (by decide)) (hx1.same (hd5.trans ((Ex.refl G).trans e6))))) (fun z => nomatch z) (fun _ H7 e7 => ?_)
    refine q_when (b := false) (et_B (ev_isP (ev_var rfl) (T.ex 1 hc) (T.iso 1 4 hc (by decide)) (hx1.same (hd5.trans (((Ex.refl G).trans e6).trans e7))))) (fun z => nomatch z) (fun _ H8 e8 => ?_)
    refine q_when (b := false) (et_B (ev_isP (ev_var rfl) (T.ex 1 hc) (T.iso 1 5 hc (by decide)) (hx1.same (hd5.trans ((((Ex.refl G).trans e6).trans e7).trans e8))))) (fun z => nomatch z) (fun _ H9 e9 => ?_)
    refine q_when (b := false) (et_B (ev_isP (ev_var rfl) (T.ex 1 hc) (T.iso 1 6 hc (by decide)) (hx1.same (hd5.trans (((((Ex.refl G).trans e6).trans e7).trans e8).trans e9))))) (fun z => nomatch z) (fun _ H10 e10 => ?_)
    refine q_when (b := false) (et_B (ev_isP (ev_var rfl) (T.ex 1 hc) (T.iso 1 7 hc (by decide)) (hx1.same (hd5.trans ((((((Ex.refl G).trans e6).trans e7).trans e8).trans e9).trans e10))))) (fun z => nomatch z) (fun _ H11 e11 => ?_)
    exact s_ret (ev_if (b := true) (et_test (ev_op (ev_lenL (ev_var rfl) (sq_of ((((((((Ex.refl G).trans e6).trans e7).trans e8).trans e9).trans e10).trans e11) _ _ hl5))) ev_c (rv_eqs rfl))) (fun _ => ev_op (ev_var rfl) ev_c (rv_iL (sq_of ((((((((Ex.refl G).trans e6).trans e7).trans e8).trans e9).trans e10).trans e11) _ _ hl5)) (i := 0) rfl)) (fun z => nomatch z)) (fun H12 e12 => hQ t H12 (e1.trans (hd5.trans ((((((((Ex.refl G).trans e6).trans e7).trans e8).trans e9).trans e10).trans e11).trans e12))) (((((((((Ex.refl G).trans e6).trans e7).trans e8).trans e9).trans e10).trans e11).trans e12) _ _ ht5))
  | 2, hc, hFo =>
    obtain ⟨v0, v1, l0, l1, rfl⟩ := hFo
    refine q_when (b := false) (et_B (ev_isP (ev_var rfl) (T.ex 2 hc) (T.iso 2 0 hc (by decide)) (hx1.same (e2.trans (Ex.refl H2))))) (fun z => nomatch z) (fun _ H3 e3 => ?_)
    refine q_when (b := false) (et_B (ev_isP (ev_var rfl) (T.ex 2 hc) (T.iso 2 1 hc (by decide)) (hx1.same (e2.trans ((Ex.refl H2).trans e3))))) (fun z => nomatch z) (fun _ H4 e4 => ?_)
    refine q_when (b := true) (et_B (ev_isP (ev_var rfl) (T.ex 2 hc) (T.iso 2 2 hc (by decide)) (hx1.same (e2.trans (((Ex.refl H2).trans e3).trans e4))))) (fun _ H5 e5 => ?_) (fun z => nomatch z)
    refine s_appU (xs := []) (((((Ex.refl H2).trans e3).trans e4).trans e5) _ _ h2) (ev_var rfl) (eu_tup (ea_cons ev_c (ea_cons (ev_xp (ev_var rfl) (T.xf 2 hc) T.n2what (((((Ex.refl H2).trans e3).trans e4).trans e5) _ _ (e2 _ _ hx)) l0) (ea_cons (ev_xp (ev_var rfl) (T.xf 2 hc) T.n2row (((((Ex.refl H2).trans e3).trans e4).trans e5) _ _ (e2 _ _ hx)) l1) ea_nil))) (show 3 ≤ 100000 by decide)) (by decide) (fun t H6 ht e6 h6 => ?_)
    have hd5 : Ex H1 (upd H6 l (.lst ([] ++ [.ref t]))) := (e2.trans (((((Ex.refl H2).trans e3).trans e4).trans e5).trans e6)).mut hl2
    have hl5 : upd H6 l (.lst ([] ++ [.ref t])) l = some (.lst [.ref t]) := upd_same
    have tl5 : t ≠ l := fun z => by rw [z, (((((Ex.refl H2).trans e3).trans e4).trans e5) _ _ h2)] at ht; cases ht
    have ht5 : upd H6 l (.lst ([] ++ [.ref t])) t = some (.tup _) := (upd_ne tl5).trans h6
    revert hd5 hl5 ht5
    generalize upd H6 l (.lst ([] ++ [.ref t])) = G
    intro hd5 hl5 ht5
    refine q_when (b := false) (et_B (ev_isP (ev_var rfl) (T.ex 2 hc) (T.iso 2 3 hc (by decide)) (hx1.same (hd5.trans (Ex.refl G))))) (fun z => nomatch z) (fun _ H7 e7 => ?_)
    refine q_when (b := false) (et_B (ev_isP (ev_var rfl) (T.ex 2 hc) (T.iso 2 4 hc (by decide)) (hx1.same (hd5.trans ((Ex.refl G).trans e7))))) (fun z => nomatch z) (fun _ H8 e8 => ?_)
    refine q_when (b := false) (et_B (ev_isP (ev_var rfl) (T.ex 2 hc) (T.iso 2 5 hc (by decide)) (hx1.same (hd5.trans (((Ex.refl G).trans e7).trans e8))))) (fun z => nomatch z) (fun _ H9 e9 => ?_)
    refine q_when (b := false) (et_B (ev_isP (ev_var rfl) (T.ex 2 hc) (T.iso 2 6 hc (by decide)) (hx1.same (hd5.trans ((((Ex.refl G).trans e7).trans e8).trans e9))))) (fun z => nomatch z) (fun _ H10 e10 => ?_)
    refine q_when (b := false) (et_B (ev_isP (ev_var rfl) (T.ex 2 hc) (T.iso 2 7 hc (by decide)) (hx1.same (hd5.trans (((((Ex.refl G).trans e7).trans e8).trans e9).trans e10))))) (fun z => nomatch z) (fun _ H11 e11 => ?_)
    exact s_ret (ev_if (b := true) (et_test (ev_op (ev_lenL (ev_var rfl) (sq_of (((((((Ex.refl G).trans e7).trans e8).trans e9).trans e10).trans e11) _ _ hl5))) ev_c (rv_eqs rfl))) (fun _ => ev_op (ev_var rfl) ev_c (rv_iL (sq_of (((((((Ex.refl G).trans e7).trans e8).trans e9).trans e10).trans e11) _ _ hl5)) (i := 0) rfl)) (fun z => nomatch z)) (fun H12 e12 => hQ t H12 (e1.trans (hd5.trans (((((((Ex.refl G).trans e7).trans e8).trans e9).trans e10).trans e11).trans e12))) ((((((((Ex.refl G).trans e7).trans e8).trans e9).trans e10).trans e11).trans e12) _ _ ht5))
  | 3, hc, hFo =>
    obtain ⟨v0, l0, rfl⟩ := hFo
    refine q_when (b := false) (et_B (ev_isP (ev_var rfl) (T.ex 3 hc) (T.iso 3 0 hc (by decide)) (hx1.same (e2.trans (Ex.refl H2))))) (fun z => nomatch z) (fun _ H3 e3 => ?_)
    refine q_when (b := false) (et_B (ev_isP (ev_var rfl) (T.ex 3 hc) (T.iso 3 1 hc (by decide)) (hx1.same (e2.trans ((Ex.refl H2).trans e3))))) (fun z => nomatch z) (fun _ H4 e4 => ?_)
    refine q_when (b := false) (et_B (ev_isP (ev_var rfl) (T.ex 3 hc) (T.iso 3 2 hc (by decide)) (hx1.same (e2.trans (((Ex.refl H2).trans e3).trans e4))))) (fun z => nomatch z) (fun _ H5 e5 => ?_)
    refine q_when (b := true) (et_B (ev_isP (ev_var rfl) (T.ex 3 hc) (T.iso 3 3 hc (by decide)) (hx1.same (e2.trans ((((Ex.refl H2).trans e3).trans e4).trans e5))))) (fun _ H6 e6 => ?_) (fun z => nomatch z)
    refine s_appU (xs := []) ((((((Ex.refl H2).trans e3).trans e4).trans e5).trans e6) _ _ h2) (ev_var rfl) (eu_tup (ea_cons ev_c (ea_cons (ev_xp (ev_var rfl) (T.xf 3 hc) T.n3name ((((((Ex.refl H2).trans e3).trans e4).trans e5).trans e6) _ _ (e2 _ _ hx)) l0) ea_nil)) (show 2 ≤ 100000 by decide)) (by decide) (fun t H7 ht e7 h7 => ?_)
    have hd5 : Ex H1 (upd H7 l (.lst ([] ++ [.ref t]))) := (e2.trans ((((((Ex.refl H2).trans e3).trans e4).trans e5).trans e6).trans e7)).mut hl2
    have hl5 : upd H7 l (.lst ([] ++ [.ref t])) l = some (.lst [.ref t]) := upd_same
    have tl5 : t ≠ l := fun z => by rw [z, ((((((Ex.refl H2).trans e3).trans e4).trans e5).trans e6) _ _ h2)] at ht; cases ht
    have ht5 : upd H7 l (.lst ([] ++ [.ref t])) t = some (.tup _) := (upd_ne tl5).trans h7
    revert hd5 hl5 ht5
    generalize upd H7 l (.lst ([] ++ [.ref t])) = G
    intro hd5 hl5 ht5
    refine q_when (b := false) (et_B (ev_isP (ev_var rfl) (T.ex 3 hc) (T.iso 3 4 hc (by decide)) (hx1.same (hd5.trans (Ex.refl G))))) (fun z => nomatch z) (fun _ H8 e8 => ?_)
    refine q_when (b := false) (et_B (ev_isP (ev_var rfl) (T.ex 3 hc) (T.iso 3 5 hc (by decide)) (hx1.same (hd5.trans ((Ex.refl G).trans e8))))) (fun z => nomatch z) (fun _ H9 e9 => ?_)
    refine q_when (b := false) (et_B (ev_isP (ev_var rfl) (T.ex 3 hc) (T.iso 3 6 hc (by decide)) (hx1.same (hd5.trans (((Ex.refl G).trans e8).trans e9))))) (fun z => nomatch z) (fun _ H10 e10 => ?_)
    refine q_when (b := false) (et_B (ev_isP (ev_var rfl) (T.ex 3 hc) (T.iso 3 7 hc (by decide)) (hx1.same (hd5.trans ((((Ex.refl G).trans e8).trans e9).trans e10))))) (fun z => nomatch z) (fun _ H11 e11 => ?_)
    exact s_ret (ev_if (b := true) (et_test (ev_op (ev_lenL (ev_var rfl) (sq_of ((((((Ex.refl G).trans e8).trans e9).trans e10).trans e11) _ _ hl5))) ev_c (rv_eqs rfl))) (fun _ => ev_op (ev_var rfl) ev_c (rv_iL (sq_of ((((((Ex.refl G).trans e8).trans e9).trans e10).trans e11) _ _ hl5)) (i := 0) rfl)) (fun z => nomatch z)) (fun H12 e12 => hQ t H12 (e1.trans (hd5.trans ((((((Ex.refl G).trans e8).trans e9).trans e10).trans e11).trans e12))) (((((((Ex.refl G).trans e8).trans e9).trans e10).trans e11).trans e12) _ _ ht5))
  | 4, hc, hFo =>
    obtain ⟨v0, l0, rfl⟩ := hFo
    refine q_when (b := false) (et_B (ev_isP (ev_var rfl) (T.ex 4 hc) (T.iso 4 0 hc (by decide)) (hx1.same (e2.trans (Ex.refl H2))))) (fun z => nomatch z) (fun _ H3 e3 => ?_)
    refine q_when (b := false) (et_B (ev_isP (ev_var rfl) (T.ex 4 hc) (T.iso 4 1 hc (by decide)) (hx1.same (e2.trans ((Ex.refl H2).trans e3))))) (fun z => nomatch z) (fun _ H4 e4 => ?_)
    refine q_when (b := false) (et_B (ev_isP (ev_var rfl) (T.ex 4 hc) (T.iso 4 2 hc (by decide)) (hx1.same (e2.trans (((Ex.refl H2).trans e3).trans e4))))) (fun z => nomatch z) (fun _ H5 e5 => ?_)
    refine q_when (b := false) (et_B (ev_isP (ev_var rfl) (T.ex 4 hc) (T.iso 4 3 hc (by decide)) (hx1.same (e2.trans ((((Ex.refl H2).trans e3).trans e4).trans e5))))) (fun z => nomatch z) (fun _ H6 e6 => ?_)
    refine q_when (b := true) (et_B (ev_isP (ev_var rfl) (T.ex 4 hc) (T.iso 4 4 hc (by decide)) (hx1.same (e2.trans (((((Ex.refl H2).trans e3).trans e4).trans e5).trans e6))))) (fun _ H7 e7 => ?_) (fun z => nomatch z)
    refine s_appU (xs := []) (((((((Ex.refl H2).trans e3).trans e4).trans e5).trans e6).trans e7) _ _ h2) (ev_var rfl) (eu_tup (ea_cons ev_c (ea_cons (ev_xp (ev_var rfl) (T.xf 4 hc) T.n4name (((((((Ex.refl H2).trans e3).trans e4).trans e5).trans e6).trans e7) _ _ (e2 _ _ hx)) l0) ea_nil)) (show 2 ≤ 100000 by decide)) (by decide) (fun t H8 ht e8 h8 => ?_)
    have hd5 : Ex H1 (upd H8 l (.lst ([] ++ [.ref t]))) := (e2.trans (((((((Ex.refl H2).trans e3).trans e4).trans e5).trans e6).trans e7).trans e8)).mut hl2
    have hl5 : upd H8 l (.lst ([] ++ [.ref t])) l = some (.lst [.ref t]) := upd_same
    have tl5 : t ≠ l := fun z => by rw [z, (((((((Ex.refl H2).trans e3).trans e4).trans e5).trans e6).trans e7) _ _ h2)] at ht; cases ht
    have ht5 : upd H8 l (.lst ([] ++ [.ref t])) t = some (.tup _) := (upd_ne tl5).trans h8
    revert hd5 hl5 ht5
    generalize upd H8 l (.lst ([] ++ [.ref t])) = G
    intro hd5 hl5 ht5
    refine q_when (b := false) (et_B (ev_isP (ev_var rfl) (T.ex 4 hc) (T.iso 4 5 hc (by decide)) (hx1.same (hd5.trans (Ex.refl G))))) (fun z => nomatch z) (fun _ H9 e9 => ?_)
    refine q_when (b := false) (et_B (ev_isP (ev_var rfl) (T.ex 4 hc) (T.iso 4 6 hc (by decide)) (hx1.same (hd5.trans ((Ex.refl G).trans e9))))) (fun z => nomatch z) (fun _ H10 e10 => ?_)
    refine q_when (b := false) (et_B (ev_isP (ev_var rfl) (T.ex 4 hc) (T.iso 4 7 hc (by decide)) (hx1.same (hd5.trans (((Ex.refl G).trans e9).trans e10))))) (fun z => nomatch z) (fun _ H11 e11 => ?_)
    exact s_ret (ev_if (b := true) (et_test (ev_op (ev_lenL (ev_var rfl) (sq_of (((((Ex.refl G).trans e9).trans e10).trans e11) _ _ hl5))) ev_c (rv_eqs rfl))) (fun _ => ev_op (ev_var rfl) ev_c (rv_iL (sq_of (((((Ex.refl G).trans e9).trans e10).trans e11) _ _ hl5)) (i := 0) rfl)) (fun z => nomatch z)) (fun H12 e12 => hQ t H12 (e1.trans (hd5.trans (((((Ex.refl G).trans e9).trans e10).trans e11).trans e12))) ((((((Ex.refl G).trans e9).trans e10).trans e11).trans e12) _ _ ht5))
  | 5, hc, hFo =>
    obtain ⟨v0, v1, v2, l0, l1, l2, rfl⟩ := hFo
    refine q_when (b := false) (et_B (ev_isP (ev_var rfl) (T.ex 5 hc) (T.iso 5 0 hc (by decide)) (hx1.same (e2.trans (Ex.refl H2))))) (fun z => nomatch z) (fun _ H3 e3 => ?_)
    refine q_when (b := false) (et_B (ev_isP (ev_var rfl) (T.ex 5 hc) (T.iso 5 1 hc (by decide)) (hx1.same (e2.trans ((Ex.refl H2).trans e3))))) (fun z => nomatch z) (fun _ H4 e4 => ?_)
    refine q_when (b := false) (et_B (ev_isP (ev_var rfl) (T.ex 5 hc) (T.iso 5 2 hc (by decide)) (hx1.same (e2.trans (((Ex.refl H2).trans e3).trans e4))))) (fun z => nomatch z) (fun _ H5 e5 => ?_)
    refine q_when (b := false) (et_B (ev_isP (ev_var rfl) (T.ex 5 hc) (T.iso 5 3 hc (by decide)) (hx1.same (e2.trans ((((Ex.refl H2).trans e3).trans e4).trans e5))))) (fun z => nomatch z) (fun _ H6 e6 => ?_)
    refine q_when (b := false) (et_B (ev_isP (ev_var rfl) (T.ex 5 hc) (T.iso 5 4 hc (by decide)) (hx1.same (e2.trans (((((Ex.refl H2).trans e3).trans e4).trans e5).trans e6))))) (fun z => nomatch z) (fun _ H7 e7 => ?_)
    refine q_when (b := true) (et_B (ev_isP (ev_var rfl) (T.ex 5 hc) (T.iso 5 5 hc (by decide)) (hx1.same (e2.trans ((((((Ex.refl H2).trans e3).trans e4).trans e5).trans e6).trans e7))))) (fun _ H8 e8 => ?_) (fun z => nomatch z)
    refine s_appU (xs := []) ((((((((Ex.refl H2).trans e3).trans e4).trans e5).trans e6).trans e7).trans e8) _ _ h2) (ev_var rfl) (eu_tup (ea_cons ev_c (ea_cons (ev_xp (ev_var rfl) (T.xf 5 hc) T.n5what ((((((((Ex.refl H2).trans e3).trans e4).trans e5).trans e6).trans e7).trans e8) _ _ (e2 _ _ hx)) l0) (ea_cons (ev_xp (ev_var rfl) (T.xf 5 hc) T.n5many ((((((((Ex.refl H2).trans e3).trans e4).trans e5).trans e6).trans e7).trans e8) _ _ (e2 _ _ hx)) l1) (ea_cons (ev_xp (ev_var rfl) (T.xf 5 hc) T.n5limit ((((((((Ex.refl H2).trans e3).trans e4).trans e5).trans e6).trans e7).trans e8) _ _ (e2 _ _ hx)) l2) ea_nil)))) (show 4 ≤ 100000 by decide)) (by decide) (fun t H9 ht e9 h9 => ?_)
    have hd5 : Ex H1 (upd H9 l (.lst ([] ++ [.ref t]))) := (e2.trans ((((((((Ex.refl H2).trans e3).trans e4).trans e5).trans e6).trans e7).trans e8).trans e9)).mut hl2
    have hl5 : upd H9 l (.lst ([] ++ [.ref t])) l = some (.lst [.ref t]) := upd_same
    have tl5 : t ≠ l := fun z => by rw [z, ((((((((Ex.refl H2).trans e3).trans e4).trans e5).trans e6).trans e7).trans e8) _ _ h2)] at ht; cases ht
    have ht5 : upd H9 l (.lst ([] ++ [.ref t])) t = some (.tup _) := (upd_ne tl5).trans h9
    revert hd5 hl5 ht5
    generalize upd H9 l (.lst ([] ++ [.ref t])) = G
    intro hd5 hl5 ht5
    refine q_when (b := false) (et_B (ev_isP (ev_var rfl) (T.ex 5 hc) (T.iso 5 6 hc (by decide)) (hx1.same (hd5.trans (Ex.refl G))))) (fun z => nomatch z) (fun _ H10 e10 => ?_)
    refine q_when (b := false) (et_B (ev_isP (ev_var rfl) (T.ex 5 hc) (T.iso 5 7 hc (by decide)) (hx1.same (hd5.trans ((Ex.refl G).trans e10))))) (fun z => nomatch z) (fun _ H11 e11 => ?_)
    exact s_ret (ev_if (b := true) (et_test (ev_op (ev_lenL (ev_var rfl) (sq_of ((((Ex.refl G).trans e10).trans e11) _ _ hl5))) ev_c (rv_eqs rfl))) (fun _ => ev_op (ev_var rfl) ev_c (rv_iL (sq_of ((((Ex.refl G).trans e10).trans e11) _ _ hl5)) (i := 0) rfl)) (fun z => nomatch z)) (fun H12 e12 => hQ t H12 (e1.trans (hd5.trans ((((Ex.refl G).trans e10).trans e11).trans e12))) (((((Ex.refl G).trans e10).trans e11).trans e12) _ _ ht5))
  | 6, hc, hFo =>
    obtain ⟨v0, l0, rfl⟩ := hFo
    refine q_when (b := false) (et_B (ev_isP (ev_var rfl) (T.ex 6 hc) (T.iso 6 0 hc (by decide)) (hx1.same (e2.trans (Ex.refl H2))))) (fun z => nomatch z) (fun _ H3 e3 => ?_)
    refine q_when (b := false) (et_B (ev_isP (ev_var rfl) (T.ex 6 hc) (T.iso 6 1 hc (by decide)) (hx1.same (e2.trans ((Ex.refl H2).trans e3))))) (fun z => nomatch z) (fun _ H4 e4 => ?_)
    refine q_when (b := false) (et_B (ev_isP (ev_var rfl) (T.ex 6 hc) (T.iso 6 2 hc (by decide)) (hx1.same (e2.trans (((Ex.refl H2).trans e3).trans e4))))) (fun z => nomatch z) (fun _ H5 e5 => ?_)
    refine q_when (b := false) (et_B (ev_isP (ev_var rfl) (T.ex 6 hc) (T.iso 6 3 hc (by decide)) (hx1.same (e2.trans ((((Ex.refl H2).trans e3).trans e4).trans e5))))) (fun z => nomatch z) (fun _ H6 e6 => ?_)
    refine q_when (b := false) (et_B (ev_isP (ev_var rfl) (T.ex 6 hc) (T.iso 6 4 hc (by decide)) (hx1.same (e2.trans (((((Ex.refl H2).trans e3).trans e4).trans e5).trans e6))))) (fun z => nomatch z) (fun _ H7 e7 => ?_)
    refine q_when (b := false) (et_B (ev_isP (ev_var rfl) (T.ex 6 hc) (T.iso 6 5 hc (by decide)) (hx1.same (e2.trans ((((((Ex.refl H2).trans e3).trans e4).trans e5).trans e6).trans e7))))) (fun z => nomatch z) (fun _ H8 e8 => ?_)
    refine q_when (b := true) (et_B (ev_isP (ev_var rfl) (T.ex 6 hc) (T.iso 6 6 hc (by decide)) (hx1.same (e2.trans (((((((Ex.refl H2).trans e3).trans e4).trans e5).trans e6).trans e7).trans e8))))) (fun _ H9 e9 => ?_) (fun z => nomatch z)
    refine s_appU (xs := []) (((((((((Ex.refl H2).trans e3).trans e4).trans e5).trans e6).trans e7).trans e8).trans e9) _ _ h2) (ev_var rfl) (eu_tup (ea_cons ev_c (ea_cons (ev_xp (ev_var rfl) (T.xf 6 hc) T.n6what (((((((((Ex.refl H2).trans e3).trans e4).trans e5).trans e6).trans e7).trans e8).trans e9) _ _ (e2 _ _ hx)) l0) ea_nil)) (show 2 ≤ 100000 by decide)) (by decide) (fun t H10 ht e10 h10 => ?_)
    have hd5 : Ex H1 (upd H10 l (.lst ([] ++ [.ref t]))) := (e2.trans (((((((((Ex.refl H2).trans e3).trans e4).trans e5).trans e6).trans e7).trans e8).trans e9).trans e10)).mut hl2
    have hl5 : upd H10 l (.lst ([] ++ [.ref t])) l = some (.lst [.ref t]) := upd_same
    have tl5 : t ≠ l := fun z => by rw [z, (((((((((Ex.refl H2).trans e3).trans e4).trans e5).trans e6).trans e7).trans e8).trans e9) _ _ h2)] at ht; cases ht
    have ht5 : upd H10 l (.lst ([] ++ [.ref t])) t = some (.tup _) := (upd_ne tl5).trans h10
    revert hd5 hl5 ht5
    generalize upd H10 l (.lst ([] ++ [.ref t])) = G
    intro hd5 hl5 ht5
    refine q_when (b := false) (et_B (ev_isP (ev_var rfl) (T.ex 6 hc) (T.iso 6 7 hc (by decide)) (hx1.same (hd5.trans (Ex.refl G))))) (fun z => nomatch z) (fun _ H11 e11 => ?_)
    exact s_ret (ev_if (b := true) (et_test (ev_op (ev_lenL (ev_var rfl) (sq_of (((Ex.refl G).trans e11) _ _ hl5))) ev_c (rv_eqs rfl))) (fun _ => ev_op (ev_var rfl) ev_c (rv_iL (sq_of (((Ex.refl G).trans e11) _ _ hl5)) (i := 0) rfl)) (fun z => nomatch z)) (fun H12 e12 => hQ t H12 (e1.trans (hd5.trans (((Ex.refl G).trans e11).trans e12))) ((((Ex.refl G).trans e11).trans e12) _ _ ht5))
  | 7, hc, hFo =>
    obtain ⟨v0, v1, l0, l1, rfl⟩ := hFo
    refine q_when (b := false) (et_B (ev_isP (ev_var rfl) (T.ex 7 hc) (T.iso 7 0 hc (by decide)) (hx1.same (e2.trans (Ex.refl H2))))) (fun z => nomatch z) (fun _ H3 e3 => ?_)
    refine q_when (b := false) (et_B (ev_isP (ev_var rfl) (T.ex 7 hc) (T.iso 7 1 hc (by decide)) (hx1.same (e2.trans ((Ex.refl H2).trans e3))))) (fun z => nomatch z) (fun _ H4 e4 => ?_)
    refine q_when (b := false) (et_B (ev_isP (ev_var rfl) (T.ex 7 hc) (T.iso 7 2 hc (by decide)) (hx1.same (e2.trans (((Ex.refl H2).trans e3).trans e4))))) (fun z => nomatch z) (fun _ H5 e5 => ?_)
    refine q_when (b := false) (et_B (ev_isP (ev_var rfl) (T.ex 7 hc) (T.iso 7 3 hc (by decide)) (hx1.same (e2.trans ((((Ex.refl H2).trans e3).trans e4).trans e5))))) (fun z => nomatch z) (fun _ H6 e6 => ?_)
    refine q_when (b := false) (et_B (ev_isP (ev_var rfl) (T.ex 7 hc) (T.iso 7 4 hc (by decide)) (hx1.same (e2.trans (((((Ex.refl H2).trans e3).trans e4).trans e5).trans e6))))) (fun z => nomatch z) (fun _ H7 e7 => ?_)
    refine q_when (b := false) (et_B (ev_isP (ev_var rfl) (T.ex 7 hc) (T.iso 7 5 hc (by decide)) (hx1.same (e2.trans ((((((Ex.refl H2).trans e3).trans e4).trans e5).trans e6).trans e7))))) (fun z => nomatch z) (fun _ H8 e8 => ?_)
    refine q_when (b := false) (et_B (ev_isP (ev_var rfl) (T.ex 7 hc) (T.iso 7 6 hc (by decide)) (hx1.same (e2.trans (((((((Ex.refl H2).trans e3).trans e4).trans e5).trans e6).trans e7).trans e8))))) (fun z => nomatch z) (fun _ H9 e9 => ?_)
    refine q_when (b := true) (et_B (ev_isP (ev_var rfl) (T.ex 7 hc) (T.iso 7 7 hc (by decide)) (hx1.same (e2.trans ((((((((Ex.refl H2).trans e3).trans e4).trans e5).trans e6).trans e7).trans e8).trans e9))))) (fun _ H10 e10 => ?_) (fun z => nomatch z)
    refine s_appU (xs := []) ((((((((((Ex.refl H2).trans e3).trans e4).trans e5).trans e6).trans e7).trans e8).trans e9).trans e10) _ _ h2) (ev_var rfl) (eu_tup (ea_cons ev_c (ea_cons (ev_xp (ev_var rfl) (T.xf 7 hc) T.n7line ((((((((((Ex.refl H2).trans e3).trans e4).trans e5).trans e6).trans e7).trans e8).trans e9).trans e10) _ _ (e2 _ _ hx)) l0) (ea_cons (ev_xp (ev_var rfl) (T.xf 7 hc) T.n7word ((((((((((Ex.refl H2).trans e3).trans e4).trans e5).trans e6).trans e7).trans e8).trans e9).trans e10) _ _ (e2 _ _ hx)) l1) ea_nil))) (show 3 ≤ 100000 by decide)) (by decide) (fun t H11 ht e11 h11 => ?_)
    have hd5 : Ex H1 (upd H11 l (.lst ([] ++ [.ref t]))) := (e2.trans ((((((((((Ex.refl H2).trans e3).trans e4).trans e5).trans e6).trans e7).trans e8).trans e9).trans e10).trans e11)).mut hl2
    have hl5 : upd H11 l (.lst ([] ++ [.ref t])) l = some (.lst [.ref t]) := upd_same
    have tl5 : t ≠ l := fun z => by rw [z, ((((((((((Ex.refl H2).trans e3).trans e4).trans e5).trans e6).trans e7).trans e8).trans e9).trans e10) _ _ h2)] at ht; cases ht
    have ht5 : upd H11 l (.lst ([] ++ [.ref t])) t = some (.tup _) := (upd_ne tl5).trans h11
    revert hd5 hl5 ht5
    generalize upd H11 l (.lst ([] ++ [.ref t])) = G
    intro hd5 hl5 ht5
    exact s_ret (ev_if (b := true) (et_test (ev_op (ev_lenL (ev_var rfl) (sq_of ((Ex.refl G) _ _ hl5))) ev_c (rv_eqs rfl))) (fun _ => ev_op (ev_var rfl) ev_c (rv_iL (sq_of ((Ex.refl G) _ _ hl5)) (i := 0) rfl)) (fun z => nomatch z)) (fun H12 e12 => hQ t H12 (e1.trans (hd5.trans ((Ex.refl G).trans e12))) (((Ex.refl G).trans e12) _ _ ht5))
end
end Kb
set_option Elab.async false
set_option linter.all false
set_option maxRecDepth 100000
set_option maxHeartbeats 4000000
namespace Kb
open PySem PySem.Spec PyProof.Rows L2 LamX Evl
/-- an item of the calls: a callable that raises, and what is due -/
def RsItem (P : Program) (w : World) (K : PySem.W.Frag) (mg : Str → Option Value) (base : Heap) (k : Nat) (cA : Nat → Addr) (s : Shared) (fr : List Addr) (H : Hp) (x : V) : Prop :=
  ∃ (tup f due : Addr) (tl : Hp → VK → XK → Prop) (c : Nat) (fs : List (Str × V)) (ys : List V) (v : V) (es : List PyData) (d : PyData), x = .ref tup ∧ SqT K H tup [.ref f, .ref due] ∧ LamAt P w K mg base k fr s H f tl ∧ c < 8 ∧ (∀ H', Ex H H' → Rses tl H' (cA c) fs) ∧ Fo c fs (ys ++ [v]) ∧
    SqT K H due (ys ++ [v]) ∧ DpAll K H ys es ∧ SeqAt.shaped (.tuple es) = true ∧ Dp K H v d ∧ d.hasDict = false ∧ Sh d
def spRaiseSo (P : Program) (w : World) (K : PySem.W.Frag) (mg : Str → Option Value) (base : Heap) (k : Nat) (cA : Nat → Addr) : SpZ := fun s fr vs H Q => ∃ l xs, vs = [.ref l] ∧ SqL K H l xs ∧ (∀ x ∈ xs, RsItem P w K mg base k cA s fr H x) ∧ ∀ H', Ex H H' → Q (.bl true) H'
section
variable {P : Program} {w : World} {K : PySem.W.Frag} {mg : Str → Option Value} {base : Heap} {HE : Addr} {cA : Nat → Addr} {k : Nat}
theorem ok_raise_so (B : Bi mg) (g__law_caught : Gz P w K mg base (k + 1) "_law_caught" ["action"] (spCaught P w K mg base k cA)) (D : Df K mg "_law_raise_so" s__law_raise_so ["calls"]) : Gz P w K mg base (k + 2) "_law_raise_so" ["calls"] (spRaiseSo P w K mg base k cA) := by
  have nd := sc__law_raise_so.nd
  refine D.gz sc__law_raise_so (fun s fr vs H Q h => ?_) (fun f0 cdv A outer s H vs Q hr hgd h => ?_)
  · obtain ⟨l, xs, rfl, _⟩ := h
    rfl
  have hu64 := hu64_of hr
  have hu16 : (A.deeper (envOfC "_law_raise_so" (defScope s__law_raise_so) s.heap.objs.size f0 cdv)).units + 16 < cLine := by omega
  refine ⟨_, (pss_cons (ps_for PassesOwn.never rfl (piA_seq (pv 0)) (pgK_tup (K := K) (n := 2) rfl rfl (pgs_cons (pg_name (i := 1) nd rfl (.inl rfl)) (pgs_cons (pg_name (i := 2) nd rfl (.inl rfl)) pgs_nil))) (pss_cons (ps_set (i := 3) nd rfl (.inl rfl) (pe_cz g__law_caught hr hgd rfl (pa_cons (pv 1) pa_nil)))
    (pss_one (ps_if (PW.pt (pw_or (pt_cmpR (r := rNeA K) (opA_ne hu64) (pe_slice (r := rSl K) slA (pv 3) po_none (po_some (pe_un un_neg pe_int))) (pe_slice (r := rSl K) slA (pv 2) po_none (po_some (pe_un un_neg pe_int))) (nomark _)) (pw_or1 (pt_cmpR (r := rNeA K) (opA_ne hu64) (pe_callB (r := rRepr K) (call_repr hgd hu16) rfl B.repr (by decide +kernel) (pa_cons (pe_ix (r := rIx K) ix_seq (pv 3) (pe_un un_neg pe_int) (fun _ _ => rfl)) pa_nil)) (pe_callB (r := rRepr K) (call_repr hgd hu16) rfl B.repr (by decide +kernel) (pa_cons (pe_ix (r := rIx K) ix_seq (pv 2) (pe_un un_neg pe_int) (fun _ _ => rfl)) pa_nil)) (nomark _))))) (pss_one (ps_ret pe_bl)) pss_nil))))
    (pss_one (ps_ret pe_bl))), ?_⟩
  obtain ⟨l, xs, rfl, hx, hit, hQ⟩ := h
  have hL : s.heap.get? s.heap.objs.size = none := Heap.get?_none_of_le (Nat.le_refl _)
  refine q_forLg (ev_var rfl) hx (fun i σ' H' => Ex H H' ∧ ∃ a b c, σ' = [some (.ref l), a, b, c]) (fun H1 e1 => ⟨e1, none, none, none, rfl⟩) (fun i σ' H' _ p => ex_l p.1 hx) (fun i x σ' H' hi p => ?_) (fun σ' H' p => ?_)
  · obtain ⟨e1, a0, b0, c0, rfl⟩ := p
    obtain ⟨tup, f, due, tl, c, fs, ys, v, es, d, rfl, h1, h2, h3, h4, h5, h6, h7, h8, h9, h10, h11⟩ := hit x (List.mem_of_getElem? hi)
    refine ⟨tup, _, rfl, ex_t e1 h1, rfl, .ref f, [.ref due], rfl, .ref due, [], rfl, rfl, ?_⟩
    refine ⟨.ref f, rfl, fun pins s1 I1 => ⟨f, tl, c, fs, ys ++ [v], rfl, (h2.deeper hL).move e1 (un_more I1.base hL), h3, h4 H' e1, h5, fun t H2 e2 ht => ?_⟩⟩
    have e12 := e1.trans e2
    have hb : (!PyData.eqv (.tuple es) (.tuple es) || !decide (V.str d.shown = .str d.shown)) = false := by
      have : PyData.eqv (.tuple es) (.tuple es) = true := SeqAt.eqv_refl _ (SeqAt.canLay_of_shaped h8)
      rw [this]
      simp
    refine s_when (b := (!PyData.eqv (.tuple es) (.tuple es) || !decide (V.str d.shown = .str d.shown))) (et_or (et_test (ev_neDD (evd_init (ev_var rfl) (st_of ht) (DpAll.ext e12 h7) (eo_some (ev_neg ev_c))) (evd_init (ev_var rfl) (ex_t e12 h6) (DpAll.ext e12 h7) (eo_some (ev_neg ev_c))) h8 h8))
      (fun _ => et_test (ev_op (ev_repr (ev_last (ev_var rfl) (st_of ht) (ev_neg ev_c)) (Dp.ext e12 h9) h10 h11) (ev_repr (ev_last (ev_var rfl) (ex_t e12 h6) (ev_neg ev_c)) (Dp.ext e12 h9) h10 h11) (rv_nes rfl)))) (fun z => by rw [hb] at z; cases z) (fun _ H3 e3 => ⟨e12.trans e3, _, _, _, rfl⟩)
  · obtain ⟨e1, a0, b0, c0, rfl⟩ := p
    exact s_ret ev_c fun H2 e2 => hQ H2 (e1.trans e2)
end
end Kb
set_option Elab.async false
set_option linter.all false
set_option maxRecDepth 100000
set_option maxHeartbeats 4000000
namespace Kb
open PySem PySem.Spec PyProof.Rows L2 LamX Evl
/-- plain data of tuples, not deep -/
def lawD : Nat → PyData → Bool
  | 0, .tuple _ => false
  | n + 1, .tuple ds => decide (ds.length ≤ 1000) && ds.all (lawD n)
  | _, .list _ => false
  | _, .dict _ => false
  | _, _ => true
def spIs (K : PySem.W.Frag) (n : Nat) : Sp := fun vs H Q _ => ∃ v1 v2 d, vs = [v1, v2] ∧ Dp K H v1 d ∧ Dp K H v2 d ∧ lawD n d = true ∧ ∀ H', Ex H H' → Q (.bl true) H'
theorem spIs_v {K : PySem.W.Frag} {n : Nat} {v1 v2 : V} {d : PyData} {H : Hp} (h1 : Dp K H v1 d) (h2 : Dp K H v2 d) (hd : lawD n d = true) : SpV (spIs K n) [v1, v2] H (.bl true) := fun H1 e Q q E => ⟨v1, v2, d, rfl, Dp.ext e h1, Dp.ext e h2, hd, q⟩
section
variable {P : Program} {w : World} {K : PySem.W.Frag} {mg : Str → Option Value} {base : Heap}
theorem law_is_step (B : Bi mg) (n : Nat) (sp0 : Sp) (g__law_is : Gv P w K mg base CX0 n "_law_is" ["told", "due"] sp0) (hs : ∀ m, n = m + 1 → ∀ vs H Q E, spIs K m vs H Q E → sp0 vs H Q E) (D : Df K mg "_law_is" s__law_is ["told", "due"]) :
    Gv P w K mg base CX0 (n + 1) "_law_is" ["told", "due"] (spIs K n) := by
  have nd := sc__law_is.nd
  refine D.gv sc__law_is (fun vs H Q E h => ?_) (fun f cdv A outer s H vs Q E hr h => ?_)
  · obtain ⟨v1, v2, d, rfl, _⟩ := h
    rfl
  have hu64 := hu64_of hr
  refine ⟨_, (pss_cons (ps_if (pt_val (pe_callB (id := "isinstance") (r := rIsi K) call_isi rfl B.isi (by decide +kernel) (pa_cons (pv 1) (pa_cons (pe_bltn (v := .ty "tuple") rfl B.tuple (by decide +kernel) rfl) pa_nil)))) (pss_cons (ps_if (PW.pt (pw_or (pt_not (pt_val (pe_callB (id := "isinstance") (r := rIsi K) call_isi rfl B.isi (by decide +kernel) (pa_cons (pv 0) (pa_cons (pe_bltn (v := .ty "tuple") rfl B.tuple (by decide +kernel) rfl) pa_nil))))) (pw_or1 (pt_cmpR (r := rNeA K) (opA_ne hu64) (pe_callB (r := rLen K) callA_len rfl B.len (by decide +kernel) (pa_cons (pv 0) pa_nil)) (pe_callB (r := rLen K) callA_len rfl B.len (by decide +kernel) (pa_cons (pv 1) pa_nil)) (nomark _))))) (pss_one (ps_ret pe_bl)) pss_nil)
    (pss_one (ps_ret (pe_cmpR (r := rEqA K) (opA_eq hu64) (pe_lc (own := [("at", 2)]) rfl nd (pi_range1 rfl B.range (pa_cons (pe_callB (r := rLen K) callA_len rfl B.len (by decide +kernel) (pa_cons (pv 1) pa_nil)) pa_nil)) (blk_ok (by kernel_rfl)) (fun _ _ _ _ _ => (pg_name (i := 2) nd rfl (.inl rfl))) (fun _ _ _ _ _ => (by exact (pts_one (pt_not (pt_val (pe_cg g__law_is hr rfl pass0 (pa_cons (pe_ix (r := rIx K) ix_seq (pv 0) (pv 2) (fun _ _ => rfl)) (pa_cons (pe_ix (r := rIx K) ix_seq (pv 1) (pv 2) (fun _ _ => rfl)) pa_nil)))))))) (fun _ _ _ _ _ => (pv 2))) (pe_lst pa_nil) (nomark _))))) pss_nil)
    (pss_cons (ps_if (pt_cmpR op_isN1 (pv 1) pe_non (nomark _)) (pss_one (ps_ret (pe_cmpR op_isN1 (pv 0) pe_non (nomark _)))) pss_nil)
    (pss_cons (ps_if (pt_cmpR op_isX (pv 1) pe_bl (nomark _)) (pss_one (ps_ret (pe_cmpR op_isX (pv 0) pe_bl (nomark _)))) pss_nil)
    (pss_cons (ps_if (pt_cmpR op_isX (pv 1) pe_bl (nomark _)) (pss_one (ps_ret (pe_cmpR op_isX (pv 0) pe_bl (nomark _)))) pss_nil)
    (pss_cons (ps_if (pt_val (pe_callB (id := "isinstance") (r := rIsi K) call_isi rfl B.isi (by decide +kernel) (pa_cons (pv 1) (pa_cons (pe_bltn (v := .ty "str") rfl B.str (by decide +kernel) rfl) pa_nil)))) (pss_one (ps_ret (pe_and (pe_callB (id := "isinstance") (r := rIsi K) call_isi rfl B.isi (by decide +kernel) (pa_cons (pv 0) (pa_cons (pe_bltn (v := .ty "str") rfl B.str (by decide +kernel) rfl) pa_nil))) (pe_one (pe_cmpR (r := rEqA K) (opA_eq hu64) (pv 0) (pv 1) (nomark _)))))) pss_nil)
    (pss_one (ps_ret (pe_and (pe_callB (id := "isinstance") (r := rIsi K) call_isi rfl B.isi (by decide +kernel) (pa_cons (pv 0) (pa_cons (pe_bltn (v := .ty "int") rfl B.int (by decide +kernel) rfl) pa_nil))) (pe_and (pe_not (pe_callB (id := "isinstance") (r := rIsi K) call_isi rfl B.isi (by decide +kernel) (pa_cons (pv 0) (pa_cons (pe_bltn (v := .ty "bool") rfl B.bool (by decide +kernel) rfl) pa_nil)))) (pe_one (pe_cmpR (r := rEqA K) (opA_eq hu64) (pv 0) (pv 1) (nomark _)))))))))))), ?_⟩
  obtain ⟨v1, v2, d, rfl, h1, h2, hd, hQ⟩ := h
  cases hz : tupD d with
  | some ds =>
    obtain rfl := tupD_some hz
    cases id h1 with
    | @tup a xs _ hx ha =>
    cases id h2 with
    | @tup b ys _ hy hb =>
    obtain ⟨m, rfl⟩ : ∃ m, n = m + 1 := by
      cases n with
      | zero => cases hd
      | succ m => exact ⟨m, rfl⟩
    have hd' : (decide (ds.length ≤ 1000) && ds.all (lawD m)) = true := hd
    rw [Bool.and_eq_true] at hd'
    have hlen := of_decide_eq_true hd'.1
    have hlx := dpAll_len ha
    have hly := dpAll_len hb
    refine q_if (b := true) (et_is (et_B (ev_isiD (ev_var rfl) h2 (kit_tuple _))) (by rw [isB_tup]; rfl)) (fun _ H1 e1 => ?_) (fun z => nomatch z)
    refine q_when (b := false) (et_is (et_or (a := false) (et_is (et_not (et_B (ev_isiD (ev_var rfl) (Dp.ext e1 h1) (kit_tuple _)))) (by rw [isB_tup]; rfl)) (fun _ => et_test (ev_op (ev_lenU (ev_var rfl) (ex_t e1 hx)) (ev_lenU (ev_var rfl) (ex_t e1 hy)) (rv_nes rfl)))) (by rw [hlx, hly]; simp)) (fun z => nomatch z) (fun _ H2 e2 => ?_)
    have e12 := e1.trans e2
    refine s_ret (ev_eqNil (ds := []) (el_is (el_lcR (n := (ys.length : Int)) (fun _ => false) (fun i => .int (i : Int)) (ea_cons (ev_lenU (ev_var rfl) (ex_t e12 hy)) ea_nil) (by omega) (fun _ => rfl) (fun i H3 e3 hi => ?_) (fun i H3 e3 hi hf => nomatch hf) (by omega)) ?_) (fun H3 e3 => el_lst ea_nil (Nat.zero_le _)) (fun H3 e3 => .nil) shaped_nil) (fun H3 e3 => hQ H3 (e12.trans e3))
    · have hiy : i < ys.length := by omega
      have hix : i < xs.length := by omega
      have hid : i < ds.length := by omega
      have gx := List.getElem?_eq_getElem hix
      have gy := List.getElem?_eq_getElem hiy
      obtain ⟨d1, hd1, q1⟩ := dpAll_get ha gx
      obtain ⟨d2, hd2, q2⟩ := dpAll_get hb gy
      rw [hd1] at hd2
      cases hd2
      have e13 := e12.trans e3
      refine et_not (a := true) (et_B (ev_call (ea_cons (ev_op (ev_var rfl) (ev_var rfl) (rv_iT (ex_t e13 hx) (atI_nat gx))) (ea_cons (ev_op (ev_var rfl) (ev_var rfl) (rv_iT (ex_t e13 hy) (atI_nat gy))) ea_nil)) (fun H4 e4 Q q E => hs m rfl _ _ _ _ ⟨_, _, d1, rfl, Dp.ext (e13.trans e4) q1, Dp.ext (e13.trans e4) q2, List.all_eq_true.mp hd'.2 d1 (List.mem_of_getElem? hd1), q⟩)))
    · unfold given
      rw [List.filter_eq_nil_iff.mpr (fun _ _ => Bool.false_ne_true)]
      rfl
  | none =>
    have hb : isB "tuple" d = false := by rw [isB_tup, hz]; rfl
    refine q_when (b := false) (et_is (et_B (ev_isiD (ev_var rfl) h2 (kit_tuple d))) hb) (fun z => nomatch z) (fun _ H1 e1 => ?_)
    cases d with
    | tuple ds => cases hz
    | list ds => cases n <;> cases hd
    | dict ds => cases n <;> cases hd
    | none =>
      cases h1
      cases h2
      exact q_when (b := true) (et_test (ev_op (ev_var rfl) ev_c (rv_val fun H2 e2 Q q => ⟨rfl, q⟩))) (fun _ H2 e2 => s_ret (ev_op (ev_var rfl) ev_c (rv_val fun H3 e3 Q q => ⟨rfl, q⟩)) fun H3 e3 => hQ H3 ((e1.trans e2).trans e3)) (fun z => nomatch z)
    | bool b =>
      cases h1
      cases h2
      refine q_when (b := false) (et_test (ev_op (ev_var rfl) ev_c (rv_val fun H2 e2 Q q => ⟨rfl, q⟩))) (fun z => nomatch z) (fun _ H2 e2 => ?_)
      refine q_when (b := b) (et_test (ev_op (ev_var rfl) ev_c (rv_val fun H3 e3 Q q => ⟨true, rfl, by cases b <;> exact q⟩))) (fun hb H3 e3 => ?_) (fun hb H3 e3 => ?_)
      · subst hb
        exact s_ret (ev_op (ev_var rfl) ev_c (rv_val fun H4 e4 Q q => ⟨true, rfl, q⟩)) fun H4 e4 => hQ H4 ((e1.trans e2).trans (e3.trans e4))
      · subst hb
        exact q_when (b := true) (et_test (ev_op (ev_var rfl) ev_c (rv_val fun H4 e4 Q q => ⟨false, rfl, q⟩))) (fun _ H4 e4 => s_ret (ev_op (ev_var rfl) ev_c (rv_val fun H5 e5 Q q => ⟨false, rfl, q⟩)) fun H5 e5 => hQ H5 ((e1.trans e2).trans ((e3.trans e4).trans e5))) (fun z => nomatch z)
    | int i =>
      refine q_when (b := false) (et_test (ev_op (ev_var rfl) ev_c (rv_val fun H2 e2 Q q => ⟨rfl, by cases h2; exact q⟩))) (fun z => nomatch z) (fun _ H2 e2 => ?_)
      refine q_when (b := false) (et_test (ev_op (ev_var rfl) ev_c (rv_val fun H3 e3 Q q => ⟨true, rfl, by cases h2; exact q⟩))) (fun z => nomatch z) (fun _ H3 e3 => ?_)
      refine q_when (b := false) (et_test (ev_op (ev_var rfl) ev_c (rv_val fun H4 e4 Q q => ⟨false, rfl, by cases h2; exact q⟩))) (fun z => nomatch z) (fun _ H4 e4 => ?_)
      have E := ((e1.trans e2).trans e3).trans e4
      refine q_when (b := false) (et_is (et_B (ev_isiD (ev_var rfl) (Dp.ext E h2) (kit_str _))) (by rw [isB_str]; rfl)) (fun z => nomatch z) (fun _ H5 e5 => ?_)
      have E5 := E.trans e5
      refine s_ret (ev_is (ev_andV (ev_isiD (ev_var rfl) (Dp.ext E5 h1) (kit_int _)) (fun _ => ev_andV (ev_notV (ev_isiD (ev_var rfl) (Dp.ext E5 h1) (kit_bool _))) (fun _ => ev_op (ev_var rfl) (ev_var rfl) (rv_eqs (x := v1) (y := v2) (by cases h1; cases h2; rfl))))) ?_) (fun H6 e6 => hQ H6 (E5.trans e6))
      have w := isB_whole (.int i)
      cases h1
      cases h2
      rw [decide_eq_true rfl, Bool.and_true, w]
      rfl
    | str z =>
      refine q_when (b := false) (et_test (ev_op (ev_var rfl) ev_c (rv_val fun H2 e2 Q q => ⟨rfl, by cases h2; exact q⟩))) (fun z => nomatch z) (fun _ H2 e2 => ?_)
      refine q_when (b := false) (et_test (ev_op (ev_var rfl) ev_c (rv_val fun H3 e3 Q q => ⟨true, rfl, by cases h2; exact q⟩))) (fun z => nomatch z) (fun _ H3 e3 => ?_)
      refine q_when (b := false) (et_test (ev_op (ev_var rfl) ev_c (rv_val fun H4 e4 Q q => ⟨false, rfl, by cases h2; exact q⟩))) (fun z => nomatch z) (fun _ H4 e4 => ?_)
      have E := ((e1.trans e2).trans e3).trans e4
      refine q_when (b := true) (et_is (et_B (ev_isiD (ev_var rfl) (Dp.ext E h2) (kit_str _))) (by rw [isB_str]; rfl)) (fun _ H5 e5 => ?_) (fun z => nomatch z)
      have E5 := E.trans e5
      refine s_ret (ev_is (ev_andV (a := true) (ev_is (ev_isiD (ev_var rfl) (Dp.ext E5 h1) (kit_str _)) (by rw [isB_str]; rfl)) (fun _ => ev_op (ev_var rfl) (ev_var rfl) (rv_eqs (x := v1) (y := v2) (by cases h1; cases h2; rfl)))) ?_) (fun H6 e6 => hQ H6 (E5.trans e6))
      cases h1
      cases h2
      rw [decide_eq_true rfl]
      rfl
theorem gv_dead {x : Str} {st : Stmt} {ps : List Str} (D : Df K mg x st ps) : Gv P w K mg base CX0 0 x ps (fun _ _ _ _ => False) := D.of fun f fd F => ⟨fun _ _ _ _ h => h.elim, fun _ _ _ _ _ _ _ _ _ _ _ _ _ h => h.elim⟩
theorem ok_law_is (B : Bi mg) (D : Df K mg "_law_is" s__law_is ["told", "due"]) : ∀ n, Gv P w K mg base CX0 (n + 1) "_law_is" ["told", "due"] (spIs K n)
  | 0 => law_is_step B 0 _ (gv_dead D) (fun m h => nomatch h) D
  | n + 1 => law_is_step B (n + 1) _ (ok_law_is B D n) (fun m h vs H Q E q => by cases h; exact q) D
end
end Kb
set_option Elab.async false
set_option linter.all false
set_option maxRecDepth 100000
set_option maxHeartbeats 4000000
namespace Kb
open PySem PySem.Spec PyProof.Rows L2 Evl
section
variable {K : PySem.W.Frag} {σ : L2.St} {H H' H1 H2 : Hp} {te ta tb tl tp : TE} {tr : TA} {v w x : V} {d e : PyData} {vs xs ys : List V} {ds es : List PyData} {p : Addr × Addr} {Φ Φ' : V → Hp → Prop} {Ψ Ψ' : List V → Hp → Prop} {D : Ends} {tz tu : TS} {tt : TT} {r : R2} {a : Addr}
/-! data told, kind by kind -/
theorem evd_c (h : Ev te σ H v) (hd : ∀ H1, Ex H H1 → Dp K H1 v d) : EvD te σ H (fun w H1 => Dp K H1 w d) := ev_EvD h hd
theorem evd_b {b : Bool} (h : Ev te σ H (.bl b)) : EvD te σ H (fun w H1 => Dp K H1 w (.bool b)) := ev_EvD h fun _ _ => .bl b
theorem evd_i {i : Int} (h : Ev te σ H (.int i)) : EvD te σ H (fun w H1 => Dp K H1 w (.int i)) := ev_EvD h fun _ _ => .int i
theorem eda_d0 : EvDA tNil σ H (fun vs H1 => DpAll K H1 vs []) := fun H1 _ Q q => q [] H1 (Ex.refl H1) .nil
theorem eda_d (h : EvD te σ H (fun w H1 => Dp K H1 w d)) (h2 : EvDA tr σ H (fun vs H1 => DpAll K H1 vs ds)) : EvDA (tCons te tr) σ H (fun vs H1 => DpAll K H1 vs (d :: ds)) := fun H1 e Q q =>
  h H1 e _ fun v H2 e2 a => h2 H2 (e.trans e2) _ fun vs H3 e3 b => q (v :: vs) H3 (e2.trans e3) (.cons (Dp.ext e3 a) b)
theorem evd_tupD (h : EvDA tr σ H (fun vs H1 => DpAll K H1 vs ds)) (hz : ds.length ≤ 100000) : EvD (tTup tr) σ H (fun w H1 => Dp K H1 w (.tuple ds)) := fun H1 e Q q =>
  h H1 e _ fun vs H2 e2 a => ⟨sz_of (by rw [dpAll_len a]; exact hz), fun l hl => q _ _ (e2.trans (Ex.new hl)) (.tup (st_of upd_same) (DpAll.ext (Ex.new hl) a))⟩
theorem evd_lstD (h : EvDA tr σ H (fun vs H1 => DpAll K H1 vs ds)) (hz : ds.length ≤ 100000) : EvD (tLst tr) σ H (fun w H1 => Dp K H1 w (.list ds)) := fun H1 e Q q =>
  h H1 e _ fun vs H2 e2 a => ⟨sz_of (by rw [dpAll_len a]; exact hz), fun l hl => q _ _ (e2.trans (Ex.new hl)) (.lst (sq_of upd_same) (DpAll.ext (Ex.new hl) a))⟩
/-- _law_is of two data that are alike -/
theorem ev_lawIs {n : Nat} {E : XK} (ha : EvD ta σ H (fun w H1 => Dp K H1 w d)) (hb : EvD tb σ H (fun w H1 => Dp K H1 w d)) (hd : lawD n d = true) : Ev (tCall (spIs K n) [] E (tCons ta (tCons tb tNil))) σ H (.bl true) := fun H1 e Q q =>
  ha H1 e _ fun v1 H2 e2 d1 => hb H2 (e.trans e2) _ fun v2 H3 e3 d2 => ⟨v1, v2, d, rfl, Dp.ext e3 d1, d2, hd, fun H4 e4 => q H4 ((e2.trans e3).trans e4)⟩
/-- the text of a list that draws -/
theorem er_joinL {z : Str} {S : List Str → Prop} (ha : ∀ H1, Px p H H1 → Ev ta σ H1 (.str z)) (hb : ErL p tb σ H Ψ) (hs : ∀ xs H1, Ψ xs H1 → ∃ ys : List Str, xs = ys.map V.str ∧ (ys.map (·.length)).sum + ys.length * z.length ≤ 16777216 ∧ S ys) : ErD p (tBM K "str" (rJoin K) ta (tCons tb tNil)) σ H (fun v _ => ∃ ys, v = .str (Txt.join z ys) ∧ S ys) := fun H1 x1 Q q =>
  ha H1 x1 H1 (Ex.refl H1) _ fun H2 e2 => by
    refine ⟨?_, hb H2 (x1.ex e2) _ fun l xs H3 hl x3 h3 a => ?_⟩
    · rfl
    · obtain ⟨ys, rfl, hz, hS⟩ := hs xs H3 a
      exact ⟨z, l, ys, rfl, rfl, .inl (sq_of h3), hz, q _ H3 ((Px.of x1.pen e2).trans x3) ⟨ys, rfl, hS⟩⟩
theorem sgs_of {L : List Nat} {ys : List Str} (h : ∀ y ∈ ys, y ∈ L.map sg) : ∃ cs : List Nat, ys = cs.map sg ∧ ∀ c ∈ cs, c ∈ L := by
  induction ys with
  | nil => exact ⟨[], rfl, fun c h => nomatch h⟩
  | cons y ys ih =>
    obtain ⟨cs, e, hc⟩ := ih fun z hz => h z (List.mem_cons_of_mem _ hz)
    obtain ⟨c, hc1, hc2⟩ := List.mem_map.mp (h y List.mem_cons_self)
    refine ⟨c :: cs, by rw [e, List.map_cons, hc2], fun k hk => ?_⟩
    rcases List.mem_cons.mp hk with rfl | hk
    · exact hc1
    · exact hc k hk
/-- a new list of data -/
def EvLD (K : PySem.W.Frag) (te : TE) (σ : L2.St) (H : Hp) (ds : List PyData) : Prop := ∀ H1, Ex H H1 → ∀ Q : VK, (∀ l xs H2, H1 l = none → Ex H1 H2 → H2 l = some (.lst xs) → DpAll K H2 xs ds → Q (.ref l) H2) → te σ H1 Q
theorem eld_lst (h : EvDA tr σ H (fun vs H1 => DpAll K H1 vs ds)) (hz : ds.length ≤ 100000) : EvLD K (tLst tr) σ H ds := fun H1 e Q q =>
  h H1 e _ fun vs H2 e2 a => ⟨sz_of (by rw [dpAll_len a]; exact hz), fun l hl => q l vs _ (fresh_back e2 hl) (e2.trans (Ex.new hl)) upd_same (DpAll.ext (Ex.new hl) a)⟩
theorem eld_catH (ha : Ev ta σ H (.ref a)) (hx : H a = some (.lst xs)) (hd : DpAll K H xs ds) (hb : EvLD K tb σ H es) (hz : ds.length + es.length ≤ 100000) : EvLD K (tOp (rAdd K) ta tb) σ H (ds ++ es) := fun H1 e Q q =>
  ha H1 e _ fun H2 e2 => hb H2 (e.trans e2) _ fun m ys H3 hm e3 h3 hd3 => .inr (.inr (.inl ⟨a, m, xs, ys, rfl, rfl, e3 _ _ (e2 _ _ (e _ _ hx)), h3, sz_of (by rw [dpAll_len hd, dpAll_len hd3]; exact hz), fun r hr => q r _ _ (fresh_back (e2.trans e3) hr) ((e2.trans e3).trans (Ex.new hr)) upd_same
    (dpAll_app (DpAll.ext (((e.trans e2).trans e3).trans (Ex.new hr)) hd) (DpAll.ext (Ex.new hr) hd3))⟩))
theorem qd_asgLD {i : Nat} (h : EvLD K te σ H ds) (k : ∀ l xs H1, H l = none → Ex H H1 → H1 l = some (.lst xs) → DpAll K H1 xs ds → tz D (σ.set i (some (.ref l))) H1) : tSeq (tAsg te (gName i)) tz D σ H := h H (Ex.refl H) _ fun l xs H1 hl e h1 hd => k l xs H1 hl e h1 hd
/-- a pick of such a list -/
theorem er_pickLD {E : XK} (hp : ∀ H1, Px p H H1 → Ev tp σ H1 (.ref p.1)) (hl : ∀ H1, Px p H H1 → EvLD K tl σ H1 ds) (hz : 0 < ds.length ∧ ds.length < 1073741824) : ErD p (tCall (spPick K) [] E (tCons tp (tCons tl tNil))) σ H (fun v H2 => ∃ d ∈ ds, Dp K H2 v d) := fun H1 x Q q =>
  hp H1 x H1 (Ex.refl H1) _ fun H2 e2 => hl H2 (x.ex e2) H2 (Ex.refl H2) _ fun l xs H3 hl0 e3 h3 a => ⟨p, l, xs, rfl, (x.pen.same e2).same e3, sq_of h3, by rw [dpAll_len a]; exact hz.1, by rw [dpAll_len a]; exact hz.2, fun v o hv hpn => by
    have p3 := (x.pen.same e2).same e3
    have x4 : Px p H3 (upd H3 p.1 o) := ⟨Kp.upd, hpn⟩
    obtain ⟨i, hi⟩ := List.getElem?_of_mem hv
    obtain ⟨d, hd1, hd2⟩ := dpAll_get a hi
    exact q _ _ ((Px.of x.pen (e2.trans e3)).trans x4) ⟨d, List.mem_of_getElem? hd1, x4.dp p3 hd2⟩⟩
/-- for x in a list of data: nothing but new objects are made within -/
theorem q_forDx {S : L2.St → Prop} {j : Nat} (h : EvD tl σ H (fun w H1 => Dp K H1 w (.list ds))) (h0 : S σ)
    (hs : ∀ d v σ' H', d ∈ ds → S σ' → Ex H H' → Dp K H' v d → ∀ N : L2.St → Hp → Prop, (∀ σ2 H2, S σ2 → Ex H' H2 → N σ2 H2) → tu { D with nx := N, ct := N, bk := tz D } (σ'.set j (some v)) H')
    (hd : ∀ σ' H', S σ' → Ex H H' → tz D σ' H') : tSeq (tFor (iSeq K tl) (gName j) tu) tz D σ H :=
  .inl (h H (Ex.refl H) _ fun w H1 e hw => by
    cases hw with
    | lst hl ha =>
      refine ⟨_, rfl, ⟨_, hl⟩, for_list (D := { D with nx := tz D }) (fun _ σ' H' => S σ' ∧ Ex H1 H') ⟨h0, Ex.refl H1⟩ (fun i σ' H' _ z => ex_l z.2 hl) (fun i x σ' H' hx z => ?_) (fun σ' H' z => hd σ' H' z.1 (e.trans z.2))⟩
      obtain ⟨d, hd1, hd2⟩ := dpAll_get ha hx
      exact hs d x σ' H' (List.mem_of_getElem? hd1) z.1 (e.trans z.2) (Dp.ext z.2 hd2) _ fun σ2 H2 s2 e2 => ⟨s2, z.2.trans e2⟩)
end
end Kb
set_option Elab.async false
set_option linter.all false
set_option maxRecDepth 100000
set_option maxHeartbeats 4000000
namespace Kb
open PySem PySem.Spec PyProof.Rows L2 Evl
section
variable {K : PySem.W.Frag} {σ : L2.St} {H H' H1 H2 : Hp} {te ta tb tl tp : TE} {tr : TA} {v w x : V} {d e : PyData} {vs xs ys : List V} {ds es : List PyData} {p : Addr × Addr} {Φ Φ' : V → Hp → Prop} {Ψ Ψ' : List V → Hp → Prop} {D : Ends} {tz tu : TS} {tt : TT} {r : R2} {a : Addr}
/-- a comprehension over range(lo, lo + n) -/
theorem el_lcR2 {vs : List Nat} {j n : Nat} {lo : Int} (f : Nat → Bool) (g : Nat → V) (h : EvA tr σ H [.int lo, .int (lo + (n : Int))]) (hlo : 0 ≤ lo ∧ lo ≤ 1000) (hn : n ≤ 40000) (hw : ∀ x, wipe ((wipe σ vs).set j (some x)) vs = wipe σ vs)
    (ht : ∀ (i : Nat) H1, Ex H H1 → i < n → EvT tt ((wipe σ vs).set j (some (.int (lo + (i : Int))))) H1 (f i)) (he : ∀ (i : Nat) H1, Ex H H1 → i < n → f i = true → Ev te ((wipe σ vs).set j (some (.int (lo + (i : Int))))) H1 (g i)) :
    EvL (tLc (iRng2 tr) (gName j) tt te vs) σ H (given n f g) := fun H0 e Q q => h H0 e _ fun H1 e1 => ⟨lo, lo + (n : Int), rfl, ⟨by omega, by omega, by omega, by omega⟩, fun Dl hD => by
  have en : (lo + (n : Int) - lo).toNat = n := by omega
  rw [en]
  exact lc_range (lo := lo) (n := n) (Cw H1 f g Dl) ⟨hD, Ex.new hD, upd_same⟩ (fun i H' hi p => ⟨hw _, cw_turn p (by omega) (ht i H1 (e.trans e1) hi) (fun hf => he i H1 (e.trans e1) hi hf)⟩) (fun H' p => q Dl H' (fresh_back e1 p.1) (e1.trans p.2.1) p.2.2)⟩
theorem eld_lcR2 {vs : List Nat} {j n : Nat} {lo : Int} (f : Nat → PyData) (h : EvA tr σ H [.int lo, .int (lo + (n : Int))]) (hlo : 0 ≤ lo ∧ lo ≤ 1000) (hn : n ≤ 40000) (hw : ∀ x, wipe ((wipe σ vs).set j (some x)) vs = wipe σ vs) (ht : ∀ σ' H1, EvT tt σ' H1 true) (hf : ∀ m, noLs ((List.range m).map f) = true)
    (he : ∀ (i : Nat) H1, Ex H H1 → i < n → EvD te ((wipe σ vs).set j (some (.int (lo + (i : Int))))) H1 (fun w H2 => Dp K H2 w (f i))) : EvLD K (tLc (iRng2 tr) (gName j) tt te vs) σ H ((List.range n).map f) := fun H0 e Q q => h H0 e _ fun H1 e1 => ⟨lo, lo + (n : Int), rfl, ⟨by omega, by omega, by omega, by omega⟩, fun Dl hD => by
  have en : (lo + (n : Int) - lo).toNat = n := by omega
  rw [en]
  refine lc_range (lo := lo) (n := n) (fun i H' => Ex H1 H' ∧ ∃ xs, H' Dl = some (.lst xs) ∧ DpAll K H' xs ((List.range i).map f)) ⟨Ex.new hD, [], upd_same, .nil⟩ (fun i H' hi p => ?_) (fun H' p => ?_)
  · obtain ⟨e2, xs, h2, hd⟩ := p
    have hl : xs.length = i := by rw [dpAll_len hd, List.length_map, List.length_range]
    refine ⟨hw _, ht _ H' H' (Ex.refl H') _ fun H3 e3 => he i H3 (((e.trans e1).trans e2).trans e3) hi H3 (Ex.refl H3) _ fun y H4 e4 hy => ⟨xs, (e3.trans e4) _ _ h2, sz_lt (by omega), ?_, xs ++ [y], upd_same, ?_⟩⟩
    · exact ((e2.trans e3).trans e4).mut hD
    · rw [List.range_succ, List.map_append]
      have hb := (e3.trans e4) _ _ h2
      refine dps_mu hb (dpAll_app (DpAll.ext (e3.trans e4) hd) (.cons hy .nil)) ?_
      have := hf (i + 1)
      rw [List.range_succ, List.map_append] at this
      exact this
  · obtain ⟨e2, xs, h2, hd⟩ := p
    exact q Dl xs H' (fresh_back e1 hD) (e1.trans e2) h2 hd⟩
theorem evd_tupLD (h : EvLD K te σ H ds) : EvD (tCB (rTupP K) (tCons te tNil)) σ H (fun w H1 => Pd K H1 w (.tuple ds)) := fun H1 e Q q =>
  h H1 e _ fun l xs H2 hl e2 h2 hd => ⟨l, xs, rfl, .inl ⟨sq_of h2, fun m o hm ho => q _ _ (e2.trans (Ex.new hm)) ⟨m, xs, ds, rfl, rfl, ⟨o, ho, upd_same⟩, DpAll.ext (Ex.new hm) hd⟩⟩⟩
/-- i, j = t -/
theorem q_asgU2 {i j : Nat} {y : V} (ha : Ev ta σ H (.ref a)) (h : SqT K H a [x, y]) (k : ∀ H1, Ex H H1 → tz D ((σ.set i (some x)).set j (some y)) H1) : tSeq (tAsg ta (gTup K 2 (gCons (gName i) (gCons (gName j) gNil)))) tz D σ H :=
  ha H (Ex.refl H) _ fun H1 e1 => ⟨a, _, rfl, ex_t e1 h, rfl, x, [y], rfl, y, [], rfl, rfl, k H1 e1⟩
/-- values that all keep a promise -/
theorem eda_all0 : EvDA tNil σ H (fun vs H1 => vs.length = 0 ∧ ∀ x ∈ vs, Φ x H1) := fun H1 _ Q q => q [] H1 (Ex.refl H1) ⟨rfl, fun x h => nomatch h⟩
theorem eda_all {n : Nat} (hm : ∀ v H1 H2, Ex H1 H2 → Φ v H1 → Φ v H2) (h : EvD te σ H Φ) (h2 : EvDA tr σ H (fun vs H1 => vs.length = n ∧ ∀ x ∈ vs, Φ x H1)) : EvDA (tCons te tr) σ H (fun vs H1 => vs.length = n + 1 ∧ ∀ x ∈ vs, Φ x H1) := fun H1 e Q q =>
  h H1 e _ fun v H2 e2 a => h2 H2 (e.trans e2) _ fun vs H3 e3 b => q (v :: vs) H3 (e2.trans e3) ⟨congrArg (· + 1) b.1, fun x hx => by
    rcases List.mem_cons.mp hx with rfl | hx
    · exact hm _ _ _ e3 a
    · exact b.2 x hx⟩
theorem evd_lstAll {n : Nat} (hm : ∀ v H1 H2, Ex H1 H2 → Φ v H1 → Φ v H2) (h : EvDA tr σ H (fun vs H1 => vs.length = n ∧ ∀ x ∈ vs, Φ x H1)) (hz : n ≤ 100000) : EvD (tLst tr) σ H (fun w H1 => ∃ l xs, w = .ref l ∧ H1 l = some (.lst xs) ∧ xs.length = n ∧ ∀ x ∈ xs, Φ x H1) := fun H1 e Q q =>
  h H1 e _ fun vs H2 e2 a => ⟨sz_of (by rw [a.1]; exact hz), fun l hl => q _ _ (e2.trans (Ex.new hl)) ⟨l, vs, rfl, upd_same, a.1, fun x hx => hm _ _ _ (Ex.new hl) (a.2 x hx)⟩⟩
theorem evd_s {z : Str} (h : Ev te σ H (.str z)) : EvD te σ H (fun w H1 => Dp K H1 w (.str z)) := ev_EvD h fun _ _ => .str z
theorem evd_n (h : Ev te σ H .non) : EvD te σ H (fun w H1 => Dp K H1 w .none) := ev_EvD h fun _ _ => .non
end
end Kb
set_option Elab.async false
set_option linter.all false
set_option maxRecDepth 100000
set_option maxHeartbeats 4000000
namespace Kb
open PySem PySem.Spec PyProof.Rows L2 LamX Evl
/-! ### a def that makes lambdas: its code object and table -/
structure DfT (K : PySem.W.Frag) (mg : Str → Option Value) (x : Str) (st : Stmt) (ps : List Str) (c : Addr) : Prop where
  ex : ∃ (f : Addr) (fd : FuncData), Fun K x x st f fd ∧ L2.Binds K fd ps [] ∧ PySem.W.keepIn K (.ref f) = true ∧ mg x = some (.ref f) ∧ fd.code = .ref c
theorem DfT.gz {P : Program} {w : World} {K : PySem.W.Frag} {mg : Str → Option Value} {base : Heap} {x : Str} {st : Stmt} {N ps : List Str} {k : Nat} {c : Addr} {sp : SpZ} (D : DfT K mg x st ps c) (S : FnScope N ps (defScope st)) (len : ∀ s fr vs H Q, sp s fr vs H Q → vs.length = ps.length)
    (hbody : ∀ (f : Addr) (A : Around) (outer : List Env) (s : Shared) (H : Hp) (vs : List V) (Q : VK), Room k (A.deeper (envOfC x (defScope st) s.heap.objs.size f (.ref c))) → A.guards = some [] → sp s (frs outer) vs H Q →
      ∃ t, PSs (cxOf C8.CX0 P w K mg base N x (defScope st) f (.ref c) A outer s H C8.E0).nox (defBody st) t ∧ t { nx := fun _ H' => Q .non H', rt := Q } (L2.start N vs) H) : Gz P w K mg base (k + 1) x ps sp := by
  obtain ⟨f, fd, F, b, kp, g, hc⟩ := D.ex
  obtain ⟨oc, od, kV, doc, pm, an, cdv, ct, osl, rfl, lk, hcd⟩ := F.ex
  have hc : cdv = .ref c := hc
  subst hc
  refine ⟨f, _, ⟨len, fun A outer s H args us vs Q hr hgd e0 hb r hsp => ?_⟩, b, kp, g⟩
  refine run_ofS lk hcd S hr e0 hb r (len _ _ _ _ _ hsp) fun hr' => ?_
  obtain ⟨t, h, q⟩ := hbody f A outer s H vs Q hr' hgd hsp
  exact ⟨t, h.nox, q⟩
/-! ### what stays: all but lists, dicts with keys, tables -/
def mutO : HO → Bool
  | .lst _ => true
  | .tbl _ => true
  | .dK _ => true
  | _ => false
def Sm (H H' : Hp) : Prop := ∀ b o, H b = some o → mutO o = false → H' b = some o
theorem Sm.refl (H : Hp) : Sm H H := fun _ _ h _ => h
theorem Sm.trans {H H1 H2 : Hp} (a : Sm H H1) (b : Sm H1 H2) : Sm H H2 := fun c o h n => b c o (a c o h n) n
theorem Sm.of {H H' : Hp} (e : Ex H H') : Sm H H' := fun b o h _ => e b o h
theorem Sm.extN {H H' : Hp} (e : ExtN H H') : Sm H H' := fun b o h n => e b o h fun ps z => by rw [z] at n; cases n
theorem Sm.mu {H : Hp} {l : Addr} {xs ys : List V} (h : H l = some (.lst xs)) : Sm H (upd H l (.lst ys)) := fun b o e n => by
  rw [upd_ne (fun z => by rw [z, h] at e; cases e; cases n)]
  exact e
theorem Sm.px {p : Addr × Addr} {H H' : Hp} (hp : Pen H p) (x : Px p H H') : Sm H H' := fun b o e n => x.at_ hp e fun kvs z => by rw [z] at n; cases n
section
variable {K : PySem.W.Frag} {H H' : Hp} {v : V} {d : PyData} {vs : List V} {ds : List PyData} {p : Addr × Addr}
theorem Sm.t {q : Addr} {zs : List V} (e : Sm H H') (h : SqT K H q zs) : SqT K H' q zs := by
  rcases h with (h | ⟨o2, h⟩) | h
  · exact .inl (.inl (e _ _ h rfl))
  · exact .inl (.inr ⟨o2, e _ _ h rfl⟩)
  · exact .inr h
mutual
theorem Sm.dp (e : Sm H H') : ∀ {v : V} {d : PyData}, Dp K H v d → noL d = true → Dp K H' v d
  | _, _, .non, _ => .non
  | _, _, .bl b, _ => .bl b
  | _, _, .int i, _ => .int i
  | _, _, .str x, _ => .str x
  | _, _, .lst h a, z => by simp [noL] at z
  | _, _, .tup h a, z => .tup (e.t h) (Sm.dps e a (by simpa [noL] using z))
theorem Sm.dps (e : Sm H H') : ∀ {vs : List V} {ds : List PyData}, DpAll K H vs ds → noLs ds = true → DpAll K H' vs ds
  | _, _, .nil, _ => .nil
  | _, _, .cons h a, z => by
    simp only [noLs, Bool.and_eq_true] at z
    exact .cons (Sm.dp e h z.1) (Sm.dps e a z.2)
end
theorem Sm.pd (e : Sm H H') (h : Pd K H v d) (hn : noL d = true) : Pd K H' v d := by
  obtain ⟨q, zs, ds, rfl, rfl, ⟨o, ho, h⟩, a⟩ := h
  exact ⟨q, zs, ds, rfl, rfl, ⟨o, ho, e _ _ h rfl⟩, e.dps a (by simpa [noL] using hn)⟩
theorem extN_l {q : Addr} {zs : List V} (e : ExtN H H') (h : SqL K H q zs) : SqL K H' q zs := by
  rcases h with (h | ⟨o2, h⟩) | h
  · exact .inl (.inl (e _ _ h (fun _ z => nomatch z)))
  · exact .inl (.inr ⟨o2, e _ _ h (fun _ z => nomatch z)⟩)
  · exact .inr h
theorem extN_t {q : Addr} {zs : List V} (e : ExtN H H') (h : SqT K H q zs) : SqT K H' q zs := (Sm.extN e).t h
mutual
theorem dp_extN (e : ExtN H H') : ∀ {v : V} {d : PyData}, Dp K H v d → Dp K H' v d
  | _, _, .non => .non
  | _, _, .bl b => .bl b
  | _, _, .int i => .int i
  | _, _, .str x => .str x
  | _, _, .lst h a => .lst (extN_l e h) (dps_extN e a)
  | _, _, .tup h a => .tup (extN_t e h) (dps_extN e a)
theorem dps_extN (e : ExtN H H') : ∀ {vs : List V} {ds : List PyData}, DpAll K H vs ds → DpAll K H' vs ds
  | _, _, .nil => .nil
  | _, _, .cons h a => .cons (dp_extN e h) (dps_extN e a)
end
theorem Pen.extN (h : Pen H p) (e : ExtN H H') : Pen H' p := by
  obtain ⟨cs, a, d, n, f, h⟩ := h
  exact ⟨cs, a, d, n, f, e _ _ h.at_ (fun _ z => nomatch z), e _ _ h.cells (fun _ z => nomatch z), h.len, h.a0, h.d0, h.n0, h.f0⟩
theorem Tabs.mu {T : List (Addr × Str)} {l : Addr} {xs ys : List V} (h : H l = some (.lst xs)) (t : Tabs T H) : Tabs T (upd H l (.lst ys)) := fun q hq => by
  obtain ⟨ps, h1, h2, h3⟩ := t q hq
  refine ⟨ps, by rw [upd_ne (fun z => by rw [z, h] at h1; cases h1)]; exact h1, h2, fun pos cv hc => ?_⟩
  obtain ⟨c, e1, e2⟩ := h3 pos cv hc
  exact ⟨c, e1, by rw [upd_ne (fun z => by rw [z, h] at e2; unfold CodeO at e2; cases e2)]; exact e2⟩
end
end Kb
set_option Elab.async false
set_option linter.all false
set_option maxRecDepth 100000
set_option maxHeartbeats 4000000
namespace Kb
open PySem PySem.Spec PyProof.Rows L2 LamX Evl
/-! ### items (lambda, due) of the calls -/
def lamT (x : Str) (tb : Addr) : List (Addr × Str) := [(tb, x ++ ".<locals>." ++ "<lambda>")]
structure XN (T : List (Addr × Str)) (H H' : Hp) : Prop where
  e : ExtN H H'
  t : Tabs T H'
  n : ∀ b, H' b = none → H b = none
theorem XN.of {T : List (Addr × Str)} {H H' : Hp} (t : Tabs T H) (e : Ex H H') : XN T H H' := ⟨fun b o h _ => e b o h, t.ext e, fun b h => fresh_back e h⟩
theorem XN.trans {T : List (Addr × Str)} {H H1 H2 : Hp} (a : XN T H H1) (b : XN T H1 H2) : XN T H H2 := ⟨a.e.trans b.e, b.t, fun c h => a.n c (b.n c h)⟩
def Itm (K : PySem.W.Frag) (q : Str) (params : Arguments) (body : Expr) (scope : Scope) (cl : List (Str × Addr)) (ds : List V) (tup : Addr) (H : Hp) : Prop := ∃ f due c' : Addr, H tup = some (.tup [.ref f, .ref due]) ∧ SqT K H due ds ∧ H f = some (LamO f ⟨q, params, body, scope, cl, c'⟩) ∧ H c' = some (CodeO c' q)
section
variable {K : PySem.W.Frag} {σ : L2.St} {H H' H1 H2 : Hp} {q : Str} {params : Arguments} {body : Expr} {scope : Scope} {cl : List (Str × Addr)} {ds : List V} {tup : Addr} {X : Cx} {T : List (Addr × Str)} {td : TE} {Q : VK}
theorem Itm.sm (h : Itm K q params body scope cl ds tup H) (e : Sm H H') : Itm K q params body scope cl ds tup H' := by
  obtain ⟨f, due, c', h1, h2, h3, h4⟩ := h
  exact ⟨f, due, c', e _ _ h1 rfl, e.t h2, e _ _ h3 rfl, e _ _ h4 rfl⟩
theorem rd_item (hT : Tabs T H) (hd : ∀ H1, ExtN H H1 → ∀ Q' : VK, (∀ due H2, Ex H1 H2 → SqT K H2 due ds → Q' (.ref due) H2) → td σ H1 Q') (k : ∀ tup H2, XN T H H2 → Itm K (X.env.qual ++ "<lambda>") params body scope (cloFrom X.env.cells scope.names []) ds tup H2 → Q (.ref tup) H2) :
    tTup (tCons (tLamT X T params body scope) (tCons td tNil)) σ H Q :=
  ⟨hT, fun f c' H1 e1 n1 t1 hf hf1 hc1 => hd H1 e1 _ fun due H2 e2 h2 => ⟨sz_of (show 2 ≤ 100000 by decide), fun tup htup => by
    have e3 := Ex.new (o := .tup [.ref f, .ref due]) htup
    exact k tup _ (XN.trans ⟨e1, t1, n1⟩ (XN.of t1 (e2.trans e3))) ⟨f, due, c', upd_same, ex_t e3 h2, e3 _ _ (e2 _ _ hf1), e3 _ _ (e2 _ _ hc1)⟩⟩⟩
theorem rsItem_of {pins : List (Addr × Obj)} {s1 : Shared} {k c : Nat} {cA : Nat → Addr} {fs : List (Str × V)} {ys : List V} {v : V} {es : List PyData} {d : PyData} {tb : XK → TE} (I : L2.Inv X pins σ H s1) (hfn : ∀ x, X.fn x = true) (hst : X.stack = X.env :: X.outer) (hfrm : X.env.frame = some X.env.locals) (L : LamS X.env.scope scope)
    (h : Itm X.K (X.env.qual ++ "<lambda>") params body scope (cloFrom X.env.cells scope.names []) (ys ++ [v]) tup H)
    (hbind : ∀ (cl : List (Str × Addr)) (pm cv ctv : Value), bindArgs (PySem.W.kla_fn "<lambda>" (X.env.qual ++ "<lambda>") params body scope cl pm cv ctv) ⟨[], []⟩ = pure [])
    (hbody : ∀ (f c' : Addr) (A : Around) (outer : List Env) (s : Shared) (H : Hp) (E : XK), Room k (A.deeper (lamEnv X scope s.heap.objs.size f c')) → PE (lamCx X A outer s H E scope f c') body (tb E))
    (hc : c < 8) (hr2 : ∀ H' (E : XK), Ex H H' → Rs E H' (cA c) fs → Rx (tb E) σ H') (hFo : Fo c fs (ys ++ [v])) (h1 : DpAll X.K H ys es) (h2 : SeqAt.shaped (.tuple es) = true) (h3 : Dp X.K H v d) (h4 : d.hasDict = false) (h5 : Sh d) :
    RsItem X.prog X.w X.K X.mg X.base (k + 1) cA s1 (frs X.stack) H (.ref tup) := by
  obtain ⟨f, due, c', a1, a2, a3, a4⟩ := h
  exact ⟨tup, f, due, _, c, fs, ys, v, es, d, rfl, st_of a1, lamAt_of I hfn hst hfrm L a3 a4 hbind (fun A outer s H E hr => hbody f c' A outer s H E hr), hc, fun H' e Q E r => hr2 H' E e r H' (Ex.refl H') Q, hFo, a2, h1, h2, h3, h4, h5⟩
theorem eu3 {tr : TA} {x y z : V} (h : EvA tr σ H [x, y, z]) : EvU (tTup tr) σ H ([x, y] ++ [z]) := eu_tup (vs := [x, y, z]) h (show 3 ≤ 100000 by decide)
theorem if_cz {sp : SpZ} {te : TE} {tz : TS} {D : Ends} (h : te σ H (fun l H1 => ∀ pins s1, L2.Inv X pins σ H1 s1 → sp s1 (frs X.stack) [l] H1 (fun v H2 => ∃ b, v = .bl b ∧ (if (!b) = true then tz D σ H2 else D.nx σ H2)))) : tIfS (tNot (tB (tCallZ X sp (tCons te tNil)))) tz tNext D σ H := h
theorem q_ifcz {sp : SpZ} {te : TE} {tz tu : TS} {D : Ends} (h : te σ H (fun l H1 => ∀ pins s1, L2.Inv X pins σ H1 s1 → sp s1 (frs X.stack) [l] H1 (fun v H2 => ∃ b, v = .bl b ∧ (if (!b) = true then tz { D with nx := tu D } σ H2 else tu D σ H2)))) : tSeq (tIfS (tNot (tB (tCallZ X sp (tCons te tNil)))) tz tNext) tu D σ H := h
theorem if_czA {sp : SpZ} {ta : TA} {tz : TS} {D : Ends} (h : ta σ H (fun vs H1 => ∀ pins s1, L2.Inv X pins σ H1 s1 → sp s1 (frs X.stack) vs H1 (fun v H2 => ∃ b, v = .bl b ∧ (if (!b) = true then tz D σ H2 else D.nx σ H2)))) : tIfS (tNot (tB (tCallZ X sp ta))) tz tNext D σ H := h
theorem lst1 {te : TE} (h : te σ H (fun v H1 => [v].length ≤ sizeLine ∧ ∀ l, H1 l = none → Q (.ref l) (upd H1 l (.lst [v])))) : tLst (tCons te tNil) σ H Q := h
theorem q_asgT {te : TE} {tz : TS} {D : Ends} {i : Nat} (h : te σ H (fun v H1 => tz D (σ.set i (some v)) H1)) : tSeq (tAsg te (gName i)) tz D σ H := h
theorem q_dropT {te : TE} {tz : TS} {D : Ends} (h : te σ H (fun _ H1 => tz D σ H1)) : tSeq (tDrop te) tz D σ H := h
theorem Tabs.px {p : Addr × Addr} (hp : Pen H p) (x : Px p H H') (t : Tabs T H) : Tabs T H' := fun q hq => by
  obtain ⟨ps, h1, h2, h3⟩ := t q hq
  refine ⟨ps, x.at_ hp h1 (fun _ z => nomatch z), h2, fun pos cv hc => ?_⟩
  obtain ⟨c, e1, e2⟩ := h3 pos cv hc
  exact ⟨c, e1, x.at_ hp e2 (fun _ z => by unfold CodeO at z; cases z)⟩
theorem qr_asgU3 {p : Addr × Addr} {tr : TA} {tz : TS} {D : Ends} {i j l : Nat} {R : V → V → V → Hp → Prop} (hp : Pen H p) (h : ErA p tr σ H (fun vs H1 => ∃ x y z, vs = [x, y, z] ∧ R x y z H1)) (hm : ∀ x y z H1 H2, Ex H1 H2 → R x y z H1 → R x y z H2)
    (k : ∀ x y z H1, Px p H H1 → R x y z H1 → tz D (((σ.set i (some x)).set j (some y)).set l (some z)) H1) : tSeq (tAsg (tTup tr) (gTup K 3 (gCons (gName i) (gCons (gName j) (gCons (gName l) gNil))))) tz D σ H :=
  h H (Px.refl hp) _ fun vs H1 x1 ⟨x, y, z, e, hR⟩ => by
    subst e
    exact ⟨sz_of (show 3 ≤ 100000 by decide), fun t ht => ⟨t, _, rfl, st_of upd_same, rfl, x, [y, z], rfl, y, [z], rfl, z, [], rfl, rfl, k x y z _ (x1.ex (Ex.new ht)) (hm x y z _ _ (Ex.new ht) hR)⟩⟩
theorem q_forErD {p : Addr × Addr} {tl : TE} {g : TG} {tu tz : TS} {D : Ends} {Ψ : List V → Hp → Prop} (hp : Pen H p) (h : ErD p tl σ H (fun v H1 => ∃ l xs, v = .ref l ∧ H1 l = some (.lst xs) ∧ Ψ xs H1))
    (k : ∀ l xs H1, Px p H H1 → H1 l = some (.lst xs) → Ψ xs H1 → ∃ Pv : Nat → L2.St → Hp → Prop, Pv 0 σ H1 ∧ (∀ i σ' H', i ≤ xs.length → Pv i σ' H' → SqL K H' l xs) ∧
      (∀ i x σ' H', xs[i]? = some x → Pv i σ' H' → g x σ' H' fun σ2 H2 => tu { ({ D with nx := tz D } : Ends) with nx := Pv (i + 1), ct := Pv (i + 1), bk := tz D } σ2 H2) ∧ (∀ σ' H', Pv xs.length σ' H' → tz D σ' H')) : tSeq (tFor (iSeq K tl) g tu) tz D σ H :=
  .inl (h H (Px.refl hp) _ fun v H1 x1 ⟨l, xs, e, hl, hΨ⟩ => by
    obtain ⟨Pv, h0, h1, h2, h3⟩ := k l xs H1 x1 hl hΨ
    exact ⟨l, e, ⟨xs, sq_of hl⟩, for_list (D := { D with nx := tz D }) Pv h0 h1 h2 h3⟩)
theorem q_appItm {l : Addr} {xs : List V} {i : Nat} {tz : TS} {D : Ends} (hσ : σ[i]? = some (some (.ref l))) (hl : H l = some (.lst xs)) (hz : xs.length ≤ 1000) (hT : Tabs T H) (hd : ∀ H1, ExtN H H1 → ∀ Q' : VK, (∀ due H2, Ex H1 H2 → SqT K H2 due ds → Q' (.ref due) H2) → td σ H1 Q')
    (k : ∀ tup H2, XN T H H2 → H2 l = some (.lst xs) → Itm K (X.env.qual ++ "<lambda>") params body scope (cloFrom X.env.cells scope.names []) ds tup H2 → tz D σ (upd H2 l (.lst (xs ++ [.ref tup])))) :
    tSeq (tDrop (tBM K "list" rAppend (tVar i) (tCons (tTup (tCons (tLamT X T params body scope) (tCons td tNil))) tNil))) tz D σ H :=
  s_appG (D := { D with nx := tz D }) (ev_var hσ) (sq_of hl) fun H1 e1 => rd_item (hT.ext e1) (fun H2 e2 Q' q => hd H2 ((ExtN.of e1).trans e2) Q' q) fun tup H2 xn hitm => by
    have hl2 := xn.e _ _ (e1 _ _ hl) (fun _ z => nomatch z)
    exact ⟨xs, hl2, sz_lt (by omega), k tup H2 (XN.trans (XN.of hT e1) xn) hl2 hitm⟩
end
end Kb
set_option Elab.async false
set_option linter.all false
set_option maxRecDepth 100000
set_option maxHeartbeats 4000000
namespace Kb
open PySem PySem.Spec PyProof.Rows L2 LamX Evl
/-- the law's own state: a pair of two plain tuples of rows -/
def LS (K : PySem.W.Frag) (H : Hp) (v : V) (ns cs : List (Key × Int)) : Prop := ∃ t v1 v2, v = .ref t ∧ SqT K H t [v1, v2] ∧ Pd K H v1 (rowsD ns) ∧ Pd K H v2 (rowsD cs)
theorem LS.ext {K : PySem.W.Frag} {H H' : Hp} {v : V} {ns cs : List (Key × Int)} (h : LS K H v ns cs) (e : Ex H H') : LS K H' v ns cs := by
  obtain ⟨t, v1, v2, h1, h2, h3, h4⟩ := h
  exact ⟨t, v1, v2, h1, ex_t e h2, h3.ext e, h4.ext e⟩
theorem LS.dp {K : PySem.W.Frag} {H : Hp} {v : V} {ns cs : List (Key × Int)} (h : LS K H v ns cs) : Dp K H v (.tuple [rowsD ns, rowsD cs]) := by
  obtain ⟨t, v1, v2, rfl, h2, h3, h4⟩ := h
  exact .tup h2 (.cons h3.dp (.cons h4.dp .nil))
def spLVal (K : PySem.W.Frag) : Sp := fun vs H Q _ => ∃ v z g ns cs, vs = [v, .str z, .ref g] ∧ LS K H v ns cs ∧ SqT K H g [] ∧ ns.length ≤ 1000 ∧ ∀ H', Ex H H' → Q (.int ((lookI ns (.inr z)).getD 0)) H'
def spLVals (K : PySem.W.Frag) : Sp := fun vs H Q _ => ∃ v ns cells, vs = [v] ∧ LS K H v ns (cells.map cI) ∧ ns.length + 2 * cells.length ≤ 1000 ∧ ∀ p H', H p = none → Ex H H' → H' p = some (.lst ((valsI (intsOf ns cells)).map V.int)) → Q (.ref p) H'
def spLCont (K : PySem.W.Frag) : Sp := fun vs H Q _ => ∃ v i cs, vs = [v, .int i] ∧ Dp K H v (rowsD cs) ∧ cs.length ≤ 1000 ∧ (∀ p ∈ cs, ∃ j, p.1 = .inl j) ∧ ∀ H', Ex H H' → Q (((lookI cs (.inl i)).map V.int).getD .non) H'
theorem key_inj {k l : Key} (h : kV k = kV l) : k = l := by
  cases k <;> cases l <;> first | (have z := V.int.inj h; rw [z]) | (have z := V.str.inj h; rw [z]) | cases h
theorem key_dec (k l : Key) : decide (kV k = kV l) = decide (k = l) := decide_eq_decide.mpr ⟨key_inj, fun h => by rw [h]⟩
theorem key_scal (k l : Key) : scal (kV k) (kV l) = true := by cases k <;> cases l <;> rfl
theorem look_filter (kvs : List (Key × Int)) (k : Key) : lookI kvs k = ((kvs.filter fun p => decide (p.1 = k)).map (·.2)).head? := by
  unfold lookI
  rw [List.head?_map, List.head?_filter]
section
variable {P : Program} {w : World} {K : PySem.W.Frag} {mg : Str → Option Value} {base : Heap} {C BR : Addr}
theorem ok_law_content (B : Bi mg) (D : Df K mg "_law_content" s__law_content ["heap", "address"]) : Gv P w K mg base CX0 1 "_law_content" ["heap", "address"] (spLCont K) := by
  have nd := sc__law_content.nd
  refine D.gv sc__law_content (fun vs H Q E h => ?_) (fun f cdv A outer s H vs Q E hr h => ?_)
  · obtain ⟨v, i, cs, rfl, _⟩ := h
    rfl
  have hu64 := hu64_of hr
  refine ⟨_, (pss_cons (ps_setLc (i := 2) (own := [("own", 3), ("value", 4)]) rfl nd rfl rfl (sw_true rfl rfl rfl (by decide +kernel)) (piA_seq (pv 0)) (blk_ok (by kernel_rfl)) (fun _ _ _ _ _ => (pgK_tup (K := K) (n := 2) rfl rfl (pgs_cons (pg_name (i := 3) nd rfl (.inl rfl)) (pgs_cons (pg_name (i := 4) nd rfl (.inl rfl)) pgs_nil)))) (fun _ _ _ _ _ => (pts_one (pt_cmpR (r := rEqA K) (opA_eq hu64) (pv 3) (pv 1) (nomark _)))) (fun _ _ _ _ _ => (pv 4)))
    (pss_one (ps_ret (pe_ifExp (pt_cmpR (r := rNeA K) (opA_ne hu64) (pv 2) (pe_lst pa_nil) (nomark _)) (pe_ix (r := rIx K) ix_seq (pv 2) pe_int (fun _ _ => rfl)) pe_non)))), ?_⟩
  obtain ⟨v, i, cs, rfl, hv, hlen, hk, hQ⟩ := h
  cases hv with
  | @tup a xs _ hx hd =>
  have hp := rows_prt hd
  have hxl : xs.length = cs.length := by rw [hp.len, List.length_map]
  have look : ∀ {j : Nat} {u : V × V}, (cs.map fun p => (kV p.1, V.int p.2))[j]? = some u → u = (kV (cs.getD j (.inl 0, 0)).1, V.int (cs.getD j (.inl 0, 0)).2) := fun {j u} hu => by
    rw [List.getElem?_map] at hu
    cases hc : cs[j]? with
    | none => rw [hc] at hu; cases hu
    | some c =>
      rw [hc] at hu
      cases hu
      rw [getD_some hc]
  refine q_asgL (el_is (el_prt (fun j => decide ((cs.getD j (.inl 0, 0)).1 = .inl i)) (fun j => V.int (cs.getD j (.inl 0, 0)).2) (ev_var rfl) hx hp (by omega) (fun _ _ => rfl) (fun j u H1 e hu => et_test (ev_is (ev_op (y := .int i) (ev_var rfl) (ev_var rfl) (rv_eqs (by rw [look hu]; exact key_scal _ (.inl i)))) ?_)) (fun j u H1 e hu _ => ev_is (ev_var rfl) (by rw [look hu]))) (given_key cs fun k => decide (k = .inl i))) (fun l H1 hl e1 h1 => ?_)
  · rw [look hu]
    exact congrArg V.bl (key_dec _ (.inl i))
  obtain ⟨zs, hzs⟩ : ∃ zs : List Int, zs = (cs.filter fun p => decide (p.1 = .inl i)).map (·.2) := ⟨_, rfl⟩
  have h1 : H1 l = some (.lst (zs.map V.int)) := by rw [h1, hzs, List.map_map]; rfl
  have hlook : lookI cs (.inl i) = zs.head? := by rw [hzs]; exact look_filter cs _
  rw [hlook] at hQ
  refine s_ret (ev_if (b := !decide (zs = [])) (et_test (ev_is (ev_neNilH (ds := zs.map PyData.int) (ev_var rfl) (sq_of h1) (fun H2 e2 => el_lst ea_nil (Nat.zero_le _)) dpAll_ints (shaped_ints zs)) (congrArg (fun b => V.bl (!b)) (decide_eq_decide.mpr List.map_eq_nil_iff)))) (fun b => ?_) (fun b => ?_)) (fun H2 e2 => hQ H2 (e1.trans e2))
  · cases zs with
    | nil => cases b
    | cons z zs => exact ev_op (ev_var rfl) ev_c (rv_iL (v := .int z) (sq_of h1) (atI_nat (j := 0) rfl))
  · cases zs with
    | nil => exact ev_c
    | cons z zs => cases b
theorem ok_law_values (B : Bi mg) (g__law_unlike : Gv P w K mg base CX0 1 "_law_unlike" ["row"] (spUnlike K)) (D : Df K mg "_law_values" s__law_values ["state"]) : Gv P w K mg base CX0 2 "_law_values" ["state"] (spLVals K) := by
  have nd := sc__law_values.nd
  refine D.gv sc__law_values (fun vs H Q E h => ?_) (fun f cdv A outer s H vs Q E hr h => ⟨_, (pss_cons (ps_setLc (i := 1) (own := [("name", 4), ("value", 3)]) rfl nd rfl rfl (sw_true rfl rfl rfl (by decide +kernel)) (piA_seq (pe_ix (r := rIx K) ix_seq (pv 0) pe_int (fun _ _ => rfl))) (blk_ok (by kernel_rfl)) (fun _ _ _ _ _ => (pgK_tup (K := K) (n := 2) rfl rfl (pgs_cons (pg_name (i := 4) nd rfl (.inl rfl)) (pgs_cons (pg_name (i := 3) nd rfl (.inl rfl)) pgs_nil)))) (fun _ _ _ _ _ => pts_nil) (fun _ _ _ _ _ => (pv 3)))
    (pss_cons (ps_for PassesOwn.never rfl (piA_seq (pe_ix (r := rIx K) ix_seq (pv 0) pe_int (fun _ _ => rfl))) (pgK_tup (K := K) (n := 2) rfl rfl (pgs_cons (pg_name (i := 2) nd rfl (.inl rfl)) (pgs_cons (pg_name (i := 3) nd rfl (.inl rfl)) pgs_nil))) (pss_one (ps_expr (pe_bmK (K := K) rfl PySem.F.plainAttrs_list PySem.F.slot_list_extend PySem.F.type_list_extend mt_extend (pv 1) (pa_cons (pe_lst (pa_cons (pv 2) (pa_cons (pv 3) pa_nil))) pa_nil)))))
    (pss_one (ps_ret (pe_lc (own := [("value", 3)]) rfl nd (piA_seq (pe_cg g__law_unlike hr rfl pass0 (pa_cons (pv 1) pa_nil))) (blk_ok (by kernel_rfl)) (fun _ _ _ _ _ => (pg_name (i := 3) nd rfl (.inl rfl))) (fun _ _ _ _ _ => (pts_one (pt_cmpR op_gt (pv 3) pe_int (nomark _)))) (fun _ _ _ _ _ => (pv 3))))))), ?_⟩)
  · obtain ⟨v, ns, cells, rfl, _⟩ := h
    rfl
  obtain ⟨v, ns, cells, rfl, ⟨t, v1, v2, rfl, ht, h3, h4⟩, hlen, hQ⟩ := h
  obtain ⟨p1, xs1, ds1, rfl, e1, hx1, hd1⟩ := h3
  obtain ⟨p2, xs2, ds2, rfl, e2, hx2, hd2⟩ := h4
  have e1 := PyData.tuple.inj e1
  have e2 := PyData.tuple.inj e2
  subst e1 e2
  have q1 := rows_prt hd1
  have q2 := rows_prt hd2
  have l1 : xs1.length = ns.length := by rw [q1.len, List.length_map]
  refine q_asgL (xs := ns.map fun p => V.int p.2) (el_is (el_prt (fun _ => true) (fun j => V.int (ns.getD j (.inl 0, 0)).2) (ev_op (ev_var rfl) ev_c (rv_iT ht (i := 0) rfl)) hx1.t q1 (by omega) (fun _ _ => rfl) (fun j u H1 e hu => et_true fun _ _ _ q => q) (fun j u H1 e hu _ => ?_)) (by
    rw [List.length_map]
    exact given_mapT ns (.inl 0, 0) fun p => V.int p.2)) (fun l H1 hl e1 h1 => ?_)
  · rw [List.getElem?_map] at hu
    cases hc : ns[j]? with
    | none => rw [hc] at hu; cases hu
    | some c =>
      rw [hc] at hu
      cases hu
      rw [getD_some hc]
      exact ev_var rfl
  refine q_forPr (us := (cells.map cI).map fun p : Key × Int => (kV p.1, V.int p.2)) (ds := (cells.map cI).map rowD) (ev_op (ev_var rfl) ev_c (rv_iT (ex_t e1 ht) (i := 1) rfl)) (ex_t e1 hx2.t) q2.len
    (fun i σ' H' => (∃ x y z, σ' = [some (.ref t), some (.ref l), x, y, z]) ∧ Ex H H' ∧ H' l = some (.lst ((intsOf ns (cells.take i)).map V.int)))
    (fun H2 e2 => ⟨⟨_, _, _, rfl⟩, e1.trans e2, by
      have z := e2 _ _ h1
      rw [z, List.take_zero]
      unfold intsOf
      rw [List.flatMap_nil, List.append_nil, List.map_map]
      rfl⟩) (fun i σ' H' _ p => ⟨ex_t p.2.1 hx2.t, Prt.ext p.2.1 q2⟩) (fun i u σ' H' hu p => ?_) (fun σ' H' p => ?_)
  · obtain ⟨⟨x, y, z, rfl⟩, ex, hk⟩ := p
    obtain ⟨c, hc⟩ : ∃ c, cells[i]? = some c := by
      cases hn : cells[i]? with
      | none =>
        rw [List.getElem?_map, List.getElem?_map, hn] at hu
        cases hu
      | some c => exact ⟨c, rfl⟩
    rw [List.getElem?_map, List.getElem?_map, hc] at hu
    cases hu
    have hl2 : (intsOf ns (cells.take i)).length ≤ 1000 := by
      rw [intsOf_len]
      have : (cells.take i).length ≤ cells.length := by simp; omega
      omega
    refine s_extend (ys := [.int c.1, .int c.2]) hk (ev_var rfl) (el_lst (ea_cons (ev_var rfl) (ea_cons (ev_var rfl) ea_nil)) (show 2 ≤ 100000 by decide)) (by rw [List.length_map]; simp only [List.length_cons, List.length_nil]; omega) (fun H2 e2 => ?_)
    refine ⟨⟨_, _, _, rfl⟩, (ex.trans e2).mut hl, ?_⟩
    rw [upd_same, List.take_succ, hc, Option.toList_some]
    unfold intsOf
    rw [List.flatMap_append, ← List.append_assoc, List.map_append (l₁ := _ ++ _)]
    rfl
  · obtain ⟨⟨x, y, z, rfl⟩, ex, hk⟩ := p
    have hlc : ((cells.map cI).map fun p : Key × Int => (kV p.1, V.int p.2)).length = cells.length := by simp
    rw [hlc, List.take_length] at hk
    have hln := intsOf_len ns cells
    refine s_retL (el_sieveN (ns := uniqI (intsOf ns cells)) (fun i => decide (i > 0)) (el_call (ea_cons (ev_var rfl) ea_nil) (fun H2 e2 Q q E => ⟨l, rfl, .inl ⟨intsOf ns cells, ex_l e2 (sq_of hk), by omega, q⟩⟩)) ?_ (fun _ => rfl) (fun n H1 e => et_test (ev_op (ev_var rfl) ev_c rv_I0)) (fun n H1 => ev_var rfl)) (fun p H4 hp e4 h4 => ?_)
    · unfold uniqI
      rw [(srt_perm _).length_eq]
      have := dd_len (intsOf ns cells) []
      simp only [List.length_nil] at this
      omega
    · exact hQ p H4 (fresh_back ex hp) (ex.trans e4) h4
end
end Kb
set_option Elab.async false
set_option linter.all false
set_option maxRecDepth 100000
set_option maxHeartbeats 4000000
namespace Kb
open PySem PySem.Spec PyProof.Rows L2 LamX Evl
/-- a State whose parts are plain tuples -/
def StPd (K : PySem.W.Frag) (H : Hp) (C : Addr) (a : Addr) (s h : PyData) : Prop := ∃ dx v1 v2, H a = some (.ins C dx [("store", v1), ("heap", v2)]) ∧ Pd K H v1 s ∧ Pd K H v2 h
section
variable {P : Program} {w : World} {K : PySem.W.Frag} {mg : Str → Option Value} {base : Heap} {C BR : Addr} {σ : L2.St} {H : Hp} {tr : TA} {E : XK} {v1 v2 : V} {d1 d2 : PyData}
/-- State(a, b), all right -/
theorem evd_state (ha : EvA tr σ H [v1, v2]) (h1 : Dp K H v1 d1) (h2 : Dp K H v2 d2) (ht : RowsTxt (asTup d1)) (hs : storeD (asTup d1) = true) (hh : heapD (asTup d2) = true) :
    EvD (tMake C (spSInit K C BR) [] E tr) σ H (fun w H1 => ∃ a, w = .ref a ∧ StAt K H1 C a (asTup d1) (asTup d2) ∧ (((tupD d1).isSome = true → Pd K H v1 d1) → ((tupD d2).isSome = true → Pd K H v2 d2) → StPd K H1 C a (asTup d1) (asTup d2))) := fun H1 e Q q =>
  ha H1 e _ fun H2 e2 x dx hx hdx ne => by
    have e12 := e.trans e2
    have E3 : Ex H2 (upd (upd H2 dx (.own x)) x (.ins C dx [])) := (Ex.new hdx).trans (Ex.new (by rw [upd_ne (Ne.symm ne)]; exact hx))
    have E03 := e12.trans E3
    refine ⟨x, dx, v1, v2, d1, d2, rfl, upd_same, Dp.ext E03 h1, Dp.ext E03 h2, ht, (fun z => by rw [hs] at z; cases z), (fun _ z => by rw [hh] at z; cases z), fun _ _ w1 w2 H' kp q1 q2 p1 p2 hx' => ⟨rfl, ?_⟩⟩
    have E4 : Ex H2 H' := fun b o hb => kp b o (E3 b o hb) (fun z => by rw [z, hx] at hb; cases hb)
    exact q _ _ (e2.trans E4) ⟨x, rfl, ⟨dx, w1, w2, hx', q1, q2⟩, fun z1 z2 => ⟨dx, w1, w2, hx', p1 fun t => (z1 t).ext E03, p2 fun t => (z2 t).ext E03⟩⟩
/-- State(a, b) raises -/
theorem rx_state1 (ha : EvA tr σ H [v1, v2]) (h1 : Dp K H v1 d1) (h2 : Dp K H v2 d2) (ht : RowsTxt (asTup d1)) (hs : storeD (asTup d1) = false) (hR : Rs E H BR [("row", v1), ("what", .str "store")]) : Rx (tMake C (spSInit K C BR) [] E tr) σ H := fun H1 e Q =>
  ha H1 e _ fun H2 e2 x dx hx hdx ne => by
    have E3 : Ex H2 (upd (upd H2 dx (.own x)) x (.ins C dx [])) := (Ex.new hdx).trans (Ex.new (by rw [upd_ne (Ne.symm ne)]; exact hx))
    have E03 := (e.trans e2).trans E3
    exact ⟨x, dx, v1, v2, d1, d2, rfl, upd_same, Dp.ext E03 h1, Dp.ext E03 h2, ht, fun _ => hR.ext E03, (fun z => by rw [hs] at z; cases z), fun z => by rw [hs] at z; cases z⟩
theorem rx_state2 (ha : EvA tr σ H [v1, v2]) (h1 : Dp K H v1 d1) (h2 : Dp K H v2 d2) (ht : RowsTxt (asTup d1)) (hs : storeD (asTup d1) = true) (hh : heapD (asTup d2) = false) (hR : Rs E H BR [("row", v2), ("what", .str "heap")]) : Rx (tMake C (spSInit K C BR) [] E tr) σ H := fun H1 e Q =>
  ha H1 e _ fun H2 e2 x dx hx hdx ne => by
    have E3 : Ex H2 (upd (upd H2 dx (.own x)) x (.ins C dx [])) := (Ex.new hdx).trans (Ex.new (by rw [upd_ne (Ne.symm ne)]; exact hx))
    have E03 := (e.trans e2).trans E3
    exact ⟨x, dx, v1, v2, d1, d2, rfl, upd_same, Dp.ext E03 h1, Dp.ext E03 h2, ht, (fun z => by rw [hs] at z; cases z), (fun _ _ => hR.ext E03), fun _ z => by rw [hh] at z; cases z⟩
def spLState (K : PySem.W.Frag) (C : Addr) : Sp := fun vs H Q _ => ∃ t v1 v2 d1 d2, vs = [.ref t] ∧ SqT K H t [v1, v2] ∧ Dp K H v1 d1 ∧ Dp K H v2 d2 ∧ RowsTxt (asTup d1) ∧ storeD (asTup d1) = true ∧ heapD (asTup d2) = true ∧ ∀ a H', Ex H H' → StAt K H' C a (asTup d1) (asTup d2) → Q (.ref a) H'
theorem ok_law_state (B : Bi mg) (m_State : Mkr P w K mg base (L2.CX P w) 5 "State" C ["self", "store", "heap"] (spSInit K C BR)) (D : Df K mg "_law_state" s__law_state ["state"]) : Gv P w K mg base CX0 7 "_law_state" ["state"] (spLState K C) := by
  refine D.gv sc__law_state (fun vs H Q E h => ?_) (fun f cdv A outer s H vs Q E hr h => ⟨_, (pss_one (ps_ret (pe_mk m_State hr rfl passE0 (pa_cons (pe_ix (r := rIx K) ix_seq (pv 0) pe_int (fun _ _ => rfl)) (pa_cons (pe_ix (r := rIx K) ix_seq (pv 0) pe_int (fun _ _ => rfl)) pa_nil))))), ?_⟩)
  · obtain ⟨t, v1, v2, d1, d2, rfl, _⟩ := h
    rfl
  obtain ⟨t, v1, v2, d1, d2, rfl, ht, h1, h2, h3, h4, h5, hQ⟩ := h
  exact sd_ret (evd_state (ea_cons (ev_op (ev_var rfl) ev_c (rv_iT ht (i := 0) rfl)) (ea_cons (ev_op (ev_var rfl) ev_c (rv_iT ht (i := 1) rfl)) ea_nil)) h1 h2 h3 h4 h5) (fun w H1 e1 ⟨a, hw, hst, _⟩ => by rw [hw]; exact hQ a H1 e1 hst)
def spLPlain (K : PySem.W.Frag) (C : Addr) : Sp := fun vs H Q _ => ∃ a d1 d2, vs = [.ref a] ∧ StAt K H C a d1 d2 ∧ ∀ v H', Ex H H' → Dp K H' v (.tuple [d1, d2]) → Q v H'
theorem ok_plain_state (B : Bi mg) (k_State : Kl K mg "State" C SF) (D : Df K mg "_law_plain_state" s__law_plain_state ["told"]) : Gv P w K mg base CX0 1 "_law_plain_state" ["told"] (spLPlain K C) := by
  refine D.gv sc__law_plain_state (fun vs H Q E h => ?_) (fun f cdv A outer s H vs Q E hr h => ⟨_, (pss_one (ps_ret (pe_ifExp (pt_val (pe_callB (id := "isinstance") (r := rIsi K) call_isi rfl B.isi (by decide +kernel) (pa_cons (pv 0) (pa_cons (pe_glob (v := .ref _) rfl k_State.g rfl) pa_nil)))) (pe_tup (pa_cons (pe_fld (pv 0) rfl) (pa_cons (pe_fld (pv 0) rfl) pa_nil))) pe_non))), ?_⟩)
  · obtain ⟨a, d1, d2, rfl, _⟩ := h
    rfl
  obtain ⟨a, d1, d2, rfl, ⟨dx, v1, v2, ha, h1, h2⟩, hQ⟩ := h
  refine sd_ret (evd_if (b := true) (et_B (ev_isiS k_State (ev_var rfl) ha)) (fun _ => ?_) (fun z => nomatch z)) (fun w H1 e1 p => hQ w H1 e1 p)
  exact fun H1 e Q q => eu_tup (ea_cons (ev_fld k_State (by decide) (ev_var rfl) ha rfl) (ea_cons (ev_fld k_State (by decide) (ev_var rfl) ha rfl) ea_nil)) (show 2 ≤ 100000 by decide) H1 e Q fun p H2 hp e2 h => q _ _ e2 (.tup (st_of h) (.cons (Dp.ext (e.trans e2) h1) (.cons (Dp.ext (e.trans e2) h2) .nil)))
theorem perm_pop {α : Type} {ls : List α} {k : Nat} (h : k < ls.length) : ([ls[k]] ++ ls.eraseIdx k).Perm ls := by
  rw [List.eraseIdx_eq_take_drop_succ]
  have e : ls = ls.take k ++ ls[k] :: ls.drop (k + 1) := by
    rw [← List.drop_eq_getElem_cons h, List.take_append_drop]
  have h2 : (ls[k] :: (ls.take k ++ ls.drop (k + 1))).Perm (ls.take k ++ ls[k] :: ls.drop (k + 1)) := List.perm_middle.symm
  rw [← e] at h2
  exact h2
def spShuf (K : PySem.W.Frag) : Sp := fun vs H Q _ => ∃ (p : Addr × Addr) (l : Addr) (xs : List V), vs = [.ref p.1, .ref l] ∧ Pen H p ∧ SqL K H l xs ∧ xs.length ≤ 1000 ∧ ∀ (ys : List V) m H', ys.Perm xs → H m = none → Px p H H' → H' m = some (.lst ys) → Q (.ref m) H'
theorem ok_shuffled (B : Bi mg) (g__law_draw : Gv P w K mg base CX0 1 "_law_draw" ["pen", "many"] spDraw) (D : Df K mg "_law_shuffled" s__law_shuffled ["pen", "some"]) : Gv P w K mg base CX0 2 "_law_shuffled" ["pen", "some"] (spShuf K) := by
  have nd := sc__law_shuffled.nd
  refine D.gv sc__law_shuffled (fun vs H Q E h => ?_) (fun f cdv A outer s H vs Q E hr h => ⟨_, (pss_cons (ps_par (i := 2) (j := 3) rfl nd rfl rfl (by decide) rfl rfl (pa_cons (pe_callTy (r := rListA K) (callA_list rfl) rfl B.list (by decide +kernel) (pa_cons (pv 1) pa_nil)) (pa_cons (pe_lst pa_nil) pa_nil)) rfl)
    (pss_cons (ps_for PassesOwn.never rfl (pi_range1 rfl B.range (pa_cons (pe_callB (r := rLen K) callA_len rfl B.len (by decide +kernel) (pa_cons (pv 1) pa_nil)) pa_nil)) (pg_name (i := 4) nd rfl (.inl rfl)) (pss_one (ps_expr (pe_bmK (K := K) rfl PySem.F.plainAttrs_list PySem.F.slot_list_append PySem.F.type_list_append mt_append (pv 3) (pa_cons (pe_bmK (K := K) rfl PySem.F.plainAttrs_list PySem.F.slot_list_pop PySem.F.type_list_pop mt_popAt (pv 2) (pa_cons (pe_cg g__law_draw hr rfl pass0 (pa_cons (pv 0) (pa_cons (pe_callB (r := rLen K) callA_len rfl B.len (by decide +kernel) (pa_cons (pv 2) pa_nil)) pa_nil))) pa_nil)) pa_nil)))))
    (pss_one (ps_ret (pv 3))))), ?_⟩)
  · obtain ⟨p, l, xs, rfl, _⟩ := h
    rfl
  obtain ⟨p, l, xs, rfl, hp, hl, hz, hQ⟩ := h
  refine q_parLL (el_listL (K := K) (ev_var rfl) hl) (el_lst ea_nil (Nat.zero_le _)) (fun a b H1 ha hb hab e1 h1 h2 => ?_)
  refine q_forR1 (n := (xs.length : Int)) (ea_cons (ev_lenL (ev_var rfl) (ex_l e1 hl)) ea_nil) ⟨by omega, by omega⟩ (fun i σ' H' => ∃ o ls fs, σ' = [some (.ref p.1), some (.ref l), some (.ref a), some (.ref b), o] ∧ Px p H H' ∧ H' a = some (.lst ls) ∧ H' b = some (.lst fs) ∧ (fs ++ ls).Perm xs ∧ fs.length = i)
    (fun H2 e2 => ⟨none, xs, [], rfl, Px.of hp (e1.trans e2), e2 _ _ h1, e2 _ _ h2, List.Perm.refl _, rfl⟩) (fun i σ' H' hi p' => ?_) (fun σ' H' p' => ?_)
  · obtain ⟨o, ls, fs, rfl, hx, hls, hfs, hperm, hn⟩ := p'
    have hlen : fs.length + ls.length = xs.length := by rw [← List.length_append]; exact hperm.length_eq
    have hlt : i < xs.length := by omega
    have hap : a ≠ p.1 := fun z => by
      obtain ⟨kvs, hk⟩ := hp.get
      rw [z, hk] at ha
      cases ha
    have hbp : b ≠ p.1 := fun z => by
      obtain ⟨kvs, hk⟩ := hp.get
      rw [z, hk] at hb
      cases hb
    refine s_appG (ev_var rfl) (sq_of hfs) (fun H2 e2 => t_pop (ev_var rfl) (sq_of (e2 _ _ hls)) fun H3 e3 => ?_)
    have x3 := hx.ex (e2.trans e3)
    refine er_draw (σ := [some (.ref p.1), some (.ref l), some (.ref a), some (.ref b), some (.int (i : Int))]) (p := p) (m := (ls.length : Int)) (fun H4 x4 Q q => (ev_var (i := 0) rfl) H4 (Ex.refl H4) _ fun H5 e5 => (ev_lenL (K := K) (ev_var (i := 2) rfl) (sq_of (x4.at_ x3.pen ((e2.trans e3) _ _ hls) (fun _ z => nomatch z)))) H5 e5 _ fun H6 e6 => q _ _ (Px.of x4.pen (e5.trans e6)) rfl) (by omega) (by omega) H3 (Px.refl x3.pen) _ fun v H4 x4 hv => ?_
    obtain ⟨r, rfl, r0, r1⟩ := hv
    have hr2 : r.toNat < ls.length := by omega
    have hls4 : H4 a = some (.lst ls) := x4.at_ x3.pen ((e2.trans e3) _ _ hls) (fun _ z => nomatch z)
    have hfs4 : H4 b = some (.lst fs) := x4.at_ x3.pen ((e2.trans e3) _ _ hfs) (fun _ z => nomatch z)
    have x04 := x3.trans x4
    refine ⟨ls, r, r.toNat, ls[r.toNat], rfl, hls4, by omega, by omega, ?_, List.getElem?_eq_getElem hr2, ?_⟩
    · unfold seqIndex?
      simp
      omega
    have hb5 : upd H4 a (.lst (ls.eraseIdx r.toNat)) b = some (.lst fs) := by rw [upd_ne (Ne.symm hab)]; exact hfs4
    refine ⟨fs, hb5, sz_lt (by omega), ?_⟩
    refine ⟨_, ls.eraseIdx r.toNat, fs ++ [ls[r.toNat]], rfl, Px.put hp (Px.put hp x04 ha) hb, by rw [upd_ne hab, upd_same], upd_same, ?_, by rw [List.length_append]; simp [hn]⟩
    refine List.Perm.trans ?_ hperm
    rw [List.append_assoc]
    exact List.Perm.append_left fs (perm_pop hr2)
  · obtain ⟨o, ls, fs, rfl, hx, hls, hfs, hperm, hn⟩ := p'
    have hlen : fs.length + ls.length = xs.length := by rw [← List.length_append]; exact hperm.length_eq
    have hn2 : fs.length = xs.length := by
      rw [hn]
      simp
    have hl0 : ls = [] := List.length_eq_zero_iff.mp (by omega)
    rw [hl0, List.append_nil] at hperm
    exact s_ret (ev_var rfl) fun H2 e2 => hQ fs b H2 hperm hb (hx.ex e2) (e2 _ _ hfs)
end
end Kb
set_option Elab.async false
set_option linter.all false
set_option maxRecDepth 100000
set_option maxHeartbeats 4000000
namespace Kb
open PySem PySem.Spec PyProof.Rows L2 LamX Evl
def base6 : List Str := ["x", "y", "z", "b12", "next", "result"]
structure NG (zs : List Str) : Prop where
  ne : zs ≠ []
  len : zs.length ≤ 4
  mem : ∀ z ∈ zs, z ∈ base6
  asc : zs.Pairwise (fun a b => leS a b ∧ a ≠ b)
def spNames (K : PySem.W.Frag) : Sp := fun vs H Q _ => ∃ (p : Addr × Addr), vs = [.ref p.1, .int 4] ∧ Pen H p ∧ ∀ zs t H', NG zs → Px p H H' → SqP H' t (zs.map V.str) → Q (.ref t) H'
section
variable {P : Program} {w : World} {K : PySem.W.Frag} {mg : Str → Option Value} {base : Heap}
theorem ok_drawn_names (B : Bi mg) (g__law_draw : Gv P w K mg base CX0 1 "_law_draw" ["pen", "many"] spDraw) (g__law_pick : Gv P w K mg base CX0 2 "_law_pick" ["pen", "some"] (spPick K)) (g__law_unlike : Gv P w K mg base CX0 1 "_law_unlike" ["row"] (spUnlike K)) (D : Df K mg "_law_drawn_names" s__law_drawn_names ["pen", "most"]) :
    Gv P w K mg base CX0 3 "_law_drawn_names" ["pen", "most"] (spNames K) := by
  have nd := sc__law_drawn_names.nd
  refine D.gv sc__law_drawn_names (fun vs H Q E h => ?_) (fun f cdv A outer s H vs Q E hr h => ⟨_, (pss_cons (ps_set (i := 2) nd rfl (.inr rfl) (pe_lst (pa_cons pe_str (pa_cons pe_str (pa_cons pe_str (pa_cons pe_str (pa_cons pe_str (pa_cons pe_str pa_nil))))))))
    (pss_one (ps_ret (pe_callTy (r := rTupP K) call_tupleP rfl B.tuple (by decide +kernel) (pa_cons (pe_cg g__law_unlike hr rfl pass0 (pa_cons (pe_lc (own := [("lap", 3)]) rfl nd (pi_range1 rfl B.range (pa_cons (pe_op (r := rAdd K) opA_add pe_int (pe_cg g__law_draw hr rfl pass0 (pa_cons (pv 0) (pa_cons (pv 1) pa_nil)))) pa_nil)) (blk_ok (by kernel_rfl)) (fun _ _ _ _ _ => (pg_name (i := 3) nd rfl (.inl rfl))) (fun _ _ _ _ _ => pts_nil) (fun _ _ _ _ _ => (by exact (pe_cg g__law_pick hr rfl pass0 (pa_cons (pv 0) (pa_cons (pv 2) pa_nil)))))) pa_nil)) pa_nil))))), ?_⟩)
  · obtain ⟨p, rfl, _⟩ := h
    rfl
  obtain ⟨p, rfl, hp, hQ⟩ := h
  refine q_asgL (xs := base6.map V.str) (el_lst (ea_cons ev_c (ea_cons ev_c (ea_cons ev_c (ea_cons ev_c (ea_cons ev_c (ea_cons ev_c ea_nil)))))) (show 6 ≤ 100000 by decide)) (fun l H1 hl e1 h1 => ?_)
  have hp1 := hp.same e1
  refine sr_ret hp1 (erd_tupL (Ψ := fun xs _ => ∃ zs, xs = zs.map V.str ∧ NG zs) (erl_callL (Ψ := fun xs H2 => ∃ n : Nat, (1 ≤ (n : Int) ∧ (n : Int) ≤ 4) ∧ each (fun _ v _ => v ∈ base6.map V.str) n xs H2) (erl_lcR (Nn := fun n => 1 ≤ n ∧ n ≤ 4) ((era1 (er_op1 (f := fun z => ∃ n : Int, z = .int n ∧ 1 ≤ n ∧ n ≤ 4) (fun H2 x2 => ev_c) (er_draw (m := 4) (er_eva fun H2 x2 => ea_cons (ev_var rfl) (ea_cons (ev_var rfl) ea_nil)) (by decide) (by decide)) (fun y H2 x2 ⟨r, hr, r0, r1⟩ => ⟨.int (1 + r), by rw [hr]; exact rv_add, 1 + r, rfl, by omega, by omega⟩))).imp (fun vs H2 x2 ⟨v, hv, n, hn, n1, n4⟩ => ⟨n, by rw [hv, hn], by omega, by omega, n1, n4⟩))
      (fun _ => rfl) (fun _ _ => et_true fun _ _ _ q => q) (fun i => Stb.pure fun v => v ∈ base6.map V.str) (fun i => er_pick hp1 (er_eva fun H2 x2 => ea_cons (ev_var rfl) (ea_cons (ev_var rfl) ea_nil)) (sq_of h1) (by decide) (by decide)))
      (fun m xs H2 x2 h2 ⟨n, hn, ha⟩ Q q => ?_)) (fun vs H1 H2 _ _ h => h)) (fun v H2 x2 ⟨t, xs, hv, ht, zs, hz, hg⟩ => ?_)
  · obtain ⟨ys, rfl, hlen, hmem⟩ := each_strs ha
    refine ⟨m, rfl, .inr ⟨ys, sq_of h2, by omega, fun zs l2 H3 z1 z2 z3 z4 z5 z6 => q l2 _ H3 z4 (Px.of x2.pen z5) z6 ⟨zs, rfl, ?_, by omega, fun z hz => hmem z ((z1 z).mp hz), z3⟩⟩⟩
    intro z0
    cases ys with
    | nil =>
      simp only [List.length_nil] at hlen
      omega
    | cons y r =>
      have := (z1 y).mpr List.mem_cons_self
      rw [z0] at this
      cases this
  · rw [hv]
    rw [hz] at ht
    exact hQ zs t H2 hg ((Px.of hp e1).trans x2) ht
end
end Kb
set_option Elab.async false
set_option linter.all false
set_option maxRecDepth 100000
set_option maxHeartbeats 4000000
namespace Kb
open PySem PySem.Spec PyProof.Rows L2 LamX Evl
/-- the rows of a drawn heap -/
structure CellsOk (cells : List (Int × Int)) : Prop where
  asc : (cells.map (·.1)).Pairwise (· < ·)
  rng : ∀ c ∈ cells, 1 ≤ c.1 ∧ c.1 ≤ 12
  vals : ∀ c ∈ cells, 0 ≤ c.2 ∧ c.2 ≤ 15
  len : cells.length ≤ 5
structure GS (zs : List Str) (ns : List (Key × Int)) (cells : List (Int × Int)) : Prop extends CellsOk cells where
  keys : ns.map (·.1) = zs.map Sum.inr
  nvals : ∀ q ∈ ns, 0 ≤ q.2 ∧ q.2 ≤ 15
def spDState (K : PySem.W.Frag) : Sp := fun vs H Q _ => ∃ (p : Addr × Addr) (tn : Addr) (zs : List Str), vs = [.ref p.1, .ref tn, .int 5] ∧ Pen H p ∧ SqT K H tn (zs.map V.str) ∧ zs.length ≤ 4 ∧
  ∀ v ns cells H', GS zs ns cells → Px p H H' → LS K H' v ns (cells.map cI) → Q v H'
section
variable {K : PySem.W.Frag} {σ : L2.St} {H : Hp} {p : Addr × Addr} {xs : List V} {ta : TE} {l : Addr} {ss as : List Int}
theorem each_rows {α : Type} (f : α → Key × Int) (G : Nat → α → Prop) : ∀ (xs : List V) (k : Nat), (∀ (i : Nat) x, xs[i]? = some x → ∃ c, G (k + i) c ∧ Dp K H x (rowD (f c))) →
    ∃ cs : List α, DpAll K H xs (cs.map fun c => rowD (f c)) ∧ cs.length = xs.length ∧ ∀ (i : Nat) c, cs[i]? = some c → G (k + i) c
  | [], _, _ => ⟨[], .nil, rfl, fun i c h => by simp at h⟩
  | x :: r, k, h => by
    obtain ⟨c, hc, hd⟩ := h 0 x rfl
    obtain ⟨cs, h1, h2, h3⟩ := each_rows f G r (k + 1) fun i y hy => by
      have := h (i + 1) y (by simpa using hy)
      rw [show k + 1 + i = k + (i + 1) by omega]
      exact this
    refine ⟨c :: cs, .cons hd h1, by rw [List.length_cons, List.length_cons, h2], fun i c' hc' => ?_⟩
    cases i with
    | zero =>
      simp at hc'
      subst hc'
      exact hc
    | succ i =>
      have := h3 i c' (by simpa using hc')
      rw [show k + (i + 1) = k + 1 + i by omega]
      exact this
/-- (key, a pick of the numbers) -/
theorem er_row {E : XK} (key : Key) (hp : Pen H p) (hσ0 : σ[0]? = some (some (.ref p.1))) (hσ4 : σ[4]? = some (some (.ref l))) (ha : ∀ H1, Px p H H1 → Ev ta σ H1 (kV key)) (hs : SqL K H l (ss.map V.int)) (h0 : 0 < ss.length) (h1 : ss.length ≤ 1000) :
    ErD p (tTup (tCons ta (tCons (tCall (spPick K) [] E (tCons (tVar 0) (tCons (tVar 4) tNil))) tNil))) σ H (isD K fun d => ∃ j, d = rowD (key, j) ∧ j ∈ ss) := by
  have hpk : ErD p (tCall (spPick K) [] E (tCons (tVar 0) (tCons (tVar 4) tNil))) σ H (fun v _ => v ∈ ss.map V.int) := er_pick hp (er_eva fun H1 x1 => ea_cons (ev_var hσ0) (ea_cons (ev_var hσ4) ea_nil)) hs (by rw [List.length_map]; exact h0) (by rw [List.length_map]; omega)
  refine (erd_tup (Ψ := fun vs _ => ∃ j ∈ ss, vs = [kV key, .int j]) ((era_cons (er_ev ha) (era1 hpk) (fun _ _ _ _ _ h => h)).imp fun vs H1 x1 ⟨v, r, e, hv, w, hr, hw⟩ => ?_) (fun vs H1 ⟨j, _, e⟩ => by rw [e]; exact (by decide : 2 ≤ 100000)) (fun _ _ _ _ _ h => h)).imp fun v H1 x1 ⟨t, vs, hv, ht, j, hj, e⟩ => ?_
  · obtain ⟨j, hj, ej⟩ := List.mem_map.mp hw
    exact ⟨j, hj, by rw [e, hv, hr, ← ej]⟩
  · rw [e] at ht
    refine ⟨rowD (key, j), ?_, ?_, j, rfl, hj⟩
    · rw [hv]
      refine .tup (st_of ht) (.cons ?_ (.cons (.int j) .nil))
      cases key
      · exact .int _
      · exact .str _
    · cases key <;> rfl
theorem erl_shuf {E : XK} {tr : TA} (hp : Pen H p) (h : ErA p tr σ H (fun vs _ => vs = [.ref p.1, .ref l])) (hl : SqL K H l xs) (hz : xs.length ≤ 1000) : ErL p (tCall (spShuf K) [] E tr) σ H (fun ys _ => ys.Perm xs) := fun H1 x1 Q q =>
  h H1 x1 _ fun vs H2 x2 e => by
    subst e
    exact ⟨p, l, xs, rfl, x2.pen, (x1.trans x2).l hp hl, hz, fun ys m H' hperm hm x8 h8 => q m ys H' (Px.fresh x1.pen x2 hm) (x2.trans x8) h8 hperm⟩
theorem sqp_pd {t : Addr} {cs : List (Key × Int)} (h : SqP H t xs) (hd : DpAll K H xs (cs.map rowD)) : Pd K H (.ref t) (rowsD cs) := ⟨t, xs, _, rfl, rfl, h, hd⟩
variable {P : Program} {w : World} {mg : Str → Option Value} {base : Heap}
theorem ok_drawn_state (B : Bi mg) (g__law_draw : Gv P w K mg base CX0 1 "_law_draw" ["pen", "many"] spDraw) (g__law_pick : Gv P w K mg base CX0 2 "_law_pick" ["pen", "some"] (spPick K)) (g__law_unlike : Gv P w K mg base CX0 1 "_law_unlike" ["row"] (spUnlike K)) (g__law_shuffled : Gv P w K mg base CX0 2 "_law_shuffled" ["pen", "some"] (spShuf K))
    (D : Df K mg "_law_drawn_state" s__law_drawn_state ["pen", "names", "cells"]) : Gv P w K mg base CX0 3 "_law_drawn_state" ["pen", "names", "cells"] (spDState K) := by
  have nd := sc__law_drawn_state.nd
  refine D.gv sc__law_drawn_state (fun vs H Q E h => ?_) (fun f cdv A outer s H vs Q E hr h => ?_)
  · obtain ⟨p, tn, zs, rfl, _⟩ := h
    rfl
  have hu64 := hu64_of hr
  refine ⟨_, (pss_cons (ps_set (i := 3) nd rfl (.inl rfl) (pe_cg g__law_unlike hr rfl pass0 (pa_cons (pe_lc (own := [("lap", 7)]) rfl nd (pi_range1 rfl B.range (pa_cons (pe_cg g__law_draw hr rfl pass0 (pa_cons (pv 0) (pa_cons (pe_op (r := rAdd K) opA_add (pv 2) pe_int) pa_nil))) pa_nil)) (blk_ok (by kernel_rfl)) (fun _ _ _ _ _ => (pg_name (i := 7) nd rfl (.inl rfl))) (fun _ _ _ _ _ => pts_nil) (fun _ _ _ _ _ => (by exact (pe_op (r := rAdd K) opA_add pe_int (pe_cg g__law_draw hr rfl pass0 (pa_cons (pv 0) (pa_cons (pe_op (r := rAdd K) opA_add (pe_op opA_mul pe_int (pv 2)) pe_int) pa_nil))))))) pa_nil)))
    (pss_cons (ps_set (i := 4) nd rfl (.inr rfl) (pe_op (r := rAdd K) opA_add (pe_op (r := rAdd K) opA_add (pe_lst (pa_cons pe_int pa_nil)) (pv 3)) (pe_lst (pa_cons (pe_cg g__law_pick hr rfl pass0 (pa_cons (pv 0) (pa_cons (pe_lst (pa_cons pe_int (pa_cons pe_int (pa_cons (pe_op (r := rAdd K) opA_add (pe_op opA_mul pe_int (pv 2)) pe_int) pa_nil)))) pa_nil))) pa_nil))))
    (pss_cons (ps_set (i := 5) nd rfl (.inl rfl) (pe_callTy (r := rTupP K) call_tupleP rfl B.tuple (by decide +kernel) (pa_cons (pe_lc (own := [("address", 8)]) rfl nd (piA_seq (pv 3)) (blk_ok (by kernel_rfl)) (fun _ _ _ _ _ => (pg_name (i := 8) nd rfl (.inl rfl))) (fun _ _ _ _ _ => pts_nil) (fun _ _ _ _ _ => (by exact (pe_tup (pa_cons (pv 8) (pa_cons (pe_cg g__law_pick hr rfl pass0 (pa_cons (pv 0) (pa_cons (pv 4) pa_nil))) pa_nil)))))) pa_nil)))
    (pss_cons (ps_if (PW.pt (pw_and (pt_cmpR (r := rNeA K) (opA_ne hu64) (pv 3) (pe_lst pa_nil) (nomark _)) (pw_and1 (pt_cmpR (r := rEqA K) (opA_eq hu64) (pe_cg g__law_draw hr rfl pass0 (pa_cons (pv 0) (pa_cons pe_int pa_nil))) pe_int (nomark _))))) (pss_cons (ps_set (i := 6) nd rfl (.inl rfl) (pe_cg g__law_shuffled hr rfl pass0 (pa_cons (pv 0) (pa_cons (pv 3) pa_nil))))
    (pss_one (ps_set (i := 5) nd rfl (.inl rfl) (pe_callTy (r := rTupP K) call_tupleP rfl B.tuple (by decide +kernel) (pa_cons (pe_callB (r := rSortA K) (callA_sorted rfl) rfl B.sorted (by decide +kernel) (pa_cons (pe_lc (own := [("one", 9), ("other", 10)]) rfl nd (pi_zip rfl B.zip (pa_cons (pv 6) (pa_cons (pe_op (r := rAdd K) opA_add (pe_slice (r := rSl K) slA (pv 6) (po_some pe_int) po_none) (pe_lst (pa_cons (pe_cg g__law_pick hr rfl pass0 (pa_cons (pv 0) (pa_cons (pe_lst (pa_cons pe_int (pa_cons pe_int (pa_cons (pe_ix (r := rIx K) ix_seq (pv 6) pe_int (fun _ _ => rfl)) (pa_cons pe_int pa_nil))))) pa_nil))) pa_nil))) pa_nil))) (blk_ok (by kernel_rfl)) (fun _ _ _ _ _ => (pgK_tup (K := K) (n := 2) rfl rfl (pgs_cons (pg_name (i := 9) nd rfl (.inl rfl)) (pgs_cons (pg_name (i := 10) nd rfl (.inl rfl)) pgs_nil)))) (fun _ _ _ _ _ => pts_nil) (fun _ _ _ _ _ => (pe_tup (pa_cons (pv 9) (pa_cons (pv 10) pa_nil))))) pa_nil)) pa_nil))))) pss_nil)
    (pss_one (ps_ret (pe_tup (pa_cons (pe_callTy (r := rTupP K) call_tupleP rfl B.tuple (by decide +kernel) (pa_cons (pe_lc (own := [("name", 11)]) rfl nd (piA_seq (pv 1)) (blk_ok (by kernel_rfl)) (fun _ _ _ _ _ => (pg_name (i := 11) nd rfl (.inl rfl))) (fun _ _ _ _ _ => pts_nil) (fun _ _ _ _ _ => (by exact (pe_tup (pa_cons (pv 11) (pa_cons (pe_cg g__law_pick hr rfl pass0 (pa_cons (pv 0) (pa_cons (pv 4) pa_nil))) pa_nil)))))) pa_nil)) (pa_cons (pv 5) pa_nil))))))))), ?_⟩
  obtain ⟨p, tn, zs, rfl, hp, hn, hzl, hQ⟩ := h
  -- addresses
  refine qr_asgL hp (erl_callL (Ψ' := fun xs _ => ∃ as : List Int, xs = as.map V.int ∧ as.Pairwise (· < ·) ∧ (∀ a ∈ as, 1 ≤ a ∧ a ≤ 12) ∧ as.length ≤ 5) (erl_lcR (Nn := fun n => 0 ≤ n ∧ n ≤ 5) (F := fun _ v _ => ∃ i, v = .int i ∧ 1 ≤ i ∧ i ≤ 12)
    ((era1 (er_draw (m := 6) (er_eva fun H2 x2 => ea_cons (ev_var rfl) (ea_cons (ev_op (ev_var rfl) ev_c rv_add) ea_nil)) (by decide) (by decide))).imp (fun vs H2 x2 ⟨v, hv, n, hn, n0, n5⟩ => ⟨n, by rw [hv, hn], by omega, by omega, by omega, by omega⟩))
    (fun _ => rfl) (fun _ _ => et_true fun _ _ _ q => q) (fun i => Stb.pure fun v => ∃ i, v = .int i ∧ 1 ≤ i ∧ i ≤ 12)
    (fun i => er_op1 (f := fun z => ∃ i, z = .int i ∧ 1 ≤ i ∧ i ≤ 12) (fun H2 x2 => ev_c) (er_draw (m := 12) (er_eva fun H2 x2 => ea_cons (ev_var rfl) (ea_cons (ev_op (ev_op ev_c (ev_var rfl) (rv_l (rv_I (Or.inr (by decide))))) ev_c rv_add) ea_nil)) (by decide) (by decide)) (fun y H2 x2 ⟨r, hr, r0, r1⟩ => ⟨.int (1 + r), by rw [hr]; exact rv_add, 1 + r, rfl, by omega, by omega⟩)))
    (fun m xs H2 x2 h2 ⟨n, hnn, ha⟩ Q q => ?_)) (fun la xs H1 hla x1 h1 ⟨as, hxs, asc, rng, alen⟩ => ?_)
  · obtain ⟨ys, rfl, hlen, hf⟩ := each_ints ha
    refine ⟨m, rfl, .inl ⟨ys, sq_of h2, by omega, fun l2 H3 hl3 e3 h3 => q l2 _ H3 hl3 (Px.of x2.pen e3) h3 ⟨uniqI ys, rfl, uniq_lt ys, fun a ha => hf a ((uniq_mem ys a).mp ha), ?_⟩⟩⟩
    have h1 := (srt_perm (ddI [] ys)).length_eq
    have h2 := dd_len ys []
    unfold uniqI
    simp only [List.length_nil] at h2
    omega
  subst hxs
  have hp1 := x1.pen
  have hn1 := x1.t hp hn
  -- the numbers to pick from
  refine qr_asgL hp1 (erl_catL (Ψ := fun ys _ => ∃ x : Int, ys = [.int x] ∧ 0 ≤ x ∧ x ≤ 15) (xs := [.int 0] ++ as.map V.int) (fun H2 x2 => el_catNH (el_lst (ea_cons ev_c ea_nil) (by decide)) (ev_var rfl) (x2.at_ hp1 h1 (fun _ z => nomatch z)) (by simp; omega))
    (erl_lst ((era1 (er_pickL (Ψ := fun xs _ => xs = [.int 3, .int 9, .int 15]) (fun H2 x2 => ev_var rfl) (er_evl fun H2 x2 => el_is (el_lst (ea_cons ev_c (ea_cons ev_c (ea_cons (ev_op (ev_op ev_c (ev_var rfl) (rv_l (rv_I (Or.inr (by decide))))) ev_c rv_add) ea_nil))) (by decide)) rfl) (fun _ _ _ _ _ h => h) (fun xs H2 h => by rw [h]; exact ⟨by decide, by decide⟩))).imp (fun vs H2 x2 ⟨v, hv, xs, hxs, hm⟩ => ?_)) (fun vs H2 ⟨x, e, _⟩ => by rw [e]; exact (by decide : 1 ≤ 100000)) (fun _ _ _ _ _ h => h)) (fun ys H2 ⟨x, e, _⟩ => by rw [e]; simp; omega) (fun _ _ _ _ _ h => h)) (fun ls xs H2 hls x2 h2 ⟨ys, hys, x, hx, x0, x15⟩ => ?_)
  · rw [hxs] at hm
    simp only [List.mem_cons, List.not_mem_nil, or_false] at hm
    rcases hm with rfl | rfl | rfl
    · exact ⟨3, hv, by decide, by decide⟩
    · exact ⟨9, hv, by decide, by decide⟩
    · exact ⟨15, hv, by decide, by decide⟩
  obtain ⟨ss, hss⟩ : ∃ ss : List Int, ss = 0 :: (as ++ [x]) := ⟨_, rfl⟩
  have h2 : H2 ls = some (.lst (ss.map V.int)) := by
    rw [h2, hys, hx, hss]
    simp
  have hss0 : 0 < ss.length := by rw [hss]; simp
  have hss1 : ss.length ≤ 1000 := by rw [hss]; simp; omega
  have hssv : ∀ j ∈ ss, 0 ≤ j ∧ j ≤ 15 := fun j hj => by
    rw [hss] at hj
    simp only [List.mem_cons, List.mem_append, List.not_mem_nil, or_false] at hj
    rcases hj with rfl | hj | rfl
    · omega
    · have := rng j hj
      omega
    · omega
  have hp2 := x2.pen
  have h1' : H2 la = some (.lst (as.map V.int)) := x2.at_ hp1 h1 (fun _ z => nomatch z)
  have hn2 := x2.t hp1 hn1
  have has : (as.map V.int).length = as.length := List.length_map ..
  -- the heap, first way
  have X2 := x1.trans x2
  refine qr_asg hp2 (Φ := fun v H3 => ∃ cells, CellsOk cells ∧ Pd K H3 v (rowsD (cells.map cI))) ((erd_tupL (erl_lcH (F := fun i => isD K fun d => ∃ j, d = rowD (.inl (as.getD i 0), j) ∧ j ∈ ss) hp2 (fun H3 x3 => ev_var rfl) (sq_of h1') (by rw [has]; omega) (fun _ => rfl) (fun _ _ => et_true fun _ _ _ q => q) (fun i => stb_isD) (fun i y hy => er_row (.inl (as.getD i 0)) hp2 rfl rfl (fun H3 x3 => ev_is (ev_var rfl) ?_) (sq_of h2) hss0 hss1))
    (fun vs H3 H4 x3 x4 h => each_px (fun i => stb_isD) x3.pen x4 h)).imp (fun v H3 x3 ⟨t, xs, hv, ht, ha⟩ => ?_)) (fun hv H3 x3 ⟨cells, hco, hcd⟩ => ?_)
  · rw [List.getElem?_map] at hy
    cases hq : as[i]? with
    | none => rw [hq] at hy; cases hy
    | some a =>
      rw [hq] at hy
      cases hy
      rw [getD_some hq]
      rfl
  · obtain ⟨cs, d1, d2, d3⟩ := each_rows (K := K) (H := H3) cI (fun i c => c.1 = as.getD i 0 ∧ c.2 ∈ ss) xs 0 (fun i y hy => by
      obtain ⟨d, hd, _, j, rfl, hj⟩ := ha.2 i y hy
      exact ⟨(as.getD i 0, j), by rw [Nat.zero_add]; exact ⟨rfl, hj⟩, hd⟩)
    have hcl : cs.length = as.length := by rw [d2, ha.1, has]
    have hfst : cs.map (·.1) = as := by
      apply List.ext_getElem?
      intro i
      rw [List.getElem?_map]
      cases hc : cs[i]? with
      | none =>
        have : as[i]? = none := by
          rw [List.getElem?_eq_none_iff] at hc ⊢
          omega
        rw [this]
        rfl
      | some c =>
        have hi : i < as.length := by
          rw [← hcl]
          exact (List.getElem?_eq_some_iff.mp hc).1
        have z := (d3 i c hc).1
        rw [Nat.zero_add] at z
        rw [List.getElem?_eq_getElem hi]
        show some c.1 = _
        rw [z]
        simp [hi]
    refine ⟨cs, ⟨by rw [hfst]; exact asc, fun c hc => rng c.1 (by rw [← hfst]; exact List.mem_map.mpr ⟨c, hc, rfl⟩), fun c hc => ?_, by omega⟩, ?_⟩
    · obtain ⟨i, hi⟩ := List.getElem?_of_mem hc
      exact hssv _ (d3 i c hi).2
    · rw [hv]
      refine sqp_pd ht ?_
      rw [List.map_map]
      exact d1
  -- the end, with whatever heap
  have fin : ∀ (row : Option V) (hv : V) (H4 : Hp) (cells : List (Int × Int)), Px p H2 H4 → CellsOk cells → Pd K H4 hv (rowsD (cells.map cI)) →
      tRet (tTup (tCons (tCB (rTupP K) (tCons (tLc (iSeq K (tVar 1)) (gName 11) tYes (tTup (tCons (tVar 11) (tCons (tCall (spPick K) [] E0 (tCons (tVar 0) (tCons (tVar 4) tNil))) tNil))) [11]) tNil)) (tCons (tVar 5) tNil))) { nx := fun _ H' => Q .non H', rt := Q }
        [some (.ref p.1), some (.ref tn), some (.int 5), some (.ref la), some (.ref ls), some hv, row, none, none, none, none, none] H4 := fun row hv H4 cells x4 hco hcd => by
    have hp4 := x4.pen
    have hn4 := x4.t hp2 hn2
    have h24 : H4 ls = some (.lst (ss.map V.int)) := x4.at_ hp2 h2 (fun _ z => nomatch z)
    have hzz : (zs.map V.str).length = zs.length := List.length_map ..
    refine sr_ret hp4 (erd_tup (Ψ := fun vs H5 => ∃ v1 ns, vs = [v1, hv] ∧ Pd K H5 v1 (rowsD ns) ∧ Pd K H5 hv (rowsD (cells.map cI)) ∧ ns.map (·.1) = zs.map Sum.inr ∧ ∀ q ∈ ns, 0 ≤ q.2 ∧ q.2 ≤ 15)
      ((era_cons (erd_tupL (erl_lcHT (F := fun i => isD K fun d => ∃ j, d = rowD (.inr (zs.getD i ""), j) ∧ j ∈ ss) hp4 (fun H3 x3 => ev_var rfl) hn4 (by rw [hzz]; omega) (fun _ => rfl) (fun _ _ => et_true fun _ _ _ q => q) (fun i => stb_isD) (fun i y hy => er_row (.inr (zs.getD i "")) hp4 rfl rfl (fun H3 x3 => ev_is (ev_var rfl) ?_) (sq_of h24) hss0 hss1))
        (fun vs H3 H4 x3 x4 h => each_px (fun i => stb_isD) x3.pen x4 h)) (era1 (er_ev fun H5 x5 => ev_var rfl)) (fun v H5 H6 x5 x6 ⟨t, xs, e, ht, ha⟩ => ⟨t, xs, e, ?_, each_px (fun i => stb_isD) x5.pen x6 ha⟩)).imp (fun vs H5 x5 ⟨v, r, e, ⟨t, xs, hv1, ht, ha⟩, w, hr, hw⟩ => ?_))
      (fun vs H5 ⟨v1, ns, e, _⟩ => by rw [e]; exact (by decide : 2 ≤ 100000)) (fun vs H5 H6 x5 x6 ⟨v1, ns, e, a1, a2, a3⟩ => ⟨v1, ns, e, x6.pd x5.pen a1, x6.pd x5.pen a2, a3⟩)) (fun v H5 x5 ⟨t, vs, hv0, ht, v1, ns, e, a1, a2, a3, a4⟩ => ?_)
    · rw [List.getElem?_map] at hy
      cases hq : zs[i]? with
      | none => rw [hq] at hy; cases hy
      | some a =>
        rw [hq] at hy
        cases hy
        rw [getD_some hq]
        rfl
    · exact x6.sqp x5.pen ht
    · obtain ⟨cs, d1, d2, d3⟩ := each_rows (K := K) (H := H5) (fun c : Key × Int => c) (fun i c => c.1 = .inr (zs.getD i "") ∧ c.2 ∈ ss) xs 0 (fun i y hy => by
        obtain ⟨d, hd, _, j, rfl, hj⟩ := ha.2 i y hy
        exact ⟨(.inr (zs.getD i ""), j), by rw [Nat.zero_add]; exact ⟨rfl, hj⟩, hd⟩)
      have hcl : cs.length = zs.length := by rw [d2, ha.1, hzz]
      refine ⟨v, cs, by rw [e, hr, hw], ?_, x5.pd hp4 hcd, ?_, fun c hc => ?_⟩
      · rw [hv1]
        exact sqp_pd ht d1
      · apply List.ext_getElem?
        intro i
        rw [List.getElem?_map, List.getElem?_map]
        cases hc : cs[i]? with
        | none =>
          have : zs[i]? = none := by
            rw [List.getElem?_eq_none_iff] at hc ⊢
            omega
          rw [this]
          rfl
        | some c =>
          have hi : i < zs.length := by
            rw [← hcl]
            exact (List.getElem?_eq_some_iff.mp hc).1
          have z := (d3 i c hc).1
          rw [Nat.zero_add] at z
          rw [List.getElem?_eq_getElem hi]
          show some c.1 = _
          rw [z]
          simp [hi]
      · obtain ⟨i, hi⟩ := List.getElem?_of_mem hc
        exact hssv _ (d3 i c hi).2
    · rw [hv0]
      rw [e] at ht
      exact hQ _ ns cells H5 ⟨hco, a3, a4⟩ (((x1.trans x2).trans x4).trans x5) ⟨t, v1, hv, rfl, st_of ht, a1, a2⟩
  have hp3 := x3.pen
  have h13 : H3 la = some (.lst (as.map V.int)) := x3.at_ hp2 h1' (fun _ z => nomatch z)
  refine qr_ifS hp3 (er_andB (fun H4 x4 => et_test (ev_neNilH (ds := as.map PyData.int) (ev_var rfl) (x4.l hp3 (sq_of h13)) (fun H5 e5 => el_lst ea_nil (by decide)) dpAll_ints (shaped_ints as))) (fun hb => ert_test ((er_op2 (f := fun v => ∃ b, v = .bl b) (er_draw (m := 2) (er_eva fun H4 x4 => ea_cons (ev_var rfl) (ea_cons ev_c ea_nil)) (by decide) (by decide)) (fun H4 x4 => ev_c) (fun y H4 x4 ⟨r, hr, _, _⟩ => ⟨.bl (decide (V.int r = V.int 0)), fun H5 => by rw [hr]; exact rv_eqs rfl, _, rfl⟩))))) (fun b H4 x4 hb => ?_)
  cases b with
  | false => exact fin none hv H4 cells (x3.trans x4) hco (x4.pd hp3 hcd)
  | true =>
    have hne : as ≠ [] := fun z => by
      have := hb rfl
      rw [z] at this
      simp at this
    have hp4 := x4.pen
    have h14 : H4 la = some (.lst (as.map V.int)) := x4.at_ hp3 h13 (fun _ z => nomatch z)
    rw [if_pos rfl]
    -- row
    refine qr_asgL hp4 (Ψ := fun ys _ => ∃ rs : List Int, ys = rs.map V.int ∧ rs.Perm as) ((erl_shuf hp4 (er_eva fun H5 x5 => ea_cons (ev_var rfl) (ea_cons (ev_var rfl) ea_nil)) (sq_of h14) (by rw [has]; omega)).imp fun ys H5 x5 hperm => perm_ints hperm) (fun lr xs H5 hlr x5 h5 ⟨rs, hrs, hperm⟩ => ?_)
    obtain ⟨r0, rt, rfl⟩ : ∃ r0 rt, rs = r0 :: rt := by
      cases rs with
      | nil => exact absurd (List.Perm.eq_nil hperm.symm) hne
      | cons r0 rt => exact ⟨r0, rt, rfl⟩
    subst hrs
    have hp5 := x5.pen
    have hr0 : 1 ≤ r0 ∧ r0 ≤ 12 := rng r0 (hperm.mem_iff.mp List.mem_cons_self)
    have hrl : (r0 :: rt).length = as.length := hperm.length_eq
    refine sr_asg hp5 (erd_tupL (Ψ := fun zs H6 => ∃ ps qs, (ps.map (·.1) = r0 :: rt ∧ ∀ q ∈ ps, 0 ≤ q.2 ∧ q.2 ≤ 15) ∧ List.Perm qs ps ∧ qs.Pairwise (fun x y => x.1 ≤ y.1) ∧ t2s qs zs H6)
      (erl_sortP (S := fun ps => ps.map (·.1) = r0 :: rt ∧ ∀ q ∈ ps, 0 ≤ q.2 ∧ q.2 ≤ 15) ((erl_lcZ (R := fun xs ys => ∃ x : Int, xs = (r0 :: rt).map V.int ∧ ys = (rt ++ [x]).map V.int ∧ 0 ≤ x ∧ x ≤ 15) (F := fun xs ys i => isT2 (iOf (xs.getD i .non)) (iOf (ys.getD i .non)))
        ((era_cons (er_ev fun H6 x6 => ev_var (i := 6) rfl) (era1L (erl_catL (Ψ := fun ys _ => ∃ x : Int, ys = [.int x] ∧ 0 ≤ x ∧ x ≤ 15) (fun H6 x6 => el_is (el_slL (ev_var (i := 6) rfl) (x6.l hp5 (sq_of h5)) (eo_some ev_c) eo_none) (cut_tail _ _))
          (erl_lst ((era1 (er_pickL (Ψ := fun xs _ => xs = [.int 0, .int 0, .int r0, .int 9]) (fun H6 x6 => ev_var rfl) (er_evl fun H6 x6 => el_lst (ea_cons ev_c (ea_cons ev_c (ea_cons (ev_op (ev_var rfl) ev_c (rv_iL (x6.l hp5 (sq_of h5)) (atI_nat (j := 0) rfl))) (ea_cons ev_c ea_nil)))) (show 4 ≤ 100000 by decide)) (fun _ _ _ _ _ h => h) (fun xs H2 h => by rw [h]; exact ⟨show 0 < 4 by decide, show 4 < 1073741824 by decide⟩))).imp (fun vs H6 x6 ⟨v, hv, xs, hxs, hm⟩ => ?_)) (fun vs H6 ⟨x, e, _⟩ => by rw [e]; exact (by decide : 1 ≤ 100000)) (fun _ _ _ _ _ h => h))
          (fun ys H6 ⟨x, e, _⟩ => by rw [e]; simp at hrl ⊢; omega) (fun _ _ _ _ _ h => h))) (fun _ _ _ _ _ h => h)).imp (fun vs H6 x6 ⟨v, r, e, hv, l, xs, hr, hl, ys, hxs, x, hx, hx0, hx15⟩ => ?_))
        (fun xs ys ⟨x, h1, h2, _⟩ => ?_) (fun _ _ => rfl) (fun _ _ => et_true fun _ _ _ q => q) (fun xs ys i => stb_T2) (fun xs ys i x y hR hx hy => ?_)).imp (fun zs H6 x6 ⟨xs, ys, hR, ha⟩ => ?_))) (fun vs H6 H7 x6 x7 h => ?_)) (fun v H6 x6 ⟨t, xs, hv, ht, ps, qs, ⟨s1, s2⟩, s3, s4, s5⟩ => ?_)
    · rw [hxs] at hm
      simp only [List.mem_cons, List.not_mem_nil, or_false] at hm
      rcases hm with rfl | rfl | rfl | rfl
      · exact ⟨0, hv, by decide, by decide⟩
      · exact ⟨0, hv, by decide, by decide⟩
      · exact ⟨r0, hv, by omega, by omega⟩
      · exact ⟨9, hv, by decide, by decide⟩
    · rw [h1, h2]
      simp at hrl ⊢
      omega
    · obtain ⟨x9, rfl, rfl, _⟩ := hR
      obtain ⟨n, hn1, rfl⟩ := int_at hx
      obtain ⟨m, hm1, rfl⟩ := int_at hy
      have e1 : iOf (((r0 :: rt).map V.int).getD i .non) = n := by rw [getD_some hx]; rfl
      have e2 : iOf (((rt ++ [x9]).map V.int).getD i .non) = m := by rw [getD_some hy]; rfl
      show ErD p _ _ H5 (isT2 (iOf (((r0 :: rt).map V.int).getD i .non)) (iOf (((rt ++ [x9]).map V.int).getD i .non)))
      rw [e1, e2]
      exact er_T2 (fun H6 x6 => ev_var rfl) (fun H6 x6 => ev_var rfl)
    · obtain ⟨x9, rfl, rfl, hx0, hx15⟩ := hR
      have hlz : (rt ++ [x9]).length = (r0 :: rt).length := by simp
      refine ⟨(r0 :: rt).zip (rt ++ [x9]), ⟨List.map_fst_zip (by omega), fun q hq => ?_⟩, ?_, fun i z hz => ?_⟩
      · have := (List.of_mem_zip (show (q.1, q.2) ∈ _ from hq)).2
        rcases List.mem_append.mp this with h | h
        · have := rng q.2 (hperm.mem_iff.mp (List.mem_cons_of_mem _ h))
          omega
        · rw [List.mem_singleton] at h
          omega
      · rw [ha.1, List.length_map, List.length_zip]
        omega
      · have hi : i < (r0 :: rt).length := by
          have := (List.getElem?_eq_some_iff.mp hz).1
          rw [ha.1, List.length_map] at this
          exact this
        have hz2 : isT2 (iOf (((r0 :: rt).map V.int).getD i .non)) (iOf (((rt ++ [x9]).map V.int).getD i .non)) z H6 := ha.2 i z hz
        have h1 : (r0 :: rt)[i]? = some (r0 :: rt)[i] := List.getElem?_eq_getElem hi
        have h2 : (rt ++ [x9])[i]? = some ((rt ++ [x9])[i]'(by omega)) := List.getElem?_eq_getElem (by omega)
        refine ⟨((r0 :: rt)[i], (rt ++ [x9])[i]'(by omega)), ?_, ?_⟩
        · rw [List.getElem?_zip_eq_some]
          exact ⟨h1, h2⟩
        · have e1 : iOf (((r0 :: rt).map V.int).getD i .non) = (r0 :: rt)[i] := by rw [getD_some (d := V.int (r0 :: rt)[i]) (by rw [List.getElem?_map, h1]; rfl)]; rfl
          have e2 : iOf (((rt ++ [x9]).map V.int).getD i .non) = (rt ++ [x9])[i]'(by omega) := by rw [getD_some (d := V.int ((rt ++ [x9])[i]'(by omega))) (by rw [List.getElem?_map, h2]; rfl)]; rfl
          rw [e1, e2] at hz2
          exact hz2
    · obtain ⟨ps, qs, a1, a2, a3, a4⟩ := h
      exact ⟨ps, qs, a1, a2, a3, t2s_px x6.pen x7 a4⟩
    · have hq1 : (qs.map (·.1)).Perm as := ((s3.map (·.1)).trans (by rw [s1])).trans hperm
      have hql : qs.length = as.length := by rw [← hq1.length_eq, List.length_map]
      refine fin (some (.ref lr)) v H6 qs (((x3.trans x4).trans x5).trans x6) ⟨?_, fun c hc => rng c.1 (hq1.mem_iff.mp (List.mem_map.mpr ⟨c, hc, rfl⟩)), fun c hc => s2 c (s3.mem_iff.mp hc), by omega⟩ ?_
      · have hnd : (qs.map (·.1)).Nodup := hq1.nodup_iff.mpr (asc.imp fun z => by omega)
        have hle : (qs.map (·.1)).Pairwise (· ≤ ·) := List.pairwise_map.mpr s4
        exact (hle.and hnd).imp fun ⟨a, b⟩ => by omega
      · rw [hv]
        refine sqp_pd ht ?_
        rw [List.map_map]
        exact t2s_dp s5
    · exact ⟨lr, l, _, xs, by rw [e, hv, hr], (x6.l hp5 (sq_of h5)), sq_of hl, x, rfl, by rw [hxs, hx]; simp, hx0, hx15⟩
end
end Kb
set_option Elab.async false
set_option linter.all false
set_option maxRecDepth 100000
set_option maxHeartbeats 4000000
namespace Kb
open PySem PySem.Spec PyProof.Rows L2 LamX Evl
def signsS : Str := "abyz019._- A"
def tailL : List Str := ["result", "x", "x1", "aaaaaaaaaaaa", "aaaaaaaaaaaaa", "a1b", ".0", ".00", ".10", ".999999", ".1000000", ".", "nil1", "_", "x00000000000", ".1x"]
def spTR : Sp := fun vs H Q _ => ∃ (p : Addr × Addr), vs = [.ref p.1] ∧ Pen H p ∧ ∀ H', Px p H H' → Q (.bl true) H'
theorem txt_tail : ∀ z ∈ wordsL ++ tailL, Txt8 z := by
  have h : ∀ z ∈ wordsL ++ tailL, z.length ≤ 40000 ∧ ∀ c ∈ z.cps.toList, c < 0x110000 := by decide +kernel
  exact fun z hz => ⟨(h z hz).1, (h z hz).2⟩
theorem txt_signs {cs : List Nat} (hl : cs.length ≤ 4) (h : ∀ c ∈ cs, c ∈ signsS.cps.toList) : Txt8 (Txt.join "" (cs.map sg)) := by
  rw [join_signs]
  refine ⟨?_, fun c hc => ?_⟩
  · show cs.toArray.size ≤ 40000
    rw [List.size_toArray]
    omega
  · have : ∀ c ∈ signsS.cps.toList, c < 0x110000 := by decide +kernel
    exact this c (h c (by simpa using hc))
theorem sum_sg : ∀ cs : List Nat, ((cs.map sg).map (·.length)).sum = cs.length
  | [] => rfl
  | c :: cs => by
    rw [List.map_cons, List.map_cons, List.sum_cons, sum_sg cs, List.length_cons]
    show 1 + _ = _
    omega
theorem each_txt {f : Str → Prop} {n : Nat} {xs : List V} {H : Hp} (h : each (fun _ v _ => ∃ z, v = .str z ∧ f z) n xs H) : ∃ ys : List Str, xs = ys.map V.str ∧ ys.length = n ∧ ∀ y ∈ ys, f y := by
  obtain ⟨hl, ha⟩ := h
  have : ∀ x ∈ xs, ∃ z, x = V.str z ∧ f z := fun x hx => by
    obtain ⟨i, hi⟩ := List.getElem?_of_mem hx
    exact ha i x hi
  clear ha
  induction xs generalizing n with
  | nil => exact ⟨[], rfl, hl, fun _ h => nomatch h⟩
  | cons x r ih =>
    obtain ⟨ys, h1, h2, h3⟩ := ih rfl fun x hx => this x (List.mem_cons_of_mem _ hx)
    obtain ⟨y, e, hy⟩ := this x List.mem_cons_self
    refine ⟨y :: ys, by rw [h1, List.map_cons, e], by rw [List.length_cons, h2]; exact hl, fun z hz => ?_⟩
    rcases List.mem_cons.mp hz with rfl | hz
    · exact hy
    · exact h3 z hz
theorem rv_mulS {z : Str} {n : Int} {y : Str} {H : Hp} (h : ⟨(List.replicate n.toNat z.cps).foldl (· ++ ·) #[]⟩ = y) (h1 : 2 ≤ n ∧ n ≤ 1000 ∧ 1 ≤ z.length ∧ z.length ≤ 1000 ∧ y.length ≤ sizeLine) : RV rMul (.str z) (.int n) H (.str y) := fun H1 e Q q =>
  .inr (.inr ⟨z, n, rfl, rfl, h1.1, h1.2.1, h1.2.2.1, h1.2.2.2.1, by rw [h]; exact h1.2.2.2.2, by rw [h]; exact q H1 (Ex.refl H1)⟩)
section
variable {P : Program} {w : World} {K : PySem.W.Frag} {mg : Str → Option Value} {base : Heap}
end
end Kb
set_option Elab.async false
set_option linter.all false
set_option maxRecDepth 100000
set_option maxHeartbeats 4000000
namespace Kb
open PySem PySem.Spec PyProof.Rows L2 LamX Evl
def rw2 (a b : PyData) : PyData := .tuple [a, b]
def wrongA : List PyData := [.none, .int 5, .str "ab", .tuple [rw2 (.str "nil") (.int 0)], .tuple [rw2 (.str ".0") (.int 0)], .tuple [rw2 (.str "x") (.int (-1))], .tuple [rw2 (.str "x") (.bool true)], .tuple [rw2 (.str "x") (.int 1000001)], .tuple [.tuple [.str "x"]], .tuple [.list [.str "x", .int 0]]]
def wrongB : List PyData := [.tuple [rw2 (.str "x") (.int 0), rw2 (.str "x") (.int 0)], .tuple [rw2 (.str "y") (.int 0), rw2 (.str "x") (.int 0)], .tuple [rw2 (.str "x") .none], .tuple [.int 5]]
def oddL : List PyData := [.none, .int 5, .str "ab", .tuple [rw2 (.int 0) (.int 0)], .tuple [rw2 (.int 1) (.int (-1))], .tuple [rw2 (.bool true) (.int 0)], .tuple [rw2 (.int 1) (.bool true)], .tuple [.tuple [.int 1]], .tuple [.list [.int 1, .int 0]], .tuple [rw2 (.int 1) (.int 0), rw2 (.int 1) (.int 2)], .tuple [rw2 (.int 2) (.int 0), rw2 (.int 1) (.int 0)],
  .tuple [rw2 (.int 1000001) (.int 0)], .tuple [rw2 (.int 1) .none]]
def farL : List PyData := (List.range 41).map fun (i : Nat) => rw2 (.int (1 + (i : Int))) (.int 0)
def txtB : PyData → Bool
  | .str z => decide (z.length ≤ 40000)
  | _ => true
theorem txtB_ok {d : PyData} (h : txtB d = true) : TxtOk d := by
  cases d with
  | str z =>
    have h : decide (z.length ≤ 40000) = true := h
    show z.length ≤ 40000
    exact of_decide_eq_true h
  | _ => trivial
def rowsB : PyData → Bool
  | .tuple ds => ds.all fun r => txtB (pr1 r)
  | _ => true
theorem rowsB_ok {d : PyData} (h : rowsB d = true) : RowsTxt d := fun ds e r hr => by
  subst e
  exact txtB_ok (List.all_eq_true.mp h r hr)
def shB (d : PyData) : Bool := d.showable && (PyData.canLay0 d && (decide (d.depth ≤ 5) && (decide (d.weight ≤ 1000) && d.intsShort 13)))
theorem shB_ok {d : PyData} (h : shB d = true) : Sh d := by
  simp only [shB, Bool.and_eq_true, decide_eq_true_eq] at h
  exact sh_of h.1 h.2.1 h.2.2.1 h.2.2.2.1 h.2.2.2.2
theorem wrong_ok : ∀ d ∈ wrongA ++ wrongB, storeD (asTup d) = false ∧ RowsTxt (asTup d) ∧ d.hasDict = false ∧ Sh d := by
  have h : ((wrongA ++ wrongB).all fun d => !storeD (asTup d) && (rowsB (asTup d) && (!d.hasDict && shB d))) = true := by decide +kernel
  intro d hd
  have := List.all_eq_true.mp h d hd
  simp only [Bool.and_eq_true, Bool.not_eq_true'] at this
  exact ⟨this.1, rowsB_ok this.2.1, this.2.2.1, shB_ok this.2.2.2⟩
theorem odd_ok : ∀ d ∈ oddL ++ [PyData.tuple farL], heapD (asTup d) = false ∧ d.hasDict = false ∧ Sh d := by
  have h : ((oddL ++ [PyData.tuple farL]).all fun d => !heapD (asTup d) && (!d.hasDict && shB d)) = true := by decide +kernel
  intro d hd
  have := List.all_eq_true.mp h d hd
  simp only [Bool.and_eq_true, Bool.not_eq_true'] at this
  exact ⟨this.1, this.2.1, shB_ok this.2.2⟩
/-- a triple of the spoils: what is tried, what is told -/
def SpoilAt (K : PySem.W.Frag) (H : Hp) (x : V) : Prop := ∃ t a b due d1 d2, x = .ref t ∧ SqT K H t [a, b, .ref due] ∧ Dp K H a d1 ∧ Dp K H b d2 ∧ RowsTxt (asTup d1) ∧
  ((storeD (asTup d1) = false ∧ SqT K H due [.str "row", .str "store", a] ∧ d1.hasDict = false ∧ Sh d1) ∨ (storeD (asTup d1) = true ∧ heapD (asTup d2) = false ∧ SqT K H due [.str "row", .str "heap", b] ∧ d2.hasDict = false ∧ Sh d2))
theorem SpoilAt.ext {K : PySem.W.Frag} {H H' : Hp} {x : V} (h : SpoilAt K H x) (e : Ex H H') : SpoilAt K H' x := by
  obtain ⟨t, a, b, due, d1, d2, h1, h2, h3, h4, h5, h6⟩ := h
  refine ⟨t, a, b, due, d1, d2, h1, ex_t e h2, Dp.ext e h3, Dp.ext e h4, h5, ?_⟩
  rcases h6 with ⟨a1, a2, a3⟩ | ⟨a1, a2, a3, a4⟩
  · exact .inl ⟨a1, ex_t e a2, a3⟩
  · exact .inr ⟨a1, a2, ex_t e a3, a4⟩
def spSpoils (K : PySem.W.Frag) : Sp := fun vs H Q _ => ∃ (p : Addr × Addr) (v : V) (ns cs : List (Key × Int)), vs = [.ref p.1, v] ∧ Pen H p ∧ LS K H v ns cs ∧ storeD (rowsD ns) = true ∧ RowsTxt (rowsD ns) ∧
  ∀ l xs H', Px p H H' → H' l = some (.lst xs) → xs.length = 3 → (∀ x ∈ xs, SpoilAt K H' x) → Q (.ref l) H'
section
variable {P : Program} {w : World} {K : PySem.W.Frag} {mg : Str → Option Value} {base : Heap} {σ : L2.St} {H : Hp}
theorem evd_spoil {ta tb td : TE} {a b : V} {what : Str} {c : V} {d1 d2 : PyData} (ha : Ev ta σ H a) (hb : Ev tb σ H b) (hc : Ev td σ H c) (h1 : Dp K H a d1) (h2 : Dp K H b d2) (ht : RowsTxt (asTup d1))
    (h : (what = "store" ∧ c = a ∧ storeD (asTup d1) = false ∧ d1.hasDict = false ∧ Sh d1) ∨ (what = "heap" ∧ c = b ∧ storeD (asTup d1) = true ∧ heapD (asTup d2) = false ∧ d2.hasDict = false ∧ Sh d2)) :
    EvD (tTup (tCons ta (tCons tb (tCons (tTup (tCons (tC (.str "row")) (tCons (tC (.str what)) (tCons td tNil)))) tNil)))) σ H (fun w H1 => SpoilAt K H1 w) := fun H1 e Q q =>
  ha H1 e _ fun H2 e2 => hb H2 (e.trans e2) _ fun H3 e3 => eu_tup (vs := [.str "row", .str what, c]) (ea_cons ev_c (ea_cons ev_c (ea_cons hc ea_nil))) (show 3 ≤ 100000 by decide) H3 ((e.trans e2).trans e3) _ fun due H4 hdue e4 h4 => ⟨sz_of (show 3 ≤ 100000 by decide), fun t ht2 => by
    have e6 := Ex.new (o := .tup [a, b, .ref due]) ht2
    have e16 := (((e.trans e2).trans e3).trans e4).trans e6
    refine q _ _ (((e2.trans e3).trans e4).trans e6) ⟨t, a, b, due, d1, d2, rfl, st_of upd_same, Dp.ext e16 h1, Dp.ext e16 h2, ht, ?_⟩
    have hd : SqT K _ due [.str "row", .str what, c] := ex_t e6 (st_of h4)
    rcases h with ⟨rfl, rfl, a1, a2⟩ | ⟨rfl, rfl, a1, a2, a3⟩
    · exact .inl ⟨a1, hd, a2⟩
    · exact .inr ⟨a1, a2, hd, a3⟩⟩
end
end Kb
set_option Elab.async false
set_option linter.all false
set_option maxRecDepth 100000
set_option maxHeartbeats 4000000
namespace Kb
open PySem PySem.Spec PyProof.Rows L2 LamX Evl
theorem LS.px {K : PySem.W.Frag} {H H' : Hp} {p : Addr × Addr} {v : V} {ns cs : List (Key × Int)} (h : LS K H v ns cs) (hp : Pen H p) (x : Px p H H') : LS K H' v ns cs := by
  obtain ⟨t, v1, v2, h1, h2, h3, h4⟩ := h
  exact ⟨t, v1, v2, h1, x.t hp h2, x.pd hp h3, x.pd hp h4⟩
theorem noL_rows : ∀ ns : List (Key × Int), noL (rowsD ns) = true := fun ns => by
  show noLs (ns.map rowD) = true
  induction ns with
  | nil => rfl
  | cons p r ih =>
    rw [List.map_cons]
    show (noL (rowD p) && noLs _) = true
    rw [ih]
    obtain ⟨k, i⟩ := p
    cases k <;> rfl
theorem StM.sm {K : PySem.W.Frag} {H H' : Hp} {C a : Addr} {ns cs : List (Key × Int)} (h : StM K H C a ns cs) (e : Sm H H') : StM K H' C a ns cs := by
  obtain ⟨dx, v1, v2, h1, h2, h3⟩ := h.ex
  exact ⟨⟨dx, v1, v2, e _ _ h1 rfl, e.pd h2 (noL_rows _), e.pd h3 (noL_rows _)⟩, h.n1, h.n2⟩
theorem LS.sm {K : PySem.W.Frag} {H H' : Hp} {v : V} {ns cs : List (Key × Int)} (h : LS K H v ns cs) (e : Sm H H') : LS K H' v ns cs := by
  obtain ⟨t, v1, v2, h1, h2, h3, h4⟩ := h
  exact ⟨t, v1, v2, h1, e.t h2, e.pd h3 (noL_rows _), e.pd h4 (noL_rows _)⟩
theorem SpoilAt.sm {K : PySem.W.Frag} {H H' : Hp} {x : V} (h : SpoilAt K H x) (e : ExtN H H') : SpoilAt K H' x := by
  obtain ⟨t, a, b, due, d1, d2, h1, h2, h3, h4, h5, h6⟩ := h
  refine ⟨t, a, b, due, d1, d2, h1, extN_t e h2, dp_extN e h3, dp_extN e h4, h5, ?_⟩
  rcases h6 with ⟨a1, a2, a3⟩ | ⟨a1, a2, a3, a4⟩
  · exact .inl ⟨a1, extN_t e a2, a3⟩
  · exact .inr ⟨a1, a2, extN_t e a3, a4⟩
def oddT : List PyData := [.none, .str ".0", .str "_", .str "new", .int 5, .str "X"]
def noneT : List PyData := [.none, .int 0, .int (-1), .bool true, .int 1000001]
theorem odd_t : ∀ d ∈ oddT, noL d = true ∧ d.hasDict = false ∧ Sh d ∧ plainD d = false ∧ TxtOk d := by
  have h : (oddT.all fun d => noL d && (!d.hasDict && (shB d && (!plainD d && txtB d)))) = true := by decide +kernel
  intro d hd
  have := List.all_eq_true.mp h d hd
  simp only [Bool.and_eq_true, Bool.not_eq_true'] at this
  exact ⟨this.1, this.2.1, shB_ok this.2.2.1, this.2.2.2.1, txtB_ok this.2.2.2.2⟩
theorem none_t : ∀ d ∈ noneT, noL d = true ∧ d.hasDict = false ∧ Sh d ∧ addrD d = false := by
  have h : (noneT.all fun d => noL d && (!d.hasDict && (shB d && !addrD d))) = true := by decide +kernel
  intro d hd
  have := List.all_eq_true.mp h d hd
  simp only [Bool.and_eq_true, Bool.not_eq_true'] at this
  exact ⟨this.1, this.2.1, shB_ok this.2.2.1, this.2.2.2⟩
structure Fc (K : PySem.W.Frag) (C : Addr) (p : Addr × Addr) (a : Addr) (ns : List (Key × Int)) (cells : List (Int × Int)) (T : List (Addr × Str)) (vb vo vn : V) (dB dO dN : PyData) (H : Hp) : Prop where
  p : Pen H p
  t : Tabs T H
  m : StM K H C a ns (cells.map cI)
  b : Dp K H vb dB
  o : Dp K H vo dO
  n : Dp K H vn dN
section
variable {K : PySem.W.Frag} {C : Addr} {p : Addr × Addr} {a : Addr} {ns : List (Key × Int)} {cells : List (Int × Int)} {T : List (Addr × Str)} {vb vo vn : V} {dB dO dN : PyData} {H H' H0 : Hp}
theorem Fc.xn (h : Fc K C p a ns cells T vb vo vn dB dO dN H) (k1 : noL dB = true) (k2 : noL dO = true) (k3 : noL dN = true) (x : XN T H H') : Fc K C p a ns cells T vb vo vn dB dO dN H' :=
  ⟨h.p.extN x.e, x.t, h.m.sm (Sm.extN x.e), dp_extN x.e h.b, dp_extN x.e h.o, dp_extN x.e h.n⟩
theorem Fc.mu (h : Fc K C p a ns cells T vb vo vn dB dO dN H) (k1 : noL dB = true) (k2 : noL dO = true) (k3 : noL dN = true) (h0 : Pen H0 p) {l : Addr} {xs ys : List V} (hl0 : H0 l = none) (hl : H l = some (.lst xs)) : Fc K C p a ns cells T vb vo vn dB dO dN (upd H l (.lst ys)) :=
  ⟨h0.put h.p hl0, Tabs.mu hl h.t, h.m.sm (Sm.mu hl), (Sm.mu hl).dp h.b k1, (Sm.mu hl).dp h.o k2, (Sm.mu hl).dp h.n k3⟩
end
def spRef (K : PySem.W.Frag) (C tb : Addr) : SpZ := fun _ _ vs H Q => ∃ (p : Addr × Addr) (a : Addr) (v : V) (zs : List Str) (ns : List (Key × Int)) (cells : List (Int × Int)), vs = [.ref p.1, .ref a, v] ∧ Pen H p ∧ Tabs (lamT "_law_refusals_right" tb) H ∧ StM K H C a ns (cells.map cI) ∧ LS K H v ns (cells.map cI) ∧
  storeD (rowsD ns) = true ∧ RowsTxt (rowsD ns) ∧ ns.length + 2 * cells.length < 64 ∧ noL (.tuple [rowsD ns, rowsD (cells.map cI)]) = true ∧ Sh (.tuple [rowsD ns, rowsD (cells.map cI)]) ∧ PyData.hasDict (.tuple [rowsD ns, rowsD (cells.map cI)]) = false ∧
  ∀ H', Pen H' p → Tabs (lamT "_law_refusals_right" tb) H' → Q (.bl true) H'
section
variable {P : Program} {w : World} {K : PySem.W.Frag} {mg : Str → Option Value} {base : Heap} {C BR BN : Addr} {cA : Nat → Addr} {cc tb : Addr}
end
end Kb
set_option Elab.async false
set_option linter.all false
set_option maxRecDepth 100000
set_option maxHeartbeats 4000000
namespace Kb
open PySem PySem.Spec PyProof.Rows L2 LamX Evl
/-! ### the drawn states are right; their data are within measure -/
structure RowG (d : PyData) : Prop where
  s : d.showable = true
  c : d.canLay0 = true
  dp : d.depth ≤ 1
  w : d.weight ≤ 40
  i : d.intsShort 13 = true
  h : d.hasDict = false
def rowGB (d : PyData) : Bool := d.showable && (d.canLay0 && (decide (d.depth ≤ 1) && (decide (d.weight ≤ 40) && (d.intsShort 13 && !d.hasDict))))
theorem rowGB_ok {d : PyData} (h : rowGB d = true) : RowG d := by
  simp only [rowGB, Bool.and_eq_true, decide_eq_true_eq, Bool.not_eq_true'] at h
  exact ⟨h.1, h.2.1, h.2.2.1, h.2.2.2.1, h.2.2.2.2.1, h.2.2.2.2.2⟩
theorem rows_g : ∀ {ds : List PyData}, (∀ d ∈ ds, RowG d) → PyData.showableAll ds = true ∧ PyData.canLayAll0 ds = true ∧ PyData.depthAll ds ≤ 1 ∧ PyData.weightAll ds ≤ 41 * ds.length ∧ PyData.intsShortAll 13 ds = true ∧ PyData.hasDictAll ds = false
  | [], _ => ⟨rfl, rfl, Nat.zero_le _, Nat.le_refl _, rfl, rfl⟩
  | d :: ds, h => by
    obtain ⟨a, b, c, e, f, g⟩ := rows_g fun x hx => h x (List.mem_cons_of_mem _ hx)
    obtain ⟨a', b', c', e', f', g'⟩ := h d List.mem_cons_self
    refine ⟨by simp [PyData.showableAll, a, a'], by simp [PyData.canLayAll0, b, b'], by simp only [PyData.depthAll]; omega, by simp only [PyData.weightAll, List.length_cons]; omega, by simp [PyData.intsShortAll, f, f'], by simp [PyData.hasDictAll, g, g']⟩
structure NsG (ns : List (Key × Int)) (zs : List Str) : Prop where
  keys : ns.map (·.1) = zs.map Sum.inr
  mem : ∀ z ∈ zs, z ∈ base6
  asc : zs.Pairwise fun a b => leS a b ∧ a ≠ b
  len : zs.length ≤ 4
  vals : ∀ q ∈ ns, 0 ≤ q.2 ∧ q.2 ≤ 16
theorem rng_mem {i : Int} {n : Nat} (h : 0 ≤ i ∧ i ≤ n) : i ∈ (List.range (n + 1)).map Int.ofNat := by
  refine List.mem_map.mpr ⟨i.toNat, List.mem_range.mpr (by omega), ?_⟩
  show ((i.toNat : Nat) : Int) = i
  omega
theorem row_name {z : Str} {i : Int} (hz : z ∈ base6) (hi : 0 ≤ i ∧ i ≤ 16) : RowG (rowD (.inr z, i)) ∧ nameD (.str z) = true ∧ valueD (.int i) = true ∧ TxtOk (.str z) := by
  have h : (base6.all fun z => ((List.range (16 + 1)).map Int.ofNat).all fun i => rowGB (rowD (.inr z, i)) && (nameD (.str z) && (valueD (.int i) && txtB (.str z)))) = true := by decide +kernel
  have := List.all_eq_true.mp (List.all_eq_true.mp h z hz) i (rng_mem hi)
  simp only [Bool.and_eq_true] at this
  exact ⟨rowGB_ok this.1, this.2.1, this.2.2.1, txtB_ok this.2.2.2⟩
theorem row_cell {a i : Int} (ha : 1 ≤ a ∧ a ≤ 12) (hi : 0 ≤ i ∧ i ≤ 15) : RowG (rowD (.inl a, i)) ∧ addrD (.int a) = true ∧ valueD (.int i) = true := by
  have h : (((List.range (12 + 1)).map Int.ofNat).all fun a => a == 0 || (((List.range (15 + 1)).map Int.ofNat).all fun i => rowGB (rowD (.inl a, i)) && (addrD (.int a) && valueD (.int i)))) = true := by decide +kernel
  have h1 := List.all_eq_true.mp h a (rng_mem (n := 12) ⟨by omega, by omega⟩)
  rw [beq_eq_false_iff_ne.mpr (by omega), Bool.false_or] at h1
  have := List.all_eq_true.mp h1 i (rng_mem (n := 15) hi)
  simp only [Bool.and_eq_true] at this
  exact ⟨rowGB_ok this.1, this.2.1, this.2.2⟩
theorem risV_of {xs : List V} (h : xs.Pairwise fun a b => ltV a b = true) : risV xs = true := by
  unfold risV
  rw [List.all_map, List.all_eq_true]
  intro i hi
  have hi : i + 1 < xs.length := by
    rw [List.mem_range] at hi
    omega
  have := List.pairwise_iff_getElem.mp h i (i + 1) (by omega) hi (by omega)
  show ltV (xs.getD i .non) (xs.getD (i + 1) .non) = true
  rw [getD_some (List.getElem?_eq_getElem (by omega)), getD_some (List.getElem?_eq_getElem hi)]
  exact this
theorem NsG.pair {ns : List (Key × Int)} {zs : List Str} (h : NsG ns zs) {q : Key × Int} (hq : q ∈ ns) : ∃ z ∈ base6, q.1 = .inr z := by
  have : q.1 ∈ zs.map Sum.inr := by
    rw [← h.keys]
    exact List.mem_map.mpr ⟨q, hq, rfl⟩
  obtain ⟨z, hz, e⟩ := List.mem_map.mp this
  exact ⟨z, h.mem z hz, e.symm⟩
theorem NsG.row {ns : List (Key × Int)} {zs : List Str} (h : NsG ns zs) {d : PyData} (hd : d ∈ ns.map rowD) : ∃ z i, d = rowD (.inr z, i) ∧ RowG d ∧ nameD (.str z) = true ∧ valueD (.int i) = true ∧ TxtOk (.str z) := by
  obtain ⟨q, hq, rfl⟩ := List.mem_map.mp hd
  obtain ⟨z, hz, e⟩ := h.pair hq
  obtain ⟨k, i⟩ := q
  have e : k = .inr z := e
  subst e
  obtain ⟨a, b, c, d⟩ := row_name hz (h.vals _ hq)
  exact ⟨z, i, rfl, a, b, c, d⟩
theorem NsG.len4 {ns : List (Key × Int)} {zs : List Str} (h : NsG ns zs) : ns.length ≤ 4 := by
  have := congrArg List.length h.keys
  rw [List.length_map, List.length_map] at this
  have := h.len
  omega
theorem NsG.ok {ns : List (Key × Int)} {zs : List Str} (h : NsG ns zs) : storeD (rowsD ns) = true ∧ RowsTxt (rowsD ns) := by
  refine ⟨?_, fun ds e r hr => ?_⟩
  · show storeD (.tuple (ns.map rowD)) = true
    rw [storeD_t]
    have h1 : decide (((ns.map rowD).length : Int) > 60) = false := decide_eq_false (by rw [List.length_map]; have := h.len4; omega)
    have h2 : (ns.map rowD).all pairD = true := List.all_eq_true.mpr fun d hd => by
      obtain ⟨z, i, rfl, _⟩ := h.row hd
      rfl
    have h3 : ((ns.map rowD).all fun r => nameD (pr1 r) && valueD (pr2 r)) = true := List.all_eq_true.mpr fun d hd => by
      obtain ⟨z, i, rfl, _, a, b, _⟩ := h.row hd
      show (nameD (.str z) && valueD (.int i)) = true
      rw [a, b]
      rfl
    have h4 : (ns.map rowD).map (fun r => dV (pr1 r)) = zs.map V.str := by
      rw [List.map_map]
      have : zs.map V.str = (zs.map Sum.inr : List Key).map kV := by rw [List.map_map]; rfl
      rw [this, ← h.keys, List.map_map]
      refine List.map_congr_left fun q hq => ?_
      obtain ⟨z, _, e⟩ := h.pair hq
      obtain ⟨k, i⟩ := q
      have e : k = .inr z := e
      subst e
      rfl
    rw [h1, h2, h3, h4, risV_of]
    · rfl
    · rw [List.pairwise_map]
      exact h.asc.imp fun {a b} z => decide_eq_true (leS_lt z)
  · have e : PyData.tuple (ns.map rowD) = .tuple ds := e
    injection e with e
    rw [← e] at hr
    obtain ⟨z, i, rfl, _, _, _, a⟩ := h.row hr
    exact a
theorem CellsOk.row {cells : List (Int × Int)} (h : CellsOk cells) {d : PyData} (hd : d ∈ (cells.map cI).map rowD) : ∃ a i, d = rowD (.inl a, i) ∧ RowG d ∧ addrD (.int a) = true ∧ valueD (.int i) = true := by
  obtain ⟨q, hq, rfl⟩ := List.mem_map.mp hd
  obtain ⟨c, hc, rfl⟩ := List.mem_map.mp hq
  obtain ⟨a, b, e⟩ := row_cell (h.rng c hc) (h.vals c hc)
  exact ⟨c.1, c.2, rfl, a, b, e⟩
theorem CellsOk.ok {cells : List (Int × Int)} (h : CellsOk cells) : heapD (rowsD (cells.map cI)) = true := by
  show heapD (.tuple ((cells.map cI).map rowD)) = true
  rw [heapD_t]
  have h1 : decide ((((cells.map cI).map rowD).length : Int) > 40) = false := decide_eq_false (by rw [List.length_map, List.length_map]; have := h.len; omega)
  have h2 : ((cells.map cI).map rowD).all pairD = true := List.all_eq_true.mpr fun d hd => by
    obtain ⟨z, i, rfl, _⟩ := h.row hd
    rfl
  have h3 : (((cells.map cI).map rowD).all fun r => addrD (pr1 r) && valueD (pr2 r)) = true := List.all_eq_true.mpr fun d hd => by
    obtain ⟨z, i, rfl, _, a, b⟩ := h.row hd
    show (addrD (.int z) && valueD (.int i)) = true
    rw [a, b]
    rfl
  have h4 : ((cells.map cI).map rowD).map (fun r => dV (pr1 r)) = (cells.map (·.1)).map V.int := by
    rw [List.map_map, List.map_map, List.map_map]
    rfl
  rw [h1, h2, h3, h4, risV_of]
  · rfl
  · rw [List.pairwise_map]
    exact h.asc.imp fun {a b} z => decide_eq_true z
theorem CellsOk.tail {c : Int × Int} {cells : List (Int × Int)} (h : CellsOk (c :: cells)) : CellsOk cells := by
  refine ⟨?_, fun x hx => h.rng x (List.mem_cons_of_mem _ hx), fun x hx => h.vals x (List.mem_cons_of_mem _ hx), by have := h.len; simp at this; omega⟩
  have := h.asc
  rw [List.map_cons] at this
  exact (List.pairwise_cons.mp this).2
theorem NsG.tail {q : Key × Int} {ns : List (Key × Int)} {z : Str} {zs : List Str} (h : NsG (q :: ns) (z :: zs)) : NsG ns zs := by
  have hk := h.keys
  rw [List.map_cons, List.map_cons] at hk
  injection hk with _ hk
  exact ⟨hk, fun x hx => h.mem x (List.mem_cons_of_mem _ hx), (List.pairwise_cons.mp h.asc).2, by have := h.len; simp at this; omega, fun x hx => h.vals x (List.mem_cons_of_mem _ hx)⟩
/-- a state's datum -/
def stD (ns : List (Key × Int)) (cells : List (Int × Int)) : PyData := .tuple [rowsD ns, rowsD (cells.map cI)]
theorem st_g {ns : List (Key × Int)} {zs : List Str} {cells : List (Int × Int)} (h1 : NsG ns zs) (h2 : CellsOk cells) : Sh (stD ns cells) ∧ (stD ns cells).hasDict = false ∧ SeqAt.shaped (stD ns cells) = true := by
  obtain ⟨a, b, c, e, f, g⟩ := rows_g (ds := ns.map rowD) fun d hd => by obtain ⟨_, _, _, z, _⟩ := h1.row hd; exact z
  obtain ⟨a', b', c', e', f', g'⟩ := rows_g (ds := (cells.map cI).map rowD) fun d hd => by obtain ⟨_, _, _, z, _⟩ := h2.row hd; exact z
  rw [List.length_map] at e e'
  rw [List.length_map] at e'
  have l1 := h1.len4
  have l2 := h2.len
  have hc : PyData.canLay0 (stD ns cells) = true := by simp [stD, rowsD, -List.map_map, PyData.canLay0, PyData.canLayAll0, b, b']
  have hd : (stD ns cells).depth ≤ 5 := by
    simp only [stD, rowsD, PyData.depth, PyData.depthAll]
    omega
  refine ⟨sh_of (by simp [stD, rowsD, -List.map_map, PyData.showable, PyData.showableAll, a, a']) hc hd (by simp only [stD, rowsD, PyData.weight, PyData.weightAll]; omega) (by simp [stD, rowsD, -List.map_map, PyData.intsShort, PyData.intsShortAll, f, f']), by simp [stD, rowsD, -List.map_map, PyData.hasDict, PyData.hasDictAll, g, g'], ?_⟩
  unfold SeqAt.shaped
  rw [hc, decide_eq_true (by omega)]
  rfl
end Kb
set_option Elab.async false
set_option linter.all false
set_option maxRecDepth 100000
set_option maxHeartbeats 4000000
namespace Kb
open PySem PySem.Spec PyProof.Rows L2 LamX Evl
section
variable {K : PySem.W.Frag} {mg : Str → Option Value} {σ : L2.St} {H H' H1 H2 : Hp} {te ta tb tl tp : TE} {tr : TA} {v w x y : V} {d e s h s2 h2 : PyData} {vs xs ys : List V} {ds es : List PyData} {p : Addr × Addr} {C BR a b : Addr}
theorem dp_tyx (h : Dp K H v d) : ∃ T ∈ tysL, TyX K H v (.type T) := ⟨_, tyOf_mem d, dp_ty h⟩
theorem rv_eqSD (T : Kl K mg "State" C SF) (h1 : StAt K H C a s h) (h2 : Dp K H y d) : RV (rEqO K C (spSEq K C)) (.ref a) y H (.bl false) := fun H1 e Q q => by
  obtain ⟨dx, v1, v2, ha, hs, hh⟩ := h1.ext e
  obtain ⟨t, ht, hty⟩ := dp_tyx (Dp.ext e h2)
  exact .inr ⟨a, dx, _, .type t, rfl, ha, hty, T.nf t ht, a, y, s, h, rfl, ⟨dx, v1, v2, ha, hs, hh⟩, .inl ⟨d, Dp.ext e h2, fun H' e' => q H' e'⟩⟩
theorem nf_self : PySem.W.notFirst K C (.ref C) = true := by simp [PySem.W.notFirst]
theorem rv_eqSS (T : Kl K mg "State" C SF) (h1 : StAt K H C a s h) (h2' : StAt K H C b s2 h2) (g1 : SeqAt.shaped (.tuple [s, h]) = true) (g2 : SeqAt.shaped (.tuple [s2, h2]) = true) : RV (rEqO K C (spSEq K C)) (.ref a) (.ref b) H (.bl (PyData.eqv (.tuple [s, h]) (.tuple [s2, h2]))) := fun H1 e Q q => by
  obtain ⟨dx, v1, v2, ha, hs, hh⟩ := h1.ext e
  obtain ⟨dx2, w1, w2, hb, hs2, hh2⟩ := h2'.ext e
  exact .inr ⟨a, dx, _, .ref C, rfl, ha, T.tyx hb, nf_self, a, _, s, h, rfl, ⟨dx, v1, v2, ha, hs, hh⟩, .inr ⟨b, s2, h2, rfl, ⟨dx2, w1, w2, hb, hs2, hh2⟩, g1, g2, fun H' e' => q H' e'⟩⟩
theorem rv_neSS (T : Kl K mg "State" C SF) (h1 : StAt K H C a s h) (h2' : StAt K H C b s2 h2) (g1 : SeqAt.shaped (.tuple [s, h]) = true) (g2 : SeqAt.shaped (.tuple [s2, h2]) = true) : RV (rNeO K C (spSNe K C)) (.ref a) (.ref b) H (.bl (!PyData.eqv (.tuple [s, h]) (.tuple [s2, h2]))) := fun H1 e Q q => by
  obtain ⟨dx, v1, v2, ha, hs, hh⟩ := h1.ext e
  obtain ⟨dx2, w1, w2, hb, hs2, hh2⟩ := h2'.ext e
  exact .inr ⟨a, dx, _, .ref C, rfl, ha, T.tyx hb, nf_self, a, _, s, h, rfl, ⟨dx, v1, v2, ha, hs, hh⟩, .inr ⟨b, s2, h2, rfl, ⟨dx2, w1, w2, hb, hs2, hh2⟩, g1, g2, fun H' e' => q H' e'⟩⟩
theorem er_call {sp : Sp} {E : XK} {ws : List V} {Φ : V → Hp → Prop} (ha : ErA p tr σ H (fun vs _ => vs = ws)) (hs : ∀ H1, Px p H H1 → ∀ Q : VK, (∀ v H2, Px p H1 H2 → Φ v H2 → Q v H2) → sp ws H1 Q E) : ErD p (tCall sp [] E tr) σ H Φ := fun H1 x1 Q q =>
  ha H1 x1 _ fun vs H2 x2 e => by
    subst e
    rw [List.append_nil]
    exact hs H2 (x1.trans x2) Q fun v H3 x3 h => q v H3 (x2.trans x3) h
/-- State(..) whose arguments are drawn -/
theorem er_state {ns : List (Key × Int)} {cs : List (Key × Int)} (ha : ErA p tr σ H (fun vs H1 => ∃ v1 v2 d1 d2, vs = [v1, v2] ∧ Dp K H1 v1 d1 ∧ Dp K H1 v2 d2 ∧ asTup d1 = rowsD ns ∧ asTup d2 = rowsD cs ∧ ((tupD d1).isSome = true → Pd K H1 v1 d1) ∧ ((tupD d2).isSome = true → Pd K H1 v2 d2)))
    (ht : RowsTxt (rowsD ns)) (hs : storeD (rowsD ns) = true) (hh : heapD (rowsD cs) = true) (n1 : (ns.map (·.1)).Nodup) (n2 : (cs.map (·.1)).Nodup) :
    ErD p (tMake C (spSInit K C BR) [] E0 tr) σ H (fun w H1 => ∃ a, w = .ref a ∧ StM K H1 C a ns cs) := fun H1 x1 Q q =>
  ha H1 x1 _ fun vs H2 x2 ⟨v1, v2, d1, d2, e, h1, h2, a1, a2, p1, p2⟩ => by
    subst e
    intro x dx hx hdx ne
    have E3 : Ex H2 (upd (upd H2 dx (.own x)) x (.ins C dx [])) := (Ex.new hdx).trans (Ex.new (by rw [upd_ne (Ne.symm ne)]; exact hx))
    refine ⟨x, dx, v1, v2, d1, d2, rfl, upd_same, Dp.ext E3 h1, Dp.ext E3 h2, by rw [a1]; exact ht, (fun z => by rw [a1, hs] at z; cases z), (fun _ z => by rw [a2, hh] at z; cases z), fun _ _ w1 w2 H' kp q1 q2 r1 r2 hx' => ⟨rfl, ?_⟩⟩
    have E4 : Ex H2 H' := fun b o hb => kp b o (E3 b o hb) (fun z => by rw [z, hx] at hb; cases hb)
    have r1 := r1 fun t => (p1 t).ext E3
    have r2 := r2 fun t => (p2 t).ext E3
    rw [a1] at r1
    rw [a2] at r2
    exact q _ _ (x2.ex E4) ⟨x, rfl, ⟨dx, w1, w2, hx', r1, r2⟩, n1, n2⟩
theorem ev_opD {r : R2} {Φ : V → Hp → Prop} {z : V} (ha : Ev ta σ H x) (hb : EvD tb σ H Φ) (hr : ∀ y H1, Ex H H1 → Φ y H1 → RV r x y H1 z) : Ev (tOp r ta tb) σ H z := fun H1 e Q q =>
  ha H1 e _ fun H2 e2 => hb H2 (e.trans e2) _ fun y H3 e3 hy => hr y H3 ((e.trans e2).trans e3) hy H3 (Ex.refl H3) _ fun H4 e4 => q H4 ((e2.trans e3).trans e4)
theorem evd_lstate {E : XK} {ns : List (Key × Int)} {cells : List (Int × Int)} (h : EvD te σ H (fun w H1 => Dp K H1 w (stD ns cells))) (ht : RowsTxt (rowsD ns)) (hs : storeD (rowsD ns) = true) (hh : heapD (rowsD (cells.map cI)) = true) :
    EvD (tCall (spLState K C) [] E (tCons te tNil)) σ H (fun w H1 => ∃ b, w = .ref b ∧ StAt K H1 C b (rowsD ns) (rowsD (cells.map cI))) := fun H1 e Q q =>
  h H1 e _ fun w H2 e2 d => by
    cases d with
    | @tup t ys _ h1 h2 =>
      cases h2 with
      | cons a1 h2 =>
        cases h2 with
        | cons a2 h2 =>
          cases h2
          exact ⟨t, _, _, _, _, rfl, h1, a1, a2, ht, hs, hh, fun b H3 e3 hb => q _ _ (e2.trans e3) ⟨b, rfl, hb⟩⟩
theorem evd_plain {E : XK} {d1 d2 : PyData} (h : Ev te σ H (.ref a)) (hs : StAt K H C a d1 d2) : EvD (tCall (spLPlain K C) [] E (tCons te tNil)) σ H (fun w H1 => Dp K H1 w (.tuple [d1, d2])) := fun H1 e Q q =>
  h H1 e _ fun H2 e2 => ⟨a, d1, d2, rfl, hs.ext (e.trans e2), fun w H3 e3 hd => q _ _ (e2.trans e3) hd⟩
theorem lawD_st (ns : List (Key × Int)) (cells : List (Int × Int)) (h1 : ns.length ≤ 1000) (h2 : cells.length ≤ 1000) : lawD 3 (stD ns cells) = true := by
  have key : ∀ l : List (Key × Int), l.length ≤ 1000 → lawD 2 (rowsD l) = true := fun l hl => by
    show (decide ((l.map rowD).length ≤ 1000) && (l.map rowD).all (lawD 1)) = true
    rw [decide_eq_true (by rw [List.length_map]; exact hl), Bool.true_and, List.all_map, List.all_eq_true]
    intro p _
    obtain ⟨k, i⟩ := p
    cases k <;> rfl
  show (decide (2 ≤ 1000) && (lawD 2 (rowsD ns) && (lawD 2 (rowsD (cells.map cI)) && true))) = true
  rw [key ns h1, key _ (by rw [List.length_map]; exact h2)]
  rfl
theorem evd_ofL (h : EvL te σ H xs) (hd : ∀ H1, Ex H H1 → DpAll K H1 xs ds) : EvD te σ H (fun w H1 => Dp K H1 w (.list ds)) := fun H1 e Q q => h H1 e _ fun l H2 hl e2 h2 => q _ _ e2 (.lst (sq_of h2) (hd H2 (e.trans e2)))
end
/-! ### the least address that is free -/
theorem pig : ∀ (xs ys : List Int), xs.Nodup → (∀ x ∈ xs, x ∈ ys) → xs.length ≤ ys.length
  | [], _, _, _ => Nat.zero_le _
  | x :: xs, ys, hn, h => by
    have hx := h x List.mem_cons_self
    have hl := List.length_erase_of_mem hx
    have hpos : 0 < ys.length := List.length_pos_of_mem hx
    have := pig xs (ys.erase x) (List.nodup_cons.mp hn).2 fun y hy => by
      refine (List.mem_erase_of_ne fun e => ?_).mpr (h y (List.mem_cons_of_mem _ hy))
      subst e
      exact (List.nodup_cons.mp hn).1 hy
    rw [List.length_cons]
    omega
theorem least_uniq {ys : List Int} {x y : Int} (h1 : leastI ys x) (h2 : leastI ys y) : x = y := by
  obtain ⟨a1, a2, a3⟩ := h1
  obtain ⟨b1, b2, b3⟩ := h2
  rcases Int.lt_trichotomy x y with h | h | h
  · exact absurd (b3 x a1 h) a2
  · exact h
  · exact absurd (a3 y b1 h) b2
/-- the first of 1 .. n + 1 that is not among n numbers -/
theorem first_free (ys : List Int) : ∃ (x : Int) (r : List Int), ((List.range (ys.length + 1)).filter fun (i : Nat) => !decide ((1 + (i : Int)) ∈ ys)).map (fun (i : Nat) => (1 + (i : Int))) = x :: r ∧ leastI ys x := by
  have key : ∀ (n : Nat) (k : Nat), (∀ i : Nat, i < k → (1 + (i : Int)) ∈ ys) → (∃ i : Nat, k ≤ i ∧ i < k + n ∧ (1 + (i : Int)) ∉ ys) →
      ∃ (x : Int) (r : List Int), ((List.range' k n).filter fun (i : Nat) => !decide ((1 + (i : Int)) ∈ ys)).map (fun (i : Nat) => (1 + (i : Int))) = x :: r ∧ leastI ys x := by
    intro n
    induction n with
    | zero =>
      intro k _ ⟨i, h1, h2, _⟩
      omega
    | succ n ih =>
      intro k hk ⟨i, h1, h2, h3⟩
      rw [List.range'_succ]
      by_cases hm : (1 + (k : Int)) ∈ ys
      · rw [List.filter_cons_of_neg (by simpa using hm)]
        refine ih (k + 1) (fun j hj => ?_) ⟨i, ?_, by omega, h3⟩
        · by_cases e : j = k
          · rw [e]
            exact hm
          · exact hk j (by omega)
        · by_cases e : i = k
          · rw [e] at h3
            exact absurd hm h3
          · omega
      · rw [List.filter_cons_of_pos (by simpa using hm)]
        refine ⟨_, _, List.map_cons .., by omega, hm, fun y y1 y2 => ?_⟩
        have := hk (y - 1).toNat (by omega)
        have e : 1 + (((y - 1).toNat : Nat) : Int) = y := by omega
        rw [e] at this
        exact this
  rw [List.range_eq_range']
  refine key _ 0 (fun i hi => absurd hi (Nat.not_lt_zero i)) ?_
  by_cases hex : ∃ i : Nat, 0 ≤ i ∧ i < 0 + (ys.length + 1) ∧ (1 + (i : Int)) ∉ ys
  · exact hex
  · have hall : ∀ i : Nat, i < ys.length + 1 → (1 + (i : Int)) ∈ ys := fun i hi => by
      by_cases hm : (1 + (i : Int)) ∈ ys
      · exact hm
      · exact absurd ⟨i, Nat.zero_le _, by omega, hm⟩ hex
    have := pig ((List.range (ys.length + 1)).map fun (i : Nat) => (1 + (i : Int))) ys (by
      refine List.pairwise_map.mpr (List.nodup_range.imp fun {a b} hab e => hab ?_)
      have e : (1 + (a : Int)) = 1 + (b : Int) := e
      omega) (fun x hx => by
      obtain ⟨i, hi, rfl⟩ := List.mem_map.mp hx
      exact hall i (List.mem_range.mp hi))
    rw [List.length_map, List.length_range] at this
    omega
end Kb
set_option Elab.async false
set_option linter.all false
set_option maxRecDepth 100000
set_option maxHeartbeats 4000000
namespace Kb
open PySem PySem.Spec PyProof.Rows L2 LamX Evl
section
variable {K : PySem.W.Frag} {mg : Str → Option Value} {σ : L2.St} {H H' H1 H2 : Hp} {te ta tb tl tp : TE} {tr : TA} {tt : TT} {th : TO} {v w x y : V} {d e s h s2 h2 : PyData} {vs xs ys : List V} {ds es : List PyData} {p : Addr × Addr} {C BR BN a b : Addr} {ns : List (Key × Int)} {cells : List (Int × Int)}
theorem rv_neD (h1 : Dp K H x d) (h2 : Dp K H y e) (s1 : SeqAt.shaped d = true) (s2 : SeqAt.shaped e = true) : RV (rNeA K) x y H (.bl (!PyData.eqv d e)) := fun H1 e1 Q q => .inr ⟨d, e, Dp.ext e1 h1, Dp.ext e1 h2, s1, s2, q H1 (Ex.refl H1)⟩
theorem drop_cut : ∀ xs : List V, cutV xs (some 1) none = xs.drop 1
  | [] => by simp [cutV]
  | x :: r => cut_tail x r
theorem dps_drop : ∀ {xs : List V} {ds : List PyData}, DpAll K H xs ds → DpAll K H (xs.drop 1) (ds.drop 1)
  | _, _, .nil => .nil
  | _, _, .cons _ a => a
/-- t[1:] of a tuple -/
theorem evd_sl1 (ha : Ev ta σ H (.ref a)) (hx : SqT K H a xs) (hd : DpAll K H xs ds) (hl : EvO th σ H (some 1)) : EvD (tSl (rSl K) ta th tNoPart) σ H (fun w H1 => Dp K H1 w (.tuple (ds.drop 1))) := fun H1 e Q q =>
  ha H1 e _ fun H2 e2 => hl H2 (e.trans e2) _ fun H3 e3 => .inr (.inl ⟨a, xs, rfl, ex_t ((e.trans e2).trans e3) hx, fun z => by
    have hnil : xs = [] := by
      cases xs with
      | nil => rfl
      | cons u r =>
        have : HT.sIx (u :: r).length 0 (some 1) = 1 := by
          simp only [HT.sIx]
          rw [if_neg (by decide), List.length_cons]
          show min 1 _ = 1
          omega
        rw [this] at z
        exact absurd z.1 (by decide)
    subst hnil
    cases hd
    exact q _ _ (e2.trans e3) (.tup (ex_t ((e.trans e2).trans e3) hx) .nil), fun _ p hp => by
    have e4 := Ex.new (o := .tup (cutV xs (some 1) none)) hp
    have hdd := dps_drop (DpAll.ext (((e.trans e2).trans e3).trans e4) hd)
    rw [← drop_cut] at hdd
    exact q _ _ ((e2.trans e3).trans e4) (.tup (st_of upd_same) hdd)⟩)
/-- two tuples of data -/
theorem evd_catT (ha : EvD ta σ H (fun w H1 => Dp K H1 w (.tuple ds))) (hb : EvD tb σ H (fun w H1 => Dp K H1 w (.tuple es))) (hz : ds.length + es.length ≤ 100000) : EvD (tOp (rAdd K) ta tb) σ H (fun w H1 => Dp K H1 w (.tuple (ds ++ es))) := fun H1 e Q q =>
  ha H1 e _ fun w1 H2 e2 d1 => hb H2 (e.trans e2) _ fun w2 H3 e3 d2 => by
    cases Dp.ext e3 d1 with
    | @tup a xs _ h1 a1 =>
      cases d2 with
      | @tup b ys _ h2 a2 =>
        have l1 := dpAll_len a1
        have l2 := dpAll_len a2
        refine .inr (.inr (.inr ⟨a, b, xs, ys, rfl, rfl, h1, h2, sz_of (by rw [l1, l2]; exact hz), fun z => ?_, fun _ z => ?_, fun _ _ p hp => ?_⟩))
        · subst z
          cases a1
          exact q _ _ (e2.trans e3) (.tup h2 a2)
        · subst z
          cases a2
          exact q _ _ (e2.trans e3) (by rw [List.append_nil]; exact .tup h1 a1)
        · have e4 := Ex.new (o := .tup (xs ++ ys)) hp
          exact q _ _ ((e2.trans e3).trans e4) (.tup (st_of upd_same) (dpAll_app (DpAll.ext e4 a1) (DpAll.ext e4 a2)))
/-- what the State's defs tell -/
theorem evd_valsIn (h : Ev te σ H (.ref a)) (hM : StM K H C a ns (cells.map cI)) (h64 : ns.length + 2 * cells.length < 64) : EvD (tCall (spValsIn K C BR) [] E0 (tCons te tNil)) σ H (fun w H1 => Dp K H1 w (.tuple ((valsI (intsOf ns cells)).map PyData.int))) := fun H1 e Q q =>
  h H1 e _ fun H2 e2 => ⟨_, rfl, .inr ⟨a, ns, cells, rfl, hM.ext (e.trans e2), h64, fun p H' e' hp => q _ _ (e2.trans e') (.tup hp.t dpAll_ints)⟩⟩
theorem evd_looseIn (h : Ev te σ H (.ref a)) (hM : StM K H C a ns (cells.map cI)) (h64 : ns.length + 2 * cells.length < 64) : EvD (tCall (spLooseIn K C BR) [] E0 (tCons te tNil)) σ H (fun w H1 => Dp K H1 w (.tuple ((looseI ns cells).map PyData.int))) := fun H1 e Q q =>
  h H1 e _ fun H2 e2 => ⟨_, rfl, .inr ⟨a, ns, cells, rfl, hM.ext (e.trans e2), h64, fun p H' e' hp => q _ _ (e2.trans e') (.tup hp.t dpAll_ints)⟩⟩
theorem ev_newA {m : Int} (h : Ev te σ H (.ref a)) (hM : StM K H C a ns (cells.map cI)) (h64 : ns.length + 2 * cells.length < 64) (hm : leastI (valsI (intsOf ns cells)) m) : Ev (tCall (spNew K C BR) [] E0 (tCons te tNil)) σ H (.int m) := fun H1 e Q q =>
  h H1 e _ fun H2 e2 => ⟨_, rfl, .inr ⟨a, ns, cells, rfl, hM.ext (e.trans e2), h64, fun x H' hx e' => by rw [least_uniq hx hm]; exact q _ (e2.trans e')⟩⟩
theorem ev_valueOf {z : Str} (ha : Ev te σ H (.ref a)) (hb : Ev tb σ H (.str z)) (hM : StM K H C a ns (cells.map cI)) (ht : TxtOk (.str z)) (hp : plainD (.str z) = true) : Ev (tCall (spValueOf K C BR) [] E0 (tCons te (tCons tb tNil))) σ H (.int ((lookI ns (.inr z)).getD 0)) := fun H1 e Q q =>
  ha H1 e _ fun H2 e2 => hb H2 (e.trans e2) _ fun H3 e3 => ⟨_, _, rfl, .inr ⟨a, ns, cells.map cI, .str z, rfl, hM.ext ((e.trans e2).trans e3), .str z, ht, (fun z0 => by rw [hp] at z0; cases z0), fun _ z' hz' H' e' => by cases hz'; exact q _ ((e2.trans e3).trans e')⟩⟩
theorem ev_contentAt {i : Int} (ha : Ev te σ H (.ref a)) (hb : Ev tb σ H (.int i)) (hM : StM K H C a ns (cells.map cI)) (hp : addrD (.int i) = true) : Ev (tCall (spContent K C BR BN) [] E0 (tCons te (tCons tb tNil))) σ H (((lookI (cells.map cI) (.inl i)).map V.int).getD .non) := fun H1 e Q q =>
  ha H1 e _ fun H2 e2 => hb H2 (e.trans e2) _ fun H3 e3 => ⟨_, _, rfl, .inr ⟨a, ns, cells.map cI, .int i, rfl, hM.ext ((e.trans e2).trans e3), .int i, (fun z0 => by rw [hp] at z0; cases z0), fun _ z' hz' H' e' => by cases hz'; exact q _ ((e2.trans e3).trans e')⟩⟩
theorem ev_lawVal {E : XK} {z : Str} {cs : List (Key × Int)} (ha : Ev te σ H v) (hb : Ev tb σ H (.str z)) (hL : LS K H v ns cs) (hz : ns.length ≤ 1000) : Ev (tCall (spLVal K) [] E (tCons te (tCons tb (tCons (tTup tNil) tNil)))) σ H (.int ((lookI ns (.inr z)).getD 0)) := fun H1 e Q q =>
  ha H1 e _ fun H2 e2 => hb H2 (e.trans e2) _ fun H3 e3 => eu_tup ea_nil (Nat.zero_le _) H3 (Ex.refl H3) _ fun g H4 _ e4 h4 => ⟨v, z, g, ns, cs, rfl, hL.ext (((e.trans e2).trans e3).trans e4), st_of h4, hz, fun H' e' => q _ (((e2.trans e3).trans e4).trans e')⟩
def dOf : Option Int → PyData
  | some j => .int j
  | none => .none
theorem dp_dOf (o : Option Int) : Dp K H ((o.map V.int).getD .non) (dOf o) := by
  cases o
  · exact .non
  · exact .int _
theorem plain_base : ∀ z ∈ base6 ++ (["nil", "other", "x"] : List Str), plainD (.str z) = true ∧ TxtOk (.str z) := by
  have h : ((base6 ++ (["nil", "other", "x"] : List Str)).all fun z => plainD (.str z) && txtB (.str z)) = true := by decide +kernel
  intro z hz
  have := List.all_eq_true.mp h z hz
  rw [Bool.and_eq_true] at this
  exact ⟨this.1, txtB_ok this.2⟩
theorem el_sieveH {ws : List Nat} {j : Nat} {is : List Int} (t : Int → Bool) (h : Ev tl σ H (.ref a)) (hx : SqL K H a (is.map V.int)) (hz : is.length ≤ 40000) (hw : ∀ x, wipe ((wipe σ ws).set j (some x)) ws = wipe σ ws)
    (ht : ∀ (n : Int) H1, Ex H H1 → EvT tt ((wipe σ ws).set j (some (.int n))) H1 (t n)) (he : ∀ (n : Int) H1, Ev te ((wipe σ ws).set j (some (.int n))) H1 (.int n)) :
    EvL (tLc (iSeq K tl) (gName j) tt te ws) σ H ((is.filter t).map V.int) := by
  refine el_is (el_lcQ (fun i => (wipe σ ws).set j (some (.int (is.getD i 0)))) (fun i => t (is.getD i 0)) (fun i => .int (is.getD i 0)) h hx (by rw [List.length_map]; exact hz) (fun i _ => hw _) (fun i x H1 e hi k q => ?_) (fun i x H1 e hi => ht _ _ e) (fun i x H1 e hi _ => he _ _)) ?_
  · rw [List.getElem?_map] at hi
    cases hn : is[i]? with
    | none => rw [hn] at hi; cases hi
    | some n =>
      rw [hn] at hi
      cases hi
      rw [getD_some hn] at q
      exact q
  · rw [List.length_map]
    exact given_map is 0 t V.int
theorem evd_tupL {is : List Int} (h : EvL te σ H (is.map V.int)) : EvD (tCB (rTupP K) (tCons te tNil)) σ H (fun w H1 => Dp K H1 w (.tuple (is.map PyData.int))) := evd_tupPL h fun w H1 e1 ⟨p, hw, hp⟩ => by
  rw [hw]
  exact .tup hp.t dpAll_ints
theorem CellsOk.drop (h : CellsOk cells) : CellsOk (cells.drop 1) := by
  cases cells with
  | nil => exact h
  | cons c r => exact h.tail
theorem lawD_ints (is js : List Int) (h1 : is.length ≤ 1000) (h2 : js.length ≤ 1000) : lawD 3 (.tuple [.tuple (is.map PyData.int), .tuple (js.map PyData.int)]) = true := by
  have key : ∀ l : List Int, l.length ≤ 1000 → lawD 2 (.tuple (l.map PyData.int)) = true := fun l hl => by
    show (decide ((l.map PyData.int).length ≤ 1000) && (l.map PyData.int).all (lawD 1)) = true
    rw [decide_eq_true (by rw [List.length_map]; exact hl), Bool.true_and, List.all_map, List.all_eq_true]
    exact fun _ _ => rfl
  show (decide (2 ≤ 1000) && (lawD 2 _ && (lawD 2 _ && true))) = true
  rw [key is h1, key js h2]
  rfl
end
end Kb
set_option Elab.async false
set_option linter.all false
set_option maxRecDepth 100000
set_option maxHeartbeats 4000000
namespace Kb
open PySem PySem.Spec PyProof.Rows L2 Evl SrtO Srt
/-! ### rows (key, int): their order -/
def ltKy : Key → Key → Bool
  | .inl i, .inl j => decide (i < j)
  | .inr x, .inr y => decide (x.cps.toList < y.cps.toList)
  | .inl _, .inr _ => true
  | .inr _, .inl _ => false
theorem ky_asym {a b : Key} (h : ltKy a b = true) : ltKy b a = false := by
  cases a with
  | inl i => cases b with
    | inl j =>
      have h : i < j := of_decide_eq_true h
      exact decide_eq_false (by omega)
    | inr y => rfl
  | inr x => cases b with
    | inl j => cases h
    | inr y =>
      have h : x.cps.toList < y.cps.toList := of_decide_eq_true h
      exact decide_eq_false (List.lt_asymm h)
theorem ky_tot {a b : Key} (ne : a ≠ b) (h : ltKy a b = false) : ltKy b a = true := by
  cases a with
  | inl i => cases b with
    | inl j =>
      have h : ¬ i < j := of_decide_eq_false h
      have h2 : i ≠ j := fun z => ne (congrArg Sum.inl z)
      exact decide_eq_true (by omega)
    | inr y => cases h
  | inr x => cases b with
    | inl j => rfl
    | inr y =>
      have h : ¬ x.cps.toList < y.cps.toList := of_decide_eq_false h
      refine decide_eq_true ?_
      have h2 : y.cps.toList ≤ x.cps.toList := h
      rcases Classical.em (y.cps.toList < x.cps.toList) with z | z
      · exact z
      · exact absurd (congrArg Sum.inr (leS_anti x y (show ¬ y.cps.toList < x.cps.toList from z) h)) ne
theorem ky_trans {a b c : Key} (h : ltKy a b = true) (g : ltKy b c = true) : ltKy a c = true := by
  cases a with
  | inl i => cases b with
    | inl j => cases c with
      | inl k =>
        have h : i < j := of_decide_eq_true h
        have g : j < k := of_decide_eq_true g
        exact decide_eq_true (by omega)
      | inr z => rfl
    | inr y => cases c with
      | inl k => cases g
      | inr z => rfl
  | inr x => cases b with
    | inl j => cases h
    | inr y => cases c with
      | inl k => cases g
      | inr z =>
        have h : x.cps.toList < y.cps.toList := of_decide_eq_true h
        have g : y.cps.toList < z.cps.toList := of_decide_eq_true g
        exact decide_eq_true (List.lt_trans h g)
theorem ky_irr (a : Key) : ltKy a a = false := by
  rcases Bool.eq_false_or_eq_true (ltKy a a) with h | h
  · rw [ky_asym h] at h
    cases h
  · exact h
def lexR (p q : Key × Int) : Bool := if p.1 = q.1 then decide (p.2 < q.2) else ltKy p.1 q.1
theorem lexR_eq {p q : Key × Int} (h : p.1 = q.1) : lexR p q = decide (p.2 < q.2) := if_pos h
theorem lexR_ne {p q : Key × Int} (h : p.1 ≠ q.1) : lexR p q = ltKy p.1 q.1 := if_neg h
theorem swo_rows : Swo lexR := by
  refine ⟨fun x y h => ?_, fun x y z h1 h2 => ?_⟩
  · by_cases e : x.1 = y.1
    · rw [lexR_eq e] at h
      rw [lexR_eq e.symm]
      have h : x.2 < y.2 := of_decide_eq_true h
      exact decide_eq_false (by omega)
    · rw [lexR_ne e] at h
      rw [lexR_ne (Ne.symm e)]
      exact ky_asym h
  · by_cases e1 : y.1 = x.1
    · by_cases e2 : z.1 = y.1
      · rw [lexR_eq e1] at h1
        rw [lexR_eq e2] at h2
        rw [lexR_eq (e2.trans e1)]
        have a1 : ¬ y.2 < x.2 := of_decide_eq_false h1
        have a2 : ¬ z.2 < y.2 := of_decide_eq_false h2
        exact decide_eq_false (by omega)
      · rw [lexR_ne e2] at h2
        have e3 : z.1 ≠ x.1 := fun q => e2 (q.trans e1.symm)
        rw [lexR_ne e3, ← e1]
        exact h2
    · rw [lexR_ne e1] at h1
      by_cases e2 : z.1 = y.1
      · have e3 : z.1 ≠ x.1 := fun q => e1 (e2.symm.trans q)
        rw [lexR_ne e3, e2]
        exact h1
      · rw [lexR_ne e2] at h2
        have t := ky_trans (ky_tot e1 h1) (ky_tot e2 h2)
        have e3 : z.1 ≠ x.1 := fun q => by
          rw [q, ky_irr] at t
          cases t
        rw [lexR_ne e3]
        exact ky_asym t
theorem swo_by {α : Type} (k : α → Key × Int) : Swo fun v u => lexR (k v) (k u) := ⟨fun x y => swo_rows.asym _ _, fun x y z => swo_rows.tr _ _ _⟩
/-! ### rows in the heap -/
def IsRow (h : Heap) (v : Value) (p : Key × Int) : Prop := ∃ (a : Addr) (o : Obj) (u : Value) (t : Tok) (n : Nat), v = .ref a ∧ h.get? a = some o ∧ o.cls = .type "tuple" ∧ o.data = .seq #[u, .int p.2 t] n ∧ RelV (kV p.1) u
theorem IsRow.keeps {h h' : Heap} {v : Value} {p : Key × Int} (x : IsRow h v p) (k : ∀ b o, h.get? b = some o → o.cls = .type "tuple" → h'.get? b = some o) : IsRow h' v p := by
  obtain ⟨a, o, u, t, n, e, ho, hc, r⟩ := x
  exact ⟨a, o, u, t, n, e, k _ _ ho hc, hc, r⟩
def rowOf (h : Heap) : Value → Key × Int
  | .ref a => (match h.get? a with
    | some ⟨_, _, .seq its _, _⟩ => (match its.toList with
      | [.int i _, .int j _] => (.inl i, j)
      | [.str x _, .int j _] => (.inr x, j)
      | _ => (.inl 0, 0))
    | _ => (.inl 0, 0))
  | _ => (.inl 0, 0)
theorem IsRow.of {h : Heap} {v : Value} {p : Key × Int} (x : IsRow h v p) : rowOf h v = p := by
  obtain ⟨a, o, u, t, n, e, ho, hc, hd, r⟩ := x
  obtain ⟨oc, od, dt, sl⟩ := o
  dsimp only at hd
  subst hd e
  obtain ⟨k, i⟩ := p
  unfold rowOf
  dsimp only
  rw [ho]
  cases k with
  | inl j =>
    obtain ⟨t2, rfl⟩ := r
    rfl
  | inr y =>
    obtain ⟨t2, rfl⟩ := r
    rfl
section
variable {prog : Program} {w : World} {A : Around} {E : Value → Shared → Prop} {s : Shared}
theorem rows_snd {y y' : Int} {u u' : Tok} {i : Nat} : PySem.W.KatLex prog w A true false (fun r s' => s' = s ∧ r = decide (y < y')) [(.int y u, .int y' u')] i s := by
  refine PySem.W.kat_cons (SeqAt.EqAt.int_int y u y' u' prog w _ _ ?_)
  refine PySem.W.kat_go (fun e2 => ?_) (fun e2 => ?_)
  · have ey : y = y' := by simpa using e2
    subst ey
    exact PySem.W.kat_yes (PySem.W.kat_nil ⟨rfl, (decide_eq_false (Int.lt_irrefl _)).symm⟩)
  · exact PySem.W.kat_no (oneLt_any_int ⟨rfl, rfl⟩)
theorem rows_cmp {vs : List Value} {k : Value → Key × Int} {b : Bool} (hp : ∀ v ∈ vs, IsRow s.heap v (k v)) (one : ∀ v ∈ vs, (k v).1.isLeft = b) : Cmp prog w A s (tuples' true) (fun p => p.1 ∈ vs) (lt2 fun v u => lexR (k v) (k u)) := by
  intro p q hm hm'
  have h1 := hp _ hm
  have h2 := hp _ hm'
  have b1 := one _ hm
  have b2 := one _ hm'
  show wpAny (model prog w) A (keyLt' (tuples' true) p.1 q.1) (fun r s' => s' = s ∧ r = lexR (k p.1) (k q.1)) (fun _ _ => False) s
  revert h1 h2 b1 b2
  generalize k p.1 = r1
  generalize k q.1 = r2
  intro h1 h2 b1 b2
  obtain ⟨a, o, u, t, n, e, ho, hc, hd, g1⟩ := h1
  obtain ⟨a', o', u', t', n', e', ho', hc', hd', g2⟩ := h2
  rw [e, e']
  refine PySem.W.kat_lt ho hd ho' hd' ?_
  obtain ⟨k1, y⟩ := r1
  obtain ⟨k2, y'⟩ := r2
  cases k1 with
  | inl i => cases k2 with
    | inl j =>
      obtain ⟨t1, rfl⟩ := g1
      obtain ⟨t2, rfl⟩ := g2
      refine PySem.W.kat_cons (SeqAt.EqAt.int_int i t1 j t2 prog w _ _ ?_)
      refine PySem.W.kat_go (fun e1 => ?_) (fun e1 => ?_)
      · have ex : i = j := by simpa using e1
        subst ex
        refine PySem.W.kat_yes ?_
        rw [lexR_eq (p := (Sum.inl i, y)) (q := (Sum.inl i, y')) rfl]
        exact rows_snd
      · have ex : (Sum.inl i : Key) ≠ .inl j := fun z => by
          cases z
          simp at e1
        rw [lexR_ne (p := (Sum.inl i, y)) (q := (Sum.inl j, y')) ex]
        exact PySem.W.kat_no (oneLt_any_int ⟨rfl, rfl⟩)
    | inr x => rw [← b1] at b2; cases b2
  | inr x => cases k2 with
    | inl j => rw [← b1] at b2; cases b2
    | inr z =>
      obtain ⟨t1, rfl⟩ := g1
      obtain ⟨t2, rfl⟩ := g2
      refine PySem.W.kat_cons (SeqAt.EqAt.str_str x t1 z t2 prog w _ _ ?_)
      refine PySem.W.kat_go (fun e1 => ?_) (fun e1 => ?_)
      · have ex : x = z := eq_of_beq e1
        subst ex
        refine PySem.W.kat_yes ?_
        rw [lexR_eq (p := (Sum.inr x, y)) (q := (Sum.inr x, y')) rfl]
        exact rows_snd
      · have ex : (Sum.inr x : Key) ≠ .inr z := fun q => by
          cases q
          rw [beq_self_eq_true] at e1
          cases e1
        rw [lexR_ne (p := (Sum.inr x, y)) (q := (Sum.inr z, y')) ex]
        exact PySem.W.kat_no (oneLt_any_str ⟨rfl, rfl⟩)
theorem rows_firsts {h : Heap} {k : Value → Key × Int} : ∀ vs : List Value, (∀ v ∈ vs, IsRow h v (k v)) → ∃ fs : List Value, PySem.W.KatTups h vs fs ∧ fs.length = vs.length ∧ ∀ f ∈ fs, ∃ v ∈ vs, RelV (kV (k v).1) f
  | [], _ => ⟨[], PySem.W.KatTups.nil, rfl, fun f hf => nomatch hf⟩
  | v :: vs, hv => by
    obtain ⟨fs, h1, h2, h3⟩ := rows_firsts vs fun u hu => hv u (List.mem_cons_of_mem _ hu)
    obtain ⟨a, o, u, t, n, e, ho, hc, hd, r⟩ := hv v List.mem_cons_self
    subst e
    refine ⟨u :: fs, PySem.W.KatTups.cons ho hc hd rfl h1, by rw [List.length_cons, List.length_cons, h2], fun f hf => ?_⟩
    rcases List.mem_cons.mp hf with rfl | hf
    · exact ⟨_, List.mem_cons_self, r⟩
    · obtain ⟨v, hv, q⟩ := h3 f hf
      exact ⟨v, List.mem_cons_of_mem _ hv, q⟩
theorem rows_sortable {a : Addr} {vs : List Value} {k : Value → Key × Int} {b : Bool} (h0 : 0 < vs.length) (hp : ∀ v ∈ vs, IsRow s.heap v (k v)) (one : ∀ v ∈ vs, (k v).1.isLeft = b) (ha : ∀ o, s.heap.get? a = some o → o.cls ≠ .type "tuple") :
    SortableO prog w A s a vs fun v u => lexR (k v) (k u) := by
  intro h' keep
  have hp' : ∀ v ∈ vs, IsRow h' v (k v) := fun v hm => (hp v hm).keeps fun c o e cc => keep c o (fun z => ha o (by rw [← z]; exact e) cc) e
  obtain ⟨fs, h1, h2, h3⟩ := rows_firsts vs hp'
  refine ⟨tuples' true, fun Q E hq => ?_, rows_cmp hp' one⟩
  cases b with
  | true =>
    refine PySem.W.kat_kind (T := .type "int") h1 (by omega) (fun f hm => ?_) (by rfl) ?_
    · obtain ⟨v, hv, r⟩ := h3 f hm
      have b1 := one v hv
      revert r b1
      generalize (k v).1 = ky
      intro r b1
      cases ky with
      | inl i =>
        obtain ⟨t, rfl⟩ := r
        exact PySem.W.Looks.now
      | inr x => cases b1
    · have e : (Value.type "int" != Value.type "tuple") = true := by decide +kernel
      rw [e]
      exact hq
  | false =>
    refine PySem.W.kat_kind (T := .type "str") h1 (by omega) (fun f hm => ?_) (by rfl) ?_
    · obtain ⟨v, hv, r⟩ := h3 f hm
      have b1 := one v hv
      revert r b1
      generalize (k v).1 = ky
      intro r b1
      cases ky with
      | inr x =>
        obtain ⟨t, rfl⟩ := r
        exact PySem.W.Looks.now
      | inl i => cases b1
    · have e : (Value.type "str" != Value.type "tuple") = true := by decide +kernel
      rw [e]
      exact hq
end
end Kb
set_option Elab.async false
set_option linter.all false
set_option maxRecDepth 100000
set_option maxHeartbeats 4000000
namespace Kb
open PySem PySem.Spec PyProof.Rows L2 Evl SrtO Srt
section
variable {X : Cx} {pins : List (Addr × Obj)} {σ : L2.St} {H : Hp} {s : Shared}
theorem row_val {x : V} {v : Value} {r : Key × Int} (I : L2.Inv X pins σ H s) (hd : Dp X.K H x (rowD r)) (hv : RelV x v) : IsRow s.heap v r ∧ ∃ t, v = .ref t ∧ x = .ref t := by
  obtain ⟨k, i⟩ := r
  cases hd with
  | @tup q ys _ h1 h2 =>
    cases h2 with
    | cons a1 h2 =>
      cases h2 with
      | cons a2 h2 =>
        cases h2
        cases a2
        rw [dp_kD a1] at h1
        obtain rfl : v = .ref q := hv
        obtain ⟨its, rv, ⟨o, ho, hc, n, hdt⟩, _⟩ := I.tuple h1
        obtain ⟨u1, u2, rfl, r1, r2⟩ := vals2 rv
        obtain ⟨t, rfl⟩ := r2
        exact ⟨⟨q, o, u1, t, n, rfl, ho, hc, hdt, r1⟩, q, rfl, rfl⟩
theorem rows_vals (I : L2.Inv X pins σ H s) : ∀ {xs : List V} {its : List Value} {rs : List (Key × Int)}, Vals xs its → DpAll X.K H xs (rs.map rowD) →
    its.map (rowOf s.heap) = rs ∧ ∀ v ∈ its, IsRow s.heap v (rowOf s.heap v) ∧ rowOf s.heap v ∈ rs ∧ ∃ t, v = .ref t ∧ Dp X.K H (.ref t) (rowD (rowOf s.heap v))
  | _, _, [], rv, h => by
    cases h
    cases rv
    exact ⟨rfl, fun v hv => nomatch hv⟩
  | _, _, r :: rs, rv, h => by
    cases h with
    | cons a b =>
      cases rv with
      | cons r1 rv =>
        obtain ⟨h1, h2⟩ := rows_vals I rv b
        obtain ⟨g1, t, rfl, rfl⟩ := row_val I a r1
        have e := g1.of
        refine ⟨by rw [List.map_cons, e, h1], fun v hv => ?_⟩
        rcases List.mem_cons.mp hv with rfl | hv
        · exact ⟨by rw [e]; exact g1, by rw [e]; exact List.mem_cons_self, t, rfl, by rw [e]; exact a⟩
        · obtain ⟨q1, q2, q3⟩ := h2 v hv
          exact ⟨q1, List.mem_cons_of_mem _ q2, q3⟩
theorem dp_backs {K : PySem.W.Frag} {h : Heap} : ∀ out : List Value, (∀ v ∈ out, ∃ t, v = .ref t ∧ Dp K H (.ref t) (rowD (rowOf h v))) → DpAll K H (out.map backV) ((out.map (rowOf h)).map rowD)
  | [], _ => .nil
  | v :: out, hv => by
    obtain ⟨t, rfl, hd⟩ := hv v List.mem_cons_self
    exact .cons hd (dp_backs out fun u hu => hv u (List.mem_cons_of_mem _ hu))
end
/-- sorted of a list or a tuple -/
theorem sorted_seqO {prog : Program} {w : World} {A : Around} {E : Value → Shared → Prop} {s : Shared} {l : Addr} {o : Obj} {T : String} {vs : List Value} {n : Nat} {ltv : Value → Value → Bool} {Q : Value → Shared → Prop} (O : Swo ltv)
    (hT : T = "list" ∨ T = "tuple") (ho : s.heap.get? l = some o) (hc : o.cls = .type T) (hd : o.data = .seq vs.toArray n) (hz : vs.length ≤ sizeLine)
    (hS : 2 ≤ vs.length → ∀ (h₁ : Heap) (a : Addr), h₁.get? a = some (seqObj "list" vs.toArray 0) → (∀ b o, s.heap.get? b = some o → h₁.get? b = some o) → SortableO prog w A.in1.in1 { s with heap := h₁ } a vs ltv)
    (h : ∀ (h1 h2 : Heap) (out : List Value), (∀ b o, s.heap.get? b = some o → h1.get? b = some o) → (∀ b o, h1.get? b = some o → h2.get? b = some o) → Srtd ltv out → SrtO.Stb ltv out vs → (∃ e, h2.get? h1.objs.size = some (seqObj "list" out.toArray e)) → Q (.ref h1.objs.size) { s with heap := h2 }) :
    wpAny (model prog w) A (call (.builtin "sorted") [.ref l]) Q E s := by
  refine Calls.call_function_entry kind_sorted plain_sorted entry_sorted (args_sorted1 _) ?_
  unfold Builtin.«sorted»
  refine wpAny_bind (m := checkCount "sorted" 1 1 _) (wpAny_pure ?_)
  refine wpAny_bind (wpAny_collect_seq l hT ho hc hd (fun h1 k1 => ?_) (by rw [List.size_toArray]; exact hz))
  rw [List.toList_toArray]
  refine wpAny_bind (wpAny_newList ?_ hz)
  have hoL : (h1.push (seqObj "list" vs.toArray 0)).get? h1.objs.size = some (seqObj "list" vs.toArray 0) := Heap.get?_push_size _ rfl
  have kp : ∀ b o, h1.get? b = some o → (h1.push (seqObj "list" vs.toArray 0)).get? b = some o := fun b o e => Heap.get?_push_of_some _ e
  show wpAny _ _ _ _ _ { s with heap := h1.push (seqObj "list" vs.toArray 0) }
  refine wpAny_bind (wpAny_holding (wpAny_call_entry PyProof.Rows.slot_list_sort ⟨_, hoL, rfl⟩ PyProof.Rows.entry_list_sort (list_sort_ord O hoL hz (fun h2 => hS h2 _ _ hoL fun b o e => kp b o (k1 b o e)) fun out hs hb => ⟨_, rfl, ?_⟩) (PyProof.Rows.args_list_sort _)))
  refine wpAny_pure ⟨_, rfl, h h1 _ out k1 (fun b o e => ?_) hs hb (PyProof.Rows.sortedHeap_at (vs := vs) (out := out.toArray) hoL)⟩
  have ne : b ≠ h1.objs.size := Nat.ne_of_lt (Heap.lt_size e)
  rw [PyProof.Rows.sortedHeap_old ne (Heap.lt_size (kp b o e))]
  exact kp b o e
/-- sorted(rows (key, int)), the keys alike: a new list -/
def rSortR (K : PySem.W.Frag) : List V → Hp → VK → Prop := fun vs H Q => ∃ (a : Addr) (xs : List V) (rs : List (Key × Int)) (b : Bool), vs = [.ref a] ∧ (SqL K H a xs ∨ SqT K H a xs) ∧ DpAll K H xs (rs.map rowD) ∧ (∀ r ∈ rs, r.1.isLeft = b) ∧
  ∀ (ys : List V) (rs' : List (Key × Int)) (p : Addr), rs'.Perm rs → rs'.Pairwise (fun x y => lexR y x = false) → DpAll K H ys (rs'.map rowD) → H p = none → Q (.ref p) (upd H p (.lst ys))
section
variable {X : Cx}
theorem cr_sortR : CallR X (.builtin "sorted") (rSortR X.K) := by
  intro pins s σ H vs us Q I r h
  obtain ⟨a, xs, rs, b, rfl, hs, hD, hb, q⟩ := h
  obtain ⟨u, rfl, ru⟩ := vals1 r
  obtain rfl : u = Value.ref a := ru
  obtain ⟨its, o, n, T, rv, hT, ho, hc, hd, hz⟩ : ∃ (its : List Value) (o : Obj) (n : Nat) (T : String), Vals xs its ∧ (T = "list" ∨ T = "tuple") ∧ s.heap.get? a = some o ∧ o.cls = .type T ∧ o.data = .seq its.toArray n ∧ xs.length ≤ sizeLine := by
    rcases hs with hs | hs
    · obtain ⟨its, rv, pl, hz⟩ := I.list hs
      obtain ⟨o, ho, hc, n, hd⟩ := pl.isList
      exact ⟨its, o, n, "list", rv, .inl rfl, ho, hc, hd, hz⟩
    · obtain ⟨its, rv, ⟨o, ho, hc, n, hd⟩, hz⟩ := I.tuple hs
      exact ⟨its, o, n, "tuple", rv, .inr rfl, ho, hc, hd, hz⟩
  obtain ⟨hm, hv⟩ := rows_vals I rv hD
  have hzi : its.length ≤ sizeLine := by
    rw [← rv.length]
    exact hz
  refine sorted_seqO (ltv := fun v u => lexR (rowOf s.heap v) (rowOf s.heap u)) (swo_by _) hT ho hc hd hzi (fun h2 h₁ a' ha' kk => ?_) fun h1 h2 out k1 k2 hs hb2 ⟨e, he⟩ => ?_
  · refine rows_sortable (s := { s with heap := h₁ }) (b := b) (by omega) (fun v hm => (hv v hm).1.keeps fun b o e _ => kk b o e) (fun v hm => hb _ (hv v hm).2.1) fun o2 e => ?_
    have e' : some o2 = some (seqObj "list" its.toArray 0) := e.symm.trans ha'
    cases e'
    intro c
    exact absurd (Value.type.inj c) (by decide)
  · have h3 : ∀ u ∈ out, ∃ t, u = Value.ref t ∧ Dp X.K H (.ref t) (rowD (rowOf s.heap u)) := fun u hu => (hv u (hb2.perm.mem_iff.mp hu)).2.2
    have I1 : L2.Inv X pins σ H { s with heap := h1 } := I.kept (t' := s.toks) k1
    have hlen : (out.map backV).length ≤ sizeLine := by
      rw [List.length_map, hb2.len]
      exact hzi
    refine ⟨.ref h1.objs.size, upd H h1.objs.size (.lst (out.map backV)), I1.laid (t' := s.toks) (h' := h2) k2 (Nat.le_refl _) ⟨hlen, out, e, vals_back (fun u hu => let ⟨t, z, _⟩ := h3 u hu; ⟨t, z⟩), he⟩, rfl, ?_⟩
    refine q _ (out.map (rowOf s.heap)) _ ?_ (List.pairwise_map.mpr hs) (dp_backs out h3) (I1.hok.fresh (Nat.le_refl _))
    rw [← hm]
    exact hb2.perm.map _
end
end Kb
set_option Elab.async false
set_option linter.all false
set_option maxRecDepth 100000
set_option maxHeartbeats 4000000
namespace Kb
open PySem PySem.Spec PyProof.Rows L2 L2.DX Evl SrtO Srt
/-! ### d.items(), sorted(d.items()) of a dict with int | str keys -/
section
variable {P : Program} {w : World}
/-- a tracked dict's entries -/
theorem dk_raw {H : Hp} {h : Heap} {a : Addr} {kvs : List (Key × V)} (ok : HOk P w H h) (e : H a = some (.dK kvs)) : (a == sysModules) = false ∧ ∃ o es ep, h.get? a = some o ∧ o.ExactDict ∧ o.data = .dict es ep ∧ es.size = kvs.length ∧ es.size ≤ sizeLine ∧
    ∀ (j : Nat) (p : Key × V), kvs[j]? = some p → ∃ en, es[j]? = some en ∧ RelV (kV p.1) en.key ∧ RelV p.2 en.val := by
  obtain ⟨z, hd, vs, rel, o, es, ep, ho, hx, hdat, _, prs, _⟩ := dk_of ok e
  have l1 := prs.length
  have l2 : kvs.length = vs.length := Paired.length rel
  have l3 : es.size = kvs.length := by rw [l2, ← l1, Array.length_toList]
  refine ⟨hd, o, es, ep, ho, hx, hdat, l3, by rw [l3]; exact z, fun j p hp => ?_⟩
  have key : ∀ {es : List DictEntry} {vs : List (Key × Value)} {kvs : List (Key × V)}, Pairs (mixKind P w) es vs → KV kvs vs → ∀ (j : Nat) (p : Key × V), kvs[j]? = some p → ∃ en, es[j]? = some en ∧ RelV (kV p.1) en.key ∧ RelV p.2 en.val := by
    intro es vs kvs h1
    induction h1 generalizing kvs with
    | nil =>
      intro h2 j p hp
      cases h2
      simp at hp
    | @cons en kv es vs a1 a2 _ ih =>
      intro h2 j p hp
      cases h2 with
      | cons b1 b2 =>
        cases j with
        | zero =>
          simp at hp
          subst hp
          refine ⟨en, rfl, ?_, by rw [a2]; exact b1.2⟩
          rw [b1.1]
          rcases keyIs_shape a1 with ⟨i, t, e1, e2⟩ | ⟨x, t, e1, e2⟩
          · rw [e1, e2]
            exact ⟨t, rfl⟩
          · rw [e1, e2]
            exact ⟨t, rfl⟩
        | succ j =>
          obtain ⟨en', g1, g2⟩ := ih b2 j p (by simpa using hp)
          exact ⟨en', by simpa using g1, g2⟩
  obtain ⟨en, g1, g2⟩ := key prs rel j p hp
  exact ⟨en, by rw [← Array.getElem?_toList]; exact g1, g2⟩
end
def rItems : V → List V → Hp → VK → Prop := fun x xs H Q => ∃ (a : Addr) (kvs : List (Key × V)), x = .ref a ∧ xs = [] ∧ H a = some (.dK kvs) ∧ ∀ p, H p = none → Q (.ref p) (upd H p (itemsO p a))
/-- sorted(d.items()), the keys alike, the values ints -/
def rSortIt (K : PySem.W.Frag) : List V → Hp → VK → Prop := fun vs H Q => ∃ (p a : Addr) (rs : List (Key × Int)) (b : Bool), vs = [.ref p] ∧ H p = some (itemsO p a) ∧ H a = some (.dK (rs.map kvI)) ∧ (∀ r ∈ rs, r.1.isLeft = b) ∧
  ∀ (ys : List V) (rs' : List (Key × Int)) (l : Addr) (H' : Hp), rs'.Perm rs → rs'.Pairwise (fun x y => lexR y x = false) → (∀ b o, H b = some o → H' b = some o) → H l = none → H' l = some (.lst ys) → DpAll K H' ys (rs'.map rowD) → Q (.ref l) H'
section
variable {X : Cx}
theorem mt_itemsK : MtR X "dict.items" rItems := by
  intro pins s σ H x xs v us Q I rx rxs h
  obtain ⟨a, kvs, rfl, rfl, ha, q⟩ := h
  cases rx
  cases rxs
  obtain ⟨hd, o, es, ep, ho, hx, hdat, _⟩ := dk_raw I.hok ha
  refine DT.callItems (es := es) (ep := ep) hd ⟨o, ho, hx, hdat⟩ ?_
  exact ⟨.ref s.heap.objs.size, upd H s.heap.objs.size (itemsO s.heap.objs.size a), I.laid (t' := s.toks) (fun b u e => Heap.get?_push_of_some _ e) (Nat.le_refl _) (itemsO_ok (Heap.get?_push_size _ rfl)), rfl, q _ (I.hok.fresh (Nat.le_refl _))⟩
theorem cr_sortIt (hc : X.calm = true) : CallR X (.builtin "sorted") (rSortIt X.K) := by
  intro pins s σ H xs us Q I r h
  obtain ⟨p, a, rs, b, rfl, hp, ha, hb, q⟩ := h
  obtain rfl := Vals.ref1 r
  have view : s.heap.IsItemsView p a := (show ObjOk X.prog X.w H s.heap p (itemsO p a) from I.hok p _ hp).1
  obtain ⟨hd, o, es, ep, ho, hx, hdat, hsz, hz, hent⟩ := dk_raw I.hok ha
  rw [List.length_map] at hsz
  have hh : X.A.handled = none := I.ok.hd hc
  refine DT.sortedI (es := es) (ep := ep) hh view ⟨o, ho, hx, hdat⟩ hz fun h' tk as hk hlt hl hG => ?_
  have lak : as.length = rs.length := by omega
  have nd : as.Nodup := List.Pairwise.imp (fun h => Nat.ne_of_lt h) hG.rise
  have hob : (h'.push { cls := .type "list", data := .seq (as.map Value.ref).toArray }).get? h'.objs.size = some (seqObj "list" (as.map Value.ref).toArray 0) := Heap.get?_push_size _ rfl
  have ka : ∀ b o, h'.get? b = some o → (h'.push { cls := .type "list", data := .seq (as.map Value.ref).toArray }).get? b = some o := fun b o e => Heap.get?_push_of_some _ e
  have ne0 : ∀ b o, h'.get? b = some o → b ≠ h'.objs.size := fun b o e => Nat.ne_of_lt (Heap.lt_size e)
  revert hob ka
  generalize h'.push { cls := .type "list", data := .seq (as.map Value.ref).toArray } = h2
  intro hob ka
  -- each pair is a row
  have pr : ∀ (j : Nat) (c : Addr), as[j]? = some c → ∃ r u1 u2, rs[j]? = some r ∧ h'.get? c = some { cls := .type "tuple", data := .seq #[u1, u2] } ∧ RelV (kV r.1) u1 ∧ RelV (.int r.2) u2 := by
    intro j c hj
    obtain ⟨en, he, hg⟩ := hG.pairs j c hj
    have hjl : j < rs.length := by
      rw [← lak]
      exact (List.getElem?_eq_some_iff.mp hj).1
    obtain ⟨en', g1, g2, g3⟩ := hent j (kvI rs[j]) (by rw [List.getElem?_map, List.getElem?_eq_getElem hjl]; rfl)
    rw [he] at g1
    obtain rfl := Option.some.inj g1
    exact ⟨rs[j], en.key, en.val, List.getElem?_eq_getElem hjl, hg, g2, g3⟩
  have row : ∀ (j : Nat) (c : Addr), as[j]? = some c → ∃ r, rs[j]? = some r ∧ IsRow h2 (.ref c) r := by
    intro j c hj
    obtain ⟨r, u1, u2, hr, hg, g1, t, rfl⟩ := pr j c hj
    exact ⟨r, hr, c, _, u1, t, 0, rfl, ka _ _ hg, rfl, rfl, g1⟩
  have mem : ∀ v ∈ as.map Value.ref, ∃ (j : Nat) (c : Addr) (r : Key × Int), v = .ref c ∧ as[j]? = some c ∧ rs[j]? = some r ∧ IsRow h2 v r := by
    intro v hv
    obtain ⟨c, hc, rfl⟩ := List.mem_map.mp hv
    obtain ⟨j, hj⟩ := List.mem_iff_getElem?.mp hc
    obtain ⟨r, hr, h⟩ := row j c hj
    exact ⟨j, c, r, rfl, hj, hr, h⟩
  have hmap : (as.map Value.ref).map (rowOf h2) = rs := by
    apply List.ext_getElem?
    intro j
    rw [List.getElem?_map, List.getElem?_map]
    cases hj : as[j]? with
    | none =>
      have : rs[j]? = none := by
        rw [List.getElem?_eq_none_iff] at hj ⊢
        omega
      rw [this]
      rfl
    | some c =>
      obtain ⟨r, hr, h⟩ := row j c hj
      rw [hr]
      show some (rowOf h2 (.ref c)) = _
      rw [h.of]
  refine wpAny_call_entry PyProof.Rows.slot_list_sort ⟨_, hob, rfl⟩ PyProof.Rows.entry_list_sort
    (list_sort_ord (s := { s with heap := h2, toks := tk }) (ltv := fun v u => lexR (rowOf h2 v) (rowOf h2 u)) (swo_by _) hob (by rw [List.length_map, hl]; exact hz) (fun l2 => rows_sortable (s := { s with heap := h2, toks := tk }) (b := b) (by omega) (fun v hv => ?_) (fun v hv => ?_) fun o2 e => ?_) fun out hs hb2 => ⟨.none, rfl, ?_⟩) (PyProof.Rows.args_list_sort _)
  · obtain ⟨j, c, r, _, _, _, h⟩ := mem v hv
    rw [h.of]
    exact h
  · obtain ⟨j, c, r, _, _, hr, h⟩ := mem v hv
    rw [h.of]
    exact hb r (List.mem_of_getElem? hr)
  · have e' : some o2 = some (seqObj "list" (as.map Value.ref).toArray 0) := e.symm.trans hob
    cases e'
    intro c
    exact absurd (Value.type.inj c) (by decide)
  · show EP X pins σ Q (.ref h'.objs.size) { s with heap := sortedHeap h2 h'.objs.size (as.map Value.ref) out.toArray, toks := tk }
    have kF : ∀ b o, b ≠ h'.objs.size → h2.get? b = some o → (sortedHeap h2 h'.objs.size (as.map Value.ref) out.toArray).get? b = some o := fun b o hb e => (PyProof.Rows.sortedHeap_old hb (Heap.lt_size e)).trans e
    have kS : ∀ b o, s.heap.get? b = some o → (sortedHeap h2 h'.objs.size (as.map Value.ref) out.toArray).get? b = some o := fun b o e => kF b o (ne0 _ _ (hk b o e)) (ka b o (hk b o e))
    obtain ⟨eF, heF⟩ := PyProof.Rows.sortedHeap_at (vs := as.map Value.ref) (out := out.toArray) hob
    have I1 : L2.Inv X pins σ H { s with heap := sortedHeap h2 h'.objs.size (as.map Value.ref) out.toArray, toks := tk } := I.kept (t' := tk) kS
    have hn0 : H h'.objs.size = none := I.hok.fresh (Nat.le_of_lt hlt)
    have outm : ∀ v ∈ out, v ∈ as.map Value.ref := fun v hv => hb2.perm.mem_iff.mp hv
    have hlen : (out.map backV).length ≤ sizeLine := by
      rw [List.length_map, hb2.len, List.length_map, hl]
      exact hz
    have I2 : L2.Inv X pins σ (upd H h'.objs.size (.lst (out.map backV))) { s with heap := sortedHeap h2 h'.objs.size (as.map Value.ref) out.toArray, toks := tk } :=
      I1.take (h' := sortedHeap h2 h'.objs.size (as.map Value.ref) out.toArray) (t' := tk) (fun b ob _ e => e) (I.fpOk (Nat.le_of_lt hlt) hn0) ⟨hlen, out, eF, vals_back (fun u hu => by
        obtain ⟨j, c, r, e, _⟩ := mem u (outm u hu)
        exact ⟨c, e⟩), heF⟩
    obtain ⟨H2, I3, g, qt⟩ := takeT (P := fun c vs => ∃ (j : Nat) (r : Key × Int), as[j]? = some c ∧ rs[j]? = some r ∧ vs = [kV r.1, .int r.2]) I as _ I2 nd fun c hc => by
      obtain ⟨j, hj⟩ := List.mem_iff_getElem?.mp hc
      obtain ⟨r, u1, u2, hr, hg, g1, g2⟩ := pr j c hj
      have hbl : s.heap.objs.size ≤ c := Nat.le_of_lt (hG.above c hc)
      refine ⟨hbl, ?_, [kV r.1, .int r.2], ⟨j, r, hj, hr, rfl⟩, fun H3 => ⟨(by rw [sizeLine_eq]; show 2 ≤ 16777216; omega), [u1, u2], .cons g1 (.cons g2 .nil), ⟨_, kF _ _ (ne0 _ _ hg) (ka _ _ hg), rfl, 0, rfl⟩⟩⟩
      rw [upd_ne (ne0 _ _ hg)]
      exact I.hok.fresh hbl
    have gr : ∀ b o, H b = some o → H2 b = some o := fun b o e => g b o (by rw [upd_ne (ne_of_none e hn0)]; exact e)
    refine ⟨.ref h'.objs.size, H2, I3, rfl, q (out.map backV) (out.map (rowOf h2)) h'.objs.size H2 ?_ (List.pairwise_map.mpr hs) gr hn0 (g _ _ upd_same) (dp_backs out fun v hv => ?_)⟩
    · rw [← hmap]
      exact hb2.perm.map _
    · obtain ⟨j0, c, r0, e, hj0, _, _⟩ := mem v (outm v hv)
      obtain ⟨vs, ⟨j, r, hj, hr, ev⟩, hH⟩ := qt c (List.mem_of_getElem? hj0)
      obtain ⟨r2, hr2, hrow⟩ := row j c hj
      obtain rfl : r2 = r := Option.some.inj (hr2.symm.trans hr)
      refine ⟨c, e, ?_⟩
      rw [e, hrow.of]
      refine .tup (st_of (by rw [hH, ev])) ?_
      obtain ⟨k, i⟩ := r2
      cases k with
      | inl n => exact .cons (.int _) (.cons (.int _) .nil)
      | inr y => exact .cons (.str _) (.cons (.int _) .nil)
/-- sorted, all told -/
def rSortB (K : PySem.W.Frag) : List V → Hp → VK → Prop := fun xs H Q => rSortA K xs H Q ∨ (rSortR K xs H Q ∨ rSortIt K xs H Q)
theorem callB_sorted (hc : X.calm = true) : CallR X (.builtin "sorted") (rSortB X.K) := CallR.or (callA_sorted hc) (CallR.or cr_sortR (cr_sortIt hc))
end
end Kb
set_option Elab.async false
set_option linter.all false
set_option maxRecDepth 100000
set_option maxHeartbeats 4000000
namespace Kb
open PySem PySem.Spec PyProof.Rows L2 L2.DX Evl SrtO Srt
/-! ### d.update(e) -/
def rUpdate : V → List V → Hp → VK → Prop := fun x xs H Q => ∃ (a b : Addr) (kvs more : List (Key × V)), x = .ref a ∧ xs = [.ref b] ∧ a ≠ b ∧ H a = some (.dK kvs) ∧ H b = some (.dK more) ∧ kvs.length + more.length ≤ 100000 ∧ Q .non (upd H a (.dK (mergeK kvs more)))
theorem mt_updateK {X : Cx} : MtR X "dict.update" rUpdate := by
  intro pins s σ H x xs v us Q I rx rxs h
  obtain ⟨a, b, kvs, more, rfl, rfl, ne, ha, hb, hz, q⟩ := h
  cases rx
  obtain ⟨u, rfl, ru⟩ := vals1 rxs
  obtain rfl : u = Value.ref b := ru
  obtain ⟨z1, hd1, vs1, rel1, dd1⟩ := dk_of I.hok ha
  obtain ⟨z2, hd2, vs2, rel2, dd2⟩ := dk_of I.hok hb
  have l1 : kvs.length = vs1.length := Paired.length rel1
  have l2 : more.length = vs2.length := Paired.length rel2
  refine call_meetsIn F.slot_dict_update dd1.typeIs F.entry_dict_update (F.args_dict_update_2 _ _) (meets_dict_update (mixKind X.prog X.w) a b ne hd2) ⟨vs1, vs2, dd1, dd2, by rw [← l1, ← l2]; exact sz_of hz, fun h' q1 q2 hs => ?_⟩
  have hl : (mergeK kvs more).length ≤ sizeLine := Nat.le_trans (length_mergeK more kvs) (sz_of hz)
  obtain ⟨o, _, _, ho, _⟩ := id q1
  exact ⟨.non, upd H a (.dK (mergeK kvs more)), d_write (t' := s.toks) I (by rw [ha]; exact True.intro) hs ⟨o, ho⟩ ⟨hl, hd1, _, KV.merge rel2 rel1, q1⟩, rfl, q⟩
/-- o.m() -/
theorem pe_bmZ {X : Cx} {K : PySem.W.Frag} {T id : String} {name : Str} {r : V → List V → Hp → VK → Prop} {to : TE} {o : Expr} {apos cpos : Pos} (hK : X.K = K) (pa : PlainAttrs T) (slot : Slot T name id) (hty : typeOf (.builtin id) = pure (.type "method_descriptor")) (hm : MtR X id r) (ho : PE X o to)
    (hbase : attributeBase o name X.env (eval o X.env) = eval o X.env := by rfl) (hline : (apos.endLine == cpos.line) = true := by rfl) : PE X (.Call (.Attribute o name apos) [] [] cpos) (tBM0 K T r to) := hK ▸ pe_bm0 pa slot hty hm ho hbase hline
/-! ### the sorted rows -/
def srtR (l : List (Key × Int)) : List (Key × Int) := l.mergeSort fun a b => !lexR b a
theorem srtR_perm (l : List (Key × Int)) : (srtR l).Perm l := List.mergeSort_perm _ _
theorem lexR_anti {x y : Key × Int} (h1 : lexR x y = false) (h2 : lexR y x = false) : x = y := by
  obtain ⟨k, i⟩ := x
  obtain ⟨l, j⟩ := y
  by_cases e : k = l
  · subst e
    rw [lexR_eq (p := (k, i)) (q := (k, j)) rfl] at h1
    rw [lexR_eq (p := (k, j)) (q := (k, i)) rfl] at h2
    have a1 : ¬ i < j := of_decide_eq_false h1
    have a2 : ¬ j < i := of_decide_eq_false h2
    rw [show i = j by omega]
  · rw [lexR_ne e] at h1
    rw [lexR_ne (Ne.symm e)] at h2
    rw [ky_tot e h1] at h2
    cases h2
theorem srtR_asc (l : List (Key × Int)) : (srtR l).Pairwise fun x y => lexR y x = false := by
  have h := List.pairwise_mergeSort (le := fun a b : Key × Int => !lexR b a) (fun a b c h1 h2 => ?_) (fun a b => ?_) l
  · exact h.imp fun {a b} z => by simpa using z
  · have a1 : lexR b a = false := by simpa using h1
    have a2 : lexR c b = false := by simpa using h2
    simpa using swo_rows.tr _ _ _ a1 a2
  · cases q : lexR b a with
    | false => rfl
    | true =>
      have := swo_rows.asym _ _ q
      simp [this]
theorem srtR_uniq {l m : List (Key × Int)} (hp : m.Perm l) (hs : m.Pairwise fun x y => lexR y x = false) : m = srtR l :=
  List.Perm.eq_of_pairwise (fun a b _ _ h1 h2 => lexR_anti h2 h1) hs (srtR_asc l) (hp.trans (srtR_perm l).symm)
theorem srtR_of_perm {l m : List (Key × Int)} (hp : m.Perm l) : srtR m = srtR l := srtR_uniq ((srtR_perm m).trans hp) (srtR_asc m)
theorem srtR_self {l : List (Key × Int)} (hs : l.Pairwise fun x y => lexR y x = false) : srtR l = l := (srtR_uniq (List.Perm.refl l) hs).symm
/-- keys strictly rising -/
def AscK (l : List (Key × Int)) : Prop := l.Pairwise fun x y => ltKy x.1 y.1 = true
theorem AscK.srt {l : List (Key × Int)} (h : AscK l) : l.Pairwise fun x y => lexR y x = false := h.imp fun {a b} z => swo_rows.asym _ _ (by
  rw [lexR_ne fun e => by rw [e, ky_irr] at z; cases z]
  exact z)
theorem AscK.nodup {l : List (Key × Int)} (h : AscK l) : (l.map (·.1)).Nodup := List.pairwise_map.mpr (h.imp fun {a b} z e => by rw [e, ky_irr] at z; cases z)
theorem ascK_of {l : List (Key × Int)} (h : l.Pairwise fun x y => lexR y x = false) (hn : (l.map (·.1)).Nodup) : AscK l := by
  have hn := List.pairwise_map.mp hn
  refine (h.and hn).imp fun {a b} ⟨z, ne⟩ => ?_
  rw [lexR_ne (Ne.symm ne)] at z
  exact ky_tot (Ne.symm ne) z
theorem srtR_ascK {l : List (Key × Int)} (hn : (l.map (·.1)).Nodup) : AscK (srtR l) := ascK_of (srtR_asc l) (((srtR_perm l).map _).nodup_iff.mpr hn)
/-! ### putting a row -/
def putR (ns : List (Key × Int)) (k : Key) (i : Int) : List (Key × Int) := if ns.any (fun p => decide (p.1 = k)) then ns.map fun p => if p.1 = k then (p.1, i) else p else ns ++ [(k, i)]
theorem putR_kvI (ns : List (Key × Int)) (k : Key) (i : Int) : (putR ns k i).map kvI = putK (ns.map kvI) k (.int i) := by
  unfold putR putK
  have e : ((ns.map kvI).any fun kv => decide (kv.1 = k)) = ns.any fun p => decide (p.1 = k) := by rw [List.any_map]; rfl
  rw [e]
  split
  · rw [List.map_map, List.map_map]
    refine List.map_congr_left fun p _ => ?_
    show kvI (if p.1 = k then (p.1, i) else p) = if p.1 = k then (p.1, V.int i) else (p.1, V.int p.2)
    split <;> rfl
  · rw [List.map_append]
    rfl
/-- the others, and the new one -/
def othR (ns : List (Key × Int)) (k : Key) : List (Key × Int) := ns.filter fun p => !decide (p.1 = k)
theorem putR_perm : ∀ (ns : List (Key × Int)) (k : Key) (i : Int), (ns.map (·.1)).Nodup → (putR ns k i).Perm (othR ns k ++ [(k, i)])
  | [], k, i, _ => List.Perm.refl _
  | p :: ns, k, i, h => by
    rw [List.map_cons, List.nodup_cons] at h
    by_cases e : p.1 = k
    · have hno : ∀ q ∈ ns, ¬ q.1 = k := fun q hq z => h.1 (by rw [e, ← z]; exact List.mem_map.mpr ⟨q, hq, rfl⟩)
      have h1 : putR (p :: ns) k i = (k, i) :: ns := by
        unfold putR
        rw [if_pos (by simp [e])]
        rw [List.map_cons, if_pos e, e]
        congr 1
        have e3 : ns.map (fun p : Key × Int => if p.1 = k then (p.1, i) else p) = ns.map id := List.map_congr_left fun q hq => if_neg (hno q hq)
        rw [e3, List.map_id]
      have h2 : othR (p :: ns) k = ns := by
        unfold othR
        rw [List.filter_cons_of_neg (by simp [e]), List.filter_eq_self]
        intro q hq
        simp [hno q hq]
      rw [h1, h2]
      exact (List.perm_append_comm (l₁ := [(k, i)]) (l₂ := ns))
    · have ih := putR_perm ns k i h.2
      have h1 : putR (p :: ns) k i = p :: putR ns k i := by
        unfold putR
        have e2 : (p :: ns).any (fun p => decide (p.1 = k)) = ns.any fun p => decide (p.1 = k) := by simp [e]
        rw [e2]
        split
        · rw [List.map_cons, if_neg e]
        · rfl
      have h2 : othR (p :: ns) k = p :: othR ns k := by
        unfold othR
        rw [List.filter_cons_of_pos (by simp [e])]
      rw [h1, h2]
      exact ih.cons p
theorem othR_keys {ns : List (Key × Int)} (k : Key) (i : Int) (h : (ns.map (·.1)).Nodup) : ((othR ns k ++ [(k, i)]).map (·.1)).Nodup := by
  rw [List.map_append, List.nodup_append]
  refine ⟨((List.filter_sublist (l := ns)).map _).nodup h, by simp, fun a ha b hb e => ?_⟩
  obtain ⟨p, hp, rfl⟩ := List.mem_map.mp ha
  have := (List.mem_filter.mp hp).2
  simp only [List.map_cons, List.map_nil, List.mem_singleton] at hb
  rw [e, hb] at this
  simp at this
theorem putR_keys {ns : List (Key × Int)} (k : Key) (i : Int) (h : (ns.map (·.1)).Nodup) : ((putR ns k i).map (·.1)).Nodup := (((putR_perm ns k i h).map _).nodup_iff).mpr (othR_keys k i h)
section
variable {K : PySem.W.Frag} {σ : L2.St} {H H' : Hp} {te ta tb tl tk tv : TE} {v : V} {d : PyData} {vs : List V} {ds : List PyData} {rs : List (Key × Int)} {b : Bool}
/-- a new dict -/
def EvK (te : TE) (σ : L2.St) (H : Hp) (kvs : List (Key × V)) : Prop := ∀ H1, Ex H H1 → ∀ Q : VK, (∀ p H2, H1 p = none → Ex H1 H2 → H2 p = some (.dK kvs) → Q (.ref p) H2) → te σ H1 Q
theorem ek_dictT (ha : Ev ta σ H v) (hp : Pd K H v (rowsD rs)) (hn : (rs.map (·.1)).Nodup) : EvK (tCB (rDictT K) (tCons ta tNil)) σ H (rs.map kvI) := fun H1 e Q q => by
  obtain ⟨p, xs, ds, rfl, e1, hx, hd⟩ := hp
  obtain rfl := PyData.tuple.inj e1
  obtain ⟨ps, rfl, hpr⟩ := rows_paired hd
  refine ha H1 e _ fun H2 e2 => ⟨p, ps, rs.map kvI, rfl, hx.ext (e.trans e2), Paired.mapP hpr fun a b h => ex_t (e.trans e2) h, fun r hr => ?_⟩
  rw [merge_nodup _ [] (by rw [List.nil_append, kvI_fst]; exact hn), List.nil_append]
  exact q r _ (fresh_back e2 hr) (e2.trans (Ex.new hr)) upd_same
theorem qk_asg {i : Nat} {kvs : List (Key × V)} {D : Ends} {tz : TS} (h : EvK te σ H kvs) (k : ∀ p H1, H p = none → Ex H H1 → H1 p = some (.dK kvs) → tz D (σ.set i (some (.ref p))) H1) : tSeq (tAsg te (gName i)) tz D σ H := h H (Ex.refl H) _ k
theorem ek_d {kvs : List (Key × V)} (h : EvK te σ H kvs) : EvD te σ H (fun w H1 => ∃ p, w = .ref p ∧ H1 p = some (.dK kvs)) := fun H1 e Q q => h H1 e _ fun p H2 _ e2 h2 => q _ _ e2 ⟨p, rfl, h2⟩
/-- sorted of a new list of rows -/
theorem eld_sortR (ha : EvLD K ta σ H (rs.map rowD)) (hb : ∀ r ∈ rs, r.1.isLeft = b) : EvLD K (tCB (rSortB K) (tCons ta tNil)) σ H ((srtR rs).map rowD) := fun H1 e Q q =>
  ha H1 e _ fun l xs H2 hl e2 h2 hd => .inr (.inl ⟨l, xs, rs, b, rfl, .inl (sq_of h2), hd, hb, fun ys rs' p hp hs hd2 hn => by
    obtain rfl := srtR_uniq hp hs
    exact q p ys _ (fresh_back e2 hn) (e2.trans (Ex.new hn)) upd_same (DpAll.ext (Ex.new hn) hd2)⟩)
/-- sorted of a tuple of rows -/
theorem eld_sortT (ha : EvD ta σ H (fun w H1 => Dp K H1 w (rowsD rs))) (hb : ∀ r ∈ rs, r.1.isLeft = b) : EvLD K (tCB (rSortB K) (tCons ta tNil)) σ H ((srtR rs).map rowD) := fun H1 e Q q =>
  ha H1 e _ fun w H2 e2 hd => by
    cases hd with
    | @tup a xs _ h1 a1 =>
      exact .inr (.inl ⟨a, xs, rs, b, rfl, .inr h1, a1, hb, fun ys rs' p hp hs hd2 hn => by
        obtain rfl := srtR_uniq hp hs
        exact q p ys _ (fresh_back e2 hn) (e2.trans (Ex.new hn)) upd_same (DpAll.ext (Ex.new hn) hd2)⟩)
/-- sorted(d.items()) -/
theorem eld_sortIt {p : Addr} (ha : Ev ta σ H (.ref p)) (hp : H p = some (.dK (rs.map kvI))) (hb : ∀ r ∈ rs, r.1.isLeft = b) : EvLD K (tCB (rSortB K) (tCons (tBM0 K "dict" rItems ta) tNil)) σ H ((srtR rs).map rowD) := fun H1 e Q q =>
  ha H1 e _ fun H2 e2 => by
    have hp2 := e2 _ _ (e _ _ hp)
    refine ⟨?_, p, rs.map kvI, rfl, rfl, hp2, fun m hm => .inr (.inr ⟨m, p, rs, b, rfl, upd_same, by rw [upd_ne (ne_of_none hp2 hm)]; exact hp2, hb, fun ys rs' l H' hpm hs e3 hl h' hd => ?_⟩)⟩
    · exact .inr (.inr (.inl ⟨rfl, .inl ⟨_, hp2⟩⟩))
    · obtain rfl := srtR_uniq hpm hs
      have e4 : Ex H2 (upd H2 m (itemsO m p)) := Ex.new hm
      exact q l ys H' (fresh_back e2 (fresh_back e4 hl)) ((e2.trans e4).trans e3) h' hd
end
end Kb
set_option Elab.async false
set_option linter.all false
set_option maxRecDepth 100000
set_option maxHeartbeats 4000000
namespace Kb
open PySem PySem.Spec PyProof.Rows L2 L2.DX Evl SrtO Srt
/-! ### right stores and heaps -/
structure NmOk (z : Str) : Prop where
  nm : nameD (.str z) = true
  len : z.length ≤ 40000
  lay : PyData.canLay0 (.str z) = true
structure SG (ns : List (Key × Int)) : Prop where
  nm : ∀ q ∈ ns, ∃ z, q.1 = .inr z ∧ NmOk z
  vl : ∀ q ∈ ns, 0 ≤ q.2 ∧ q.2 ≤ 1000000
  asc : AscK ns
  len : ns.length ≤ 60
structure HG (cs : List (Key × Int)) : Prop where
  ad : ∀ q ∈ cs, ∃ a, q.1 = .inl a ∧ 1 ≤ a ∧ a ≤ 1000000
  vl : ∀ q ∈ cs, 0 ≤ q.2 ∧ q.2 ≤ 1000000
  asc : AscK cs
  len : cs.length ≤ 40
theorem value_ok {i : Int} (h : 0 ≤ i ∧ i ≤ 1000000) : valueD (.int i) = true := by
  show (decide (i ≥ 0) && decide (i ≤ 1000000)) = true
  rw [decide_eq_true h.1, decide_eq_true h.2]
  rfl
theorem addr_ok {i : Int} (h : 1 ≤ i ∧ i ≤ 1000000) : addrD (.int i) = true := by
  show (decide (1 ≤ i) && decide (i ≤ 1000000)) = true
  rw [decide_eq_true h.1, decide_eq_true h.2]
  rfl
theorem value_of_ok {i : Int} (h : valueD (.int i) = true) : 0 ≤ i ∧ i ≤ 1000000 := by
  have h : (decide (i ≥ 0) && decide (i ≤ 1000000)) = true := h
  simp only [Bool.and_eq_true, decide_eq_true_eq] at h
  exact h
theorem addr_of_ok {i : Int} (h : addrD (.int i) = true) : 1 ≤ i ∧ i ≤ 1000000 := by
  have h : (decide (1 ≤ i) && decide (i ≤ 1000000)) = true := h
  simp only [Bool.and_eq_true, decide_eq_true_eq] at h
  exact h
theorem rows_dV (l : List (Key × Int)) : (l.map rowD).map (fun r => dV (pr1 r)) = l.map fun q => kV q.1 := by
  rw [List.map_map]
  refine List.map_congr_left fun q _ => ?_
  obtain ⟨k, i⟩ := q
  cases k <;> rfl
theorem rows_ris {l : List (Key × Int)} (h : AscK l) (one : (∀ q ∈ l, ∃ z, q.1 = .inr z) ∨ ∀ q ∈ l, ∃ a, q.1 = .inl a) : risV ((l.map rowD).map fun r => dV (pr1 r)) = true := by
  rw [rows_dV]
  refine risV_of (List.pairwise_map.mpr (List.Pairwise.imp_of_mem (fun {a b} ha hb z => ?_) h))
  rcases one with one | one
  · obtain ⟨x, ex⟩ := one a ha
    obtain ⟨y, ey⟩ := one b hb
    rw [ex, ey] at z
    rw [ex, ey]
    exact z
  · obtain ⟨x, ex⟩ := one a ha
    obtain ⟨y, ey⟩ := one b hb
    rw [ex, ey] at z
    rw [ex, ey]
    exact z
theorem rows_pair (l : List (Key × Int)) : (l.map rowD).all pairD = true := List.all_eq_true.mpr fun d hd => by
  obtain ⟨q, _, rfl⟩ := List.mem_map.mp hd
  rfl
theorem SG.ok {ns : List (Key × Int)} (h : SG ns) : storeD (rowsD ns) = true ∧ RowsTxt (rowsD ns) := by
  refine ⟨?_, fun ds e r hr => ?_⟩
  · show storeD (.tuple (ns.map rowD)) = true
    rw [storeD_t]
    have h1 : decide (((ns.map rowD).length : Int) > 60) = false := decide_eq_false (by rw [List.length_map]; have := h.len; omega)
    have h3 : ((ns.map rowD).all fun r => nameD (pr1 r) && valueD (pr2 r)) = true := List.all_eq_true.mpr fun d hd => by
      obtain ⟨q, hq, rfl⟩ := List.mem_map.mp hd
      obtain ⟨z, e, hz⟩ := h.nm q hq
      have hv := h.vl q hq
      obtain ⟨k, i⟩ := q
      have e : k = .inr z := e
      subst e
      show (nameD (.str z) && valueD (.int i)) = true
      rw [hz.nm, value_ok hv]
      rfl
    rw [h1, rows_pair, h3, rows_ris h.asc (.inl fun q hq => let ⟨z, e, _⟩ := h.nm q hq; ⟨z, e⟩)]
    rfl
  · have e : PyData.tuple (ns.map rowD) = .tuple ds := e
    injection e with e
    rw [← e] at hr
    obtain ⟨q, hq, rfl⟩ := List.mem_map.mp hr
    obtain ⟨z, e2, hz⟩ := h.nm q hq
    obtain ⟨k, i⟩ := q
    have e2 : k = .inr z := e2
    subst e2
    exact hz.len
theorem HG.ok {cs : List (Key × Int)} (h : HG cs) : heapD (rowsD cs) = true := by
  show heapD (.tuple (cs.map rowD)) = true
  rw [heapD_t]
  have h1 : decide (((cs.map rowD).length : Int) > 40) = false := decide_eq_false (by rw [List.length_map]; have := h.len; omega)
  have h3 : ((cs.map rowD).all fun r => addrD (pr1 r) && valueD (pr2 r)) = true := List.all_eq_true.mpr fun d hd => by
    obtain ⟨q, hq, rfl⟩ := List.mem_map.mp hd
    obtain ⟨z, e, hz⟩ := h.ad q hq
    have hv := h.vl q hq
    obtain ⟨k, i⟩ := q
    have e : k = .inl z := e
    subst e
    show (addrD (.int z) && valueD (.int i)) = true
    rw [addr_ok hz, value_ok hv]
    rfl
  rw [h1, rows_pair, h3, rows_ris h.asc (.inr fun q hq => let ⟨z, e, _⟩ := h.ad q hq; ⟨z, e⟩)]
  rfl
theorem lay_rows : ∀ {l : List (Key × Int)}, (∀ q ∈ l, PyData.canLay0 (kD q.1) = true) → PyData.canLayAll0 (l.map rowD) = true ∧ PyData.depthAll (l.map rowD) ≤ 1
  | [], _ => ⟨rfl, Nat.zero_le _⟩
  | q :: l, h => by
    obtain ⟨a, b⟩ := lay_rows fun x hx => h x (List.mem_cons_of_mem _ hx)
    have c := h q List.mem_cons_self
    obtain ⟨k, i⟩ := q
    refine ⟨?_, ?_⟩
    · rw [List.map_cons]
      simp only [PyData.canLayAll0, rowD, PyData.canLay0, c, a]
      rfl
    · rw [List.map_cons]
      simp only [PyData.depthAll, rowD, PyData.depth]
      cases k <;> simp only [kD, PyData.depth] <;> omega
theorem SG.lay {ns : List (Key × Int)} (h : SG ns) : ∀ q ∈ ns, PyData.canLay0 (kD q.1) = true := fun q hq => by
  obtain ⟨z, e, hz⟩ := h.nm q hq
  rw [e]
  exact hz.lay
theorem HG.lay {cs : List (Key × Int)} (h : HG cs) : ∀ q ∈ cs, PyData.canLay0 (kD q.1) = true := fun q hq => by
  obtain ⟨z, e, hz⟩ := h.ad q hq
  rw [e]
  rfl
theorem shaped_rows {l : List (Key × Int)} (h : ∀ q ∈ l, PyData.canLay0 (kD q.1) = true) : SeqAt.shaped (rowsD l) = true := by
  obtain ⟨a, b⟩ := lay_rows h
  unfold SeqAt.shaped
  simp only [rowsD, PyData.canLay0, a, PyData.depth, Bool.true_and, decide_eq_true_eq]
  omega
theorem shaped_st {ns cs : List (Key × Int)} (h : SG ns) (g : HG cs) : SeqAt.shaped (.tuple [rowsD ns, rowsD cs]) = true := by
  obtain ⟨a, b⟩ := lay_rows h.lay
  obtain ⟨a', b'⟩ := lay_rows g.lay
  unfold SeqAt.shaped
  simp only [rowsD, PyData.canLay0, PyData.canLayAll0, a, a', PyData.depth, PyData.depthAll, Bool.true_and, Bool.and_true, decide_eq_true_eq]
  omega
theorem SG.one {ns : List (Key × Int)} (h : SG ns) : ∀ r ∈ ns, r.1.isLeft = false := fun r hr => by
  obtain ⟨z, e, _⟩ := h.nm r hr
  rw [e]
  rfl
theorem HG.one {cs : List (Key × Int)} (h : HG cs) : ∀ r ∈ cs, r.1.isLeft = true := fun r hr => by
  obtain ⟨z, e, _⟩ := h.ad r hr
  rw [e]
  rfl
theorem mem_put {ns : List (Key × Int)} {k : Key} {i : Int} (hn : (ns.map (·.1)).Nodup) {q : Key × Int} (h : q ∈ srtR (putR ns k i)) : q ∈ ns ∨ q = (k, i) := by
  have h := (putR_perm ns k i hn).mem_iff.mp ((srtR_perm _).mem_iff.mp h)
  rcases List.mem_append.mp h with h | h
  · exact .inl (List.mem_filter.mp h).1
  · exact .inr (List.mem_singleton.mp h)
theorem SG.put {ns : List (Key × Int)} {z : Str} {i : Int} (h : SG ns) (hz : NmOk z) (hi : 0 ≤ i ∧ i ≤ 1000000) (hl : (putR ns (.inr z) i).length ≤ 60) : SG (srtR (putR ns (.inr z) i)) := by
  have nd := h.asc.nodup
  refine ⟨fun q hq => ?_, fun q hq => ?_, srtR_ascK (putR_keys _ _ nd), by rw [(srtR_perm _).length_eq]; exact hl⟩
  · rcases mem_put nd hq with hq | rfl
    · exact h.nm q hq
    · exact ⟨z, rfl, hz⟩
  · rcases mem_put nd hq with hq | rfl
    · exact h.vl q hq
    · exact hi
theorem HG.put {cs : List (Key × Int)} {a i : Int} (h : HG cs) (ha : 1 ≤ a ∧ a ≤ 1000000) (hi : 0 ≤ i ∧ i ≤ 1000000) (hl : (putR cs (.inl a) i).length ≤ 40) : HG (srtR (putR cs (.inl a) i)) := by
  have nd := h.asc.nodup
  refine ⟨fun q hq => ?_, fun q hq => ?_, srtR_ascK (putR_keys _ _ nd), by rw [(srtR_perm _).length_eq]; exact hl⟩
  · rcases mem_put nd hq with hq | rfl
    · exact h.ad q hq
    · exact ⟨a, rfl, ha⟩
  · rcases mem_put nd hq with hq | rfl
    · exact h.vl q hq
    · exact hi
theorem HG.sub {cs ds : List (Key × Int)} (h : HG cs) (hs : ds.Sublist cs) : HG ds := ⟨fun q hq => h.ad q (hs.subset hq), fun q hq => h.vl q (hs.subset hq), List.Pairwise.sublist hs h.asc, Nat.le_trans hs.length_le h.len⟩
/-- a State that is right -/
structure StG (K : PySem.W.Frag) (H : Hp) (C a : Addr) (ns cs : List (Key × Int)) : Prop where
  m : StM K H C a ns cs
  s : SG ns
  h : HG cs
theorem StG.ext {K : PySem.W.Frag} {H H' : Hp} {C a : Addr} {ns cs : List (Key × Int)} (q : StG K H C a ns cs) (e : Ex H H') : StG K H' C a ns cs := ⟨q.m.ext e, q.s, q.h⟩
/-- what stands for rows: a tuple of them, or a list -/
def RowArg (K : PySem.W.Frag) (rs : List (Key × Int)) : V → Hp → Prop := fun v H => ∃ d, Dp K H v d ∧ asTup d = rowsD rs ∧ ((tupD d).isSome = true → Pd K H v d)
section
variable {K : PySem.W.Frag} {σ : L2.St} {H H' : Hp} {te ta tb : TE} {tr : TA} {v : V} {C BR : Addr} {E : XK} {ns cs rs : List (Key × Int)}
theorem RowArg.ext (h : RowArg K rs v H) (e : Ex H H') : RowArg K rs v H' := let ⟨d, a, b, c⟩ := h; ⟨d, Dp.ext e a, b, fun z => (c z).ext e⟩
theorem ra_pd (h : Pd K H v (rowsD rs)) : RowArg K rs v H := ⟨rowsD rs, h.dp, rfl, fun _ => h⟩
theorem rad_ev (h : Ev te σ H v) (hp : Pd K H v (rowsD rs)) : EvD te σ H (RowArg K rs) := ev_EvD h fun H1 e => ra_pd (hp.ext e)
theorem rad_l (h : EvLD K te σ H (rs.map rowD)) : EvD te σ H (RowArg K rs) := fun H1 e Q q => h H1 e _ fun l xs H2 hl e2 h2 hd => q _ _ e2 ⟨.list (rs.map rowD), .lst (sq_of h2) hd, rfl, fun z => nomatch z⟩
/-- State(a, b), all right -/
theorem evd_mkG (hs : SG ns) (hh : HG cs) (h1 : EvD ta σ H (RowArg K ns)) (h2 : EvD tb σ H (RowArg K cs)) : EvD (tMake C (spSInit K C BR) [] E (tCons ta (tCons tb tNil))) σ H (fun w H1 => ∃ a, w = .ref a ∧ StG K H1 C a ns cs) := fun H1 e Q q =>
  h1 H1 e _ fun v1 H2 e2 r1 => h2 H2 (e.trans e2) _ fun v2 H3 e3 r2 => by
    obtain ⟨d1, a1, b1, c1⟩ := r1.ext e3
    obtain ⟨d2, a2, b2, c2⟩ := r2
    intro x dx hx hdx ne
    have g1 : storeD (asTup d1) = true := by rw [b1]; exact hs.ok.1
    have g2 : heapD (asTup d2) = true := by rw [b2]; exact hh.ok
    have E3 : Ex H3 (upd (upd H3 dx (.own x)) x (.ins C dx [])) := (Ex.new hdx).trans (Ex.new (by rw [upd_ne (Ne.symm ne)]; exact hx))
    refine ⟨x, dx, v1, v2, d1, d2, rfl, upd_same, Dp.ext E3 a1, Dp.ext E3 a2, by rw [b1]; exact hs.ok.2, (fun z => by rw [g1] at z; cases z), (fun _ z => by rw [g2] at z; cases z), fun _ _ w1 w2 H' kp q1 q2 p1 p2 hx' => ⟨rfl, ?_⟩⟩
    have E4 : Ex H3 H' := fun b o hb => kp b o (E3 b o hb) (fun z => by rw [z, hx] at hb; cases hb)
    refine q _ _ ((e2.trans e3).trans E4) ⟨x, rfl, ⟨⟨dx, w1, w2, hx', ?_, ?_⟩, hs.asc.nodup, hh.asc.nodup⟩, hs, hh⟩
    · rw [← b1]
      exact p1 fun z => (c1 z).ext E3
    · rw [← b2]
      exact p2 fun z => (c2 z).ext E3
theorem StG.parts {a : Addr} (q : StG K H C a ns cs) : ∃ dx v1 v2, H a = some (.ins C dx [("store", v1), ("heap", v2)]) ∧ Pd K H v1 (rowsD ns) ∧ Pd K H v2 (rowsD cs) := q.m.ex
end
end Kb
set_option Elab.async false
set_option linter.all false
set_option maxRecDepth 100000
set_option maxHeartbeats 4000000
namespace Kb
open PySem PySem.Spec PyProof.Rows L2 L2.DX Evl SrtO Srt
section
variable {P : Program} {w : World} {K : PySem.W.Frag} {mg : Str → Option Value} {base : Heap} {H : Hp} {v : V} {d : PyData} {σ : L2.St} {te : TE} {C BR BN TM UN : Addr} {ns cs : List (Key × Int)}
def spNeedV (K : PySem.W.Frag) (BN : Addr) : Sp := fun vs H Q E => ∃ v d, vs = [v] ∧ Dp K H v d ∧ (valueD d = false → Rs E H BN [("number", v), ("what", .str "value")]) ∧ (valueD d = true → ∀ H', Ex H H' → Q .non H')
theorem ok_need_value (B : Bi mg) (g_is_value : Gv P w K mg base CX0 3 "is_value" ["value"] (spB K noC valueD)) (x_BadNumber : XC P w K mg base "BadNumber" BN ["self", "what", "number"] (spI2 BN "what" "number")) (D : Df K mg "need_value" s_need_value ["value"]) :
    Gv P w K mg base (L2.CX P w) 4 "need_value" ["value"] (spNeedV K BN) := by
  refine D.gvX sc_need_value (fun vs H Q E h => ?_) (fun f cdv A outer s H vs Q E hr h => ⟨_, (pss_one (ps_if (pt_not (pt_val (pe_cg g_is_value hr rfl pass0 (pa_cons (pv 0) pa_nil)))) (pss_one (ps_raise rfl (takes_of rfl rfl rfl rfl) (pmk_xc x_BadNumber hr rfl (pa_cons pe_str (pa_cons (pv 0) pa_nil))))) pss_nil)), ?_⟩)
  · obtain ⟨v, d, rfl, _⟩ := h
    rfl
  obtain ⟨v, d, rfl, hd, hR, hQ⟩ := h
  exact s_when (b := !valueD d) (et_not (et_B (ev_call (ea_cons (ev_var rfl) ea_nil) (spB_v hd trivial)))) (fun b H1 e1 => rs_2 (ea_cons ev_c (ea_cons (ev_var rfl) ea_nil)) ((hR (by simpa using b)).ext e1)) (fun b H1 e1 => hQ (by simpa using b) H1 e1)
/-- a call that gives a right State -/
def GivesS (K : PySem.W.Frag) (C : Addr) (Q : VK) (H : Hp) (ns cs : List (Key × Int)) : Prop := ∀ a H', Ex H H' → StG K H' C a ns cs → Q (.ref a) H'
def spStored (K : PySem.W.Frag) (C : Addr) : Sp := fun vs H Q _ => ∃ a z i ns cs, vs = [.ref a, .str z, .int i] ∧ StG K H C a ns cs ∧ NmOk z ∧ (0 ≤ i ∧ i ≤ 1000000) ∧ (putR ns (.inr z) i).length ≤ 60 ∧ GivesS K C Q H (srtR (putR ns (.inr z) i)) cs
theorem isS (h : EvD te σ H (fun w H1 => ∃ a, w = .ref a ∧ StG K H1 C a ns cs)) {H0 : Hp} {D : Ends} (e : Ex H0 H) (g : GivesS K C D.rt H0 ns cs) : tRet te D σ H := sd_ret h fun w H1 e1 ⟨a, hw, hst⟩ => by
  rw [hw]
  exact g a H1 (e.trans e1) hst
theorem put_one {k : Key} {i : Int} {b : Bool} (hn : (ns.map (·.1)).Nodup) (h : ∀ r ∈ ns, r.1.isLeft = b) (hk : k.isLeft = b) : ∀ r ∈ putR ns k i, r.1.isLeft = b := fun r hr => by
  rcases mem_put hn ((srtR_perm _).mem_iff.mpr hr) with hr | rfl
  · exact h r hr
  · exact hk
theorem ok_stored (B : Bi mg) (k_State : Kl K mg "State" C SF) (m_State : Mkr P w K mg base (L2.CX P w) 5 "State" C ["self", "store", "heap"] (spSInit K C BR)) (D : Df K mg "stored" s_stored ["state", "name", "value"]) :
    Gv P w K mg base (L2.CX P w) 7 "stored" ["state", "name", "value"] (spStored K C) := by
  have nd := sc_stored.nd
  refine D.gvX sc_stored (fun vs H Q E h => ?_) (fun f cdv A outer s H vs Q E hr h => ?_)
  · obtain ⟨a, z, i, ns, cs, rfl, _⟩ := h
    rfl
  have hu := Nat.lt_of_le_of_lt (Nat.add_le_add_left (show 1 ≤ 64 by decide) _) (hu64_of hr)
  refine ⟨_, (pss_cons (ps_set (i := 3) nd rfl (.inl rfl) (pe_callTy (r := rDictT K) (call_dictT rfl) rfl B.dict (by decide +kernel) (pa_cons (pe_fld (pv 0) rfl) pa_nil)))
    (pss_cons (ps_dput hu (pv 3) (pv 1) (pv 2) rfl)
    (pss_one (ps_ret (pe_mk m_State hr rfl (passes_call (takes_of rfl rfl rfl rfl) (fun _ _ _ _ h => h)) (pa_cons (pe_callB (r := rSortB K) (callB_sorted rfl) rfl B.sorted (by decide +kernel) (pa_cons (pe_bmZ (K := K) rfl PySem.F.plainAttrs_dict PySem.F.slot_dict_items PySem.F.type_dict_items mt_itemsK (pv 3)) pa_nil)) (pa_cons (pe_fld (pv 0) rfl) pa_nil))))))), ?_⟩
  obtain ⟨a, z, i, ns, cs, rfl, hs, hz, hi, hl, hQ⟩ := h
  obtain ⟨dx, v1, v2, h1, p1, p2⟩ := hs.parts
  have nd1 := hs.s.asc.nodup
  refine qk_asg (ek_dictT (ev_fld k_State (by decide) (ev_var rfl) h1 rfl) p1 nd1) (fun p H1 hp e1 hd => ?_)
  refine q_dput (k := .inr z) (v := .int i) (ev_var rfl) (ev_var rfl) (ev_var rfl) hd (by rw [List.length_map]; have := hs.s.len; omega) (fun H2 e2 => ?_)
  have x2 : Ex H (upd H2 p (.dK (putK (ns.map kvI) (.inr z) (.int i)))) := (e1.trans e2).mut hp
  have hp2 : upd H2 p (.dK (putK (ns.map kvI) (.inr z) (.int i))) p = some (.dK ((putR ns (.inr z) i).map kvI)) := by rw [upd_same, putR_kvI]
  exact isS (evd_mkG (hs.s.put hz hi hl) hs.h (rad_l (eld_sortIt (ev_var rfl) hp2 (put_one nd1 hs.s.one rfl))) (rad_ev (ev_fld k_State (by decide) (ev_var rfl) (x2 _ _ h1) rfl) (p2.ext x2))) x2 hQ
def spWithValue (K : PySem.W.Frag) (C BR BN TM : Addr) : Sp := fun vs H Q E => ∃ v n u, vs = [v, n, u] ∧ ((∃ d, Dp K H v d ∧ Rs E H BR [("row", v), ("what", .str "state")]) ∨
  ∃ a ns cs dn, v = .ref a ∧ StG K H C a ns cs ∧ Dp K H n dn ∧ TxtOk dn ∧ ((nameD dn = false ∧ Rs E H BR [("row", n), ("what", .str "name")]) ∨
    ∃ z du, dn = .str z ∧ NmOk z ∧ Dp K H u du ∧ ((valueD du = false ∧ Rs E H BN [("number", u), ("what", .str "value")]) ∨
      ∃ i, du = .int i ∧ valueD du = true ∧ (((ns.any fun p => decide (p.1 = .inr z)) = false ∧ ns.length = 60 ∧ Rs E H TM [("limit", .int 60), ("many", .int 61), ("what", .str "names")]) ∨
        (((ns.any fun p => decide (p.1 = .inr z)) = true ∨ ns.length < 60) ∧ GivesS K C Q H (srtR (putR ns (.inr z) i)) cs)))))
theorem look_any (ns : List (Key × Int)) (k : Key) : (valV (ns.map kvI) k).isSome = ns.any fun p => decide (p.1 = k) := by
  rw [← valV_any, List.any_map]
  rfl
theorem ok_with_value (B : Bi mg) (W : WS K mg) (k_State : Kl K mg "State" C SF) (g_need_state : Gv P w K mg base (L2.CX P w) 3 "need_state" ["what", "value"] (spNeed K C BR)) (g_is_plain_name : Gv P w K mg base CX0 1 "is_plain_name" ["value"] (spB K TxtOk nameD))
    (g_need_value : Gv P w K mg base (L2.CX P w) 4 "need_value" ["value"] (spNeedV K BN)) (g_stored : Gv P w K mg base (L2.CX P w) 7 "stored" ["state", "name", "value"] (spStored K C)) (x_BadRow : XC P w K mg base "BadRow" BR ["self", "what", "row"] (spI2 BR "what" "row"))
    (x_TooMany : XC P w K mg base "TooMany" TM ["self", "what", "many", "limit"] (spI3 TM "what" "many" "limit")) (D : Df K mg "with_value" s_with_value ["state", "name", "value"]) :
    Gv P w K mg base (L2.CX P w) 8 "with_value" ["state", "name", "value"] (spWithValue K C BR BN TM) := by
  refine D.gvX sc_with_value (fun vs H Q E h => ?_) (fun f cdv A outer s H vs Q E hr h => ?_)
  · obtain ⟨v, n, u, rfl, _⟩ := h
    rfl
  have hu64 := hu64_of hr
  refine ⟨_, (pss_cons (ps_expr (pe_cg g_need_state hr rfl (passes_call (takes_of rfl rfl rfl rfl) (fun _ _ _ _ h => h)) (pa_cons pe_str (pa_cons (pv 0) pa_nil))))
    (pss_cons (ps_if (pt_not (pt_val (pe_cg g_is_plain_name hr rfl pass0 (pa_cons (pv 1) pa_nil)))) (pss_one (ps_raise rfl (takes_of rfl rfl rfl rfl) (pmk_xc x_BadRow hr rfl (pa_cons pe_str (pa_cons (pv 1) pa_nil))))) pss_nil)
    (pss_cons (ps_expr (pe_cg g_need_value hr rfl (passes_call (takes_of rfl rfl rfl rfl) (fun _ _ _ _ h => h)) (pa_cons (pv 2) pa_nil)))
    (pss_cons (ps_if (PW.pt (pw_and (pt_cmpR (r := rNotInA K) (opA_notIn hu64) (pv 1) (pe_callTy (r := rDictT K) (call_dictT rfl) rfl B.dict (by decide +kernel) (pa_cons (pe_fld (pv 0) rfl) pa_nil)) rfl) (pw_and1 (pt_cmpR (r := rEqA K) (opA_eq hu64) (pe_callB (r := rLen K) callA_len rfl B.len (by decide +kernel) (pa_cons (pe_fld (pv 0) rfl) pa_nil)) (pe_gc W.MOST_NAMES rfl) (nomark _))))) (pss_one (ps_raise rfl (takes_of rfl rfl rfl rfl) (pmk_xc x_TooMany hr rfl (pa_cons pe_str (pa_cons (pe_op (r := rAdd K) opA_add (pe_gc W.MOST_NAMES rfl) pe_int) (pa_cons (pe_gc W.MOST_NAMES rfl) pa_nil)))))) pss_nil)
    (pss_one (ps_ret (pe_cg g_stored hr rfl (passes_call (takes_of rfl rfl rfl rfl) (fun _ _ _ _ h => h)) (pa_cons (pv 0) (pa_cons (pv 1) (pa_cons (pv 2) pa_nil)))))))))), ?_⟩
  obtain ⟨v, n, u, rfl, h⟩ := h
  rcases h with ⟨d, hd, hR⟩ | ⟨a, ns, cs, dn, rfl, hs, hn, ht, h⟩
  · exact r_seq fun _ => r_drop (rx_call (ea_cons ev_c (ea_cons (ev_var rfl) ea_nil)) fun H1 e1 Q => ⟨_, _, rfl, .inr ⟨d, Dp.ext e1 hd, hR.ext e1⟩⟩)
  obtain ⟨dx, v1, v2, h1, p1, p2⟩ := hs.parts
  refine q_drop (v := .ref a) (ev_call (ea_cons ev_c (ea_cons (ev_var rfl) ea_nil)) (sp_need_ok h1)) (fun H1 e1 => ?_)
  refine q_when (b := !nameD dn) (et_not (et_B (ev_call (ea_cons (ev_var rfl) ea_nil) (spB_v (Dp.ext e1 hn) ht)))) (fun b H2 e2 => ?_) (fun b H2 e2 => ?_)
  · have b : nameD dn = false := by simpa using b
    rcases h with ⟨_, hR⟩ | ⟨z, du, rfl, hz, _⟩
    · exact rs_2 (ea_cons ev_c (ea_cons (ev_var rfl) ea_nil)) (hR.ext (e1.trans e2))
    · rw [hz.nm] at b
      cases b
  have b : nameD dn = true := by simpa using b
  rcases h with ⟨b2, _⟩ | ⟨z, du, rfl, hz, hdu, h⟩
  · rw [b] at b2
    cases b2
  cases hn
  have e12 := e1.trans e2
  rcases h with ⟨b2, hR⟩ | ⟨i, rfl, b2, h⟩
  · exact r_seq fun _ => r_drop (rx_call (ea_cons (ev_var rfl) ea_nil) fun H3 e3 Q => ⟨_, du, rfl, Dp.ext (e12.trans e3) hdu, fun _ => hR.ext (e12.trans e3), fun z => by rw [b2] at z; cases z⟩)
  cases hdu
  refine q_drop (v := .non) (ev_call (ea_cons (ev_var rfl) ea_nil) fun H3 e3 Q q E => ⟨_, .int i, rfl, .int i, (fun z => by rw [b2] at z; cases z), fun _ H4 e4 => q H4 e4⟩) (fun H3 e3 => ?_)
  have e13 := e12.trans e3
  obtain ⟨pp, xs1, ds1, rfl, ed, hx1, hd1⟩ := id p1
  have ed := PyData.tuple.inj ed
  subst ed
  have lx : xs1.length = ns.length := by rw [dpAll_len hd1, List.length_map]
  have nd1 := hs.s.asc.nodup
  refine q_when (b := (!(ns.any fun p => decide (p.1 = .inr z))) && decide (V.int ns.length = V.int 60)) (et_and (et_is (et_test (ev_opD (ev_var rfl) (ek_d (ek_dictT (ev_fld k_State (by decide) (ev_var rfl) (e13 _ _ h1) rfl) (p1.ext e13) nd1)) (fun y H4 e4 ⟨q, hy, hq⟩ => by rw [hy]; exact rv_niDk (k := .inr z) hq))) (by rw [look_any]))
    (fun _ => et_test (ev_op (ev_is (ev_lenU (ev_fld k_State (by decide) (ev_var rfl) (e13 _ _ h1) rfl) (ex_t e13 hx1.t)) (by rw [lx])) ev_c (rv_eqs rfl)))) (fun b H4 e4 => ?_) (fun b H4 e4 => ?_)
  · simp only [Bool.and_eq_true, Bool.not_eq_true', decide_eq_true_eq, V.int.injEq] at b
    have b3 : ns.length = 60 := by have := b.2; omega
    rcases h with ⟨_, _, hR⟩ | ⟨hc, _⟩
    · exact rs_3 (ea_cons ev_c (ea_cons (ev_is (ev_op ev_c ev_c rv_add) rfl) (ea_cons ev_c ea_nil))) (hR.ext (e13.trans e4))
    · rcases hc with hc | hc
      · rw [b.1] at hc
        cases hc
      · omega
  · have hno : (ns.any fun p => decide (p.1 = .inr z)) = true ∨ ns.length < 60 := by
      cases hq : ns.any fun p => decide (p.1 = .inr z) with
      | true => exact .inl rfl
      | false =>
        rw [hq] at b
        simp only [Bool.not_false, Bool.true_and, decide_eq_false_iff_not, V.int.injEq] at b
        refine .inr ?_
        have := hs.s.len
        omega
    rcases h with ⟨b3, b4, _⟩ | ⟨_, hQ⟩
    · rcases hno with q | q
      · rw [b3] at q
        cases q
      · omega
    · have e14 := e13.trans e4
      refine isS (evd_call (ea_cons (ev_var rfl) (ea_cons (ev_var rfl) (ea_cons (ev_var rfl) ea_nil))) (fun H5 e5 Q q E => ⟨a, z, i, ns, cs, rfl, hs.ext (e14.trans e5), hz, value_of_ok b2, ?_, fun a' H6 e6 hst => q _ _ e6 ⟨a', rfl, hst⟩⟩)) e14 hQ
      unfold putR
      split
      · rw [List.length_map]
        exact hs.s.len
      · rename_i q
        rcases hno with q2 | q2
        · exact absurd q2 q
        · rw [List.length_append]
          simp
          omega
end
end Kb
set_option Elab.async false
set_option linter.all false
set_option maxRecDepth 100000
set_option maxHeartbeats 4000000
namespace Kb
open PySem PySem.Spec PyProof.Rows L2 L2.DX Evl SrtO Srt
section
variable {P : Program} {w : World} {K : PySem.W.Frag} {mg : Str → Option Value} {base : Heap} {H : Hp} {v : V} {d : PyData} {σ : L2.St} {te tl : TE} {C BR BN TM UN : Addr} {ns cs rs : List (Key × Int)}
theorem ev_lenK {p : Addr} {kvs : List (Key × V)} (ha : Ev te σ H (.ref p)) (h : H p = some (.dK kvs)) : Ev (tCB (rLen K) (tCons te tNil)) σ H (.int kvs.length) := fun H1 e Q q =>
  ha H1 e _ fun H2 e2 => .inr (.inr ⟨p, kvs, rfl, (e.trans e2) _ _ h, q H2 e2⟩)
theorem row_at {x : V} {r : Key × Int} (h : Dp K H x (rowD r)) : ∃ q, x = .ref q ∧ SqT K H q [kV r.1, .int r.2] := by
  obtain ⟨k, i⟩ := r
  cases h with
  | @tup q ys _ h1 h2 =>
    cases h2 with
    | cons a1 h2 =>
      cases h2 with
      | cons a2 h2 =>
        cases h2
        cases a2
        rw [dp_kD a1] at h1
        exact ⟨q, rfl, h1⟩
theorem given_rows {xs : List V} {f : Key × Int → Bool} (hd : DpAll K H xs (rs.map rowD)) : ∀ i, i ≤ rs.length → DpAll K H (given i (fun i => f (rs.getD i (.inl 0, 0))) (fun i => xs.getD i .non)) (((rs.take i).filter f).map rowD)
  | 0, _ => by
    rw [List.take_zero]
    exact .nil
  | i + 1, hi => by
    have ih := given_rows (f := f) hd i (by omega)
    have hr : rs[i]? = some rs[i] := List.getElem?_eq_getElem (by omega)
    have hl := dpAll_len hd
    rw [List.length_map] at hl
    have hx : xs[i]? = some xs[i] := List.getElem?_eq_getElem (by omega)
    obtain ⟨d, h1, h2⟩ := dpAll_get hd hx
    rw [List.getElem?_map, hr] at h1
    cases h1
    rw [List.take_succ, hr, Option.toList_some, List.filter_append, List.map_append]
    have e1 : rs.getD i (.inl 0, 0) = rs[i] := getD_some hr
    cases hf : f rs[i] with
    | true =>
      rw [given_yes (by show f (rs.getD i (.inl 0, 0)) = true; rw [e1]; exact hf)]
      refine dpAll_app ih ?_
      rw [List.filter_cons_of_pos hf, getD_some hx]
      exact .cons h2 .nil
    | false =>
      rw [given_no (by show f (rs.getD i (.inl 0, 0)) = false; rw [e1]; exact hf), List.filter_cons_of_neg (by rw [hf]; decide)]
      simpa using ih
/-- [row for row in t if ..], t a tuple of rows -/
theorem eld_flt {v : V} {tt : TT} {ws : List Nat} {j : Nat} (f : Key × Int → Bool) (h : Ev tl σ H v) (hp : Pd K H v (rowsD rs)) (hz : rs.length ≤ 40000) (hw : ∀ x, wipe ((wipe σ ws).set j (some x)) ws = wipe σ ws) (hj : ∀ x : V, ((wipe σ ws).set j (some x))[j]? = some (some x))
    (ht : ∀ (q : Addr) (r : Key × Int) H1, Ex H H1 → r ∈ rs → SqT K H1 q [kV r.1, .int r.2] → EvT tt ((wipe σ ws).set j (some (.ref q))) H1 (f r)) : EvLD K (tLc (iSeq K tl) (gName j) tt (tVar j) ws) σ H ((rs.filter f).map rowD) := by
  obtain ⟨p, xs, ds, rfl, ed, hx, hd⟩ := hp
  obtain rfl := PyData.tuple.inj ed
  have hl := dpAll_len hd
  rw [List.length_map] at hl
  have key : EvL (tLc (iSeq K tl) (gName j) tt (tVar j) ws) σ H (given xs.length (fun i => f (rs.getD i (.inl 0, 0))) (fun i => xs.getD i .non)) := by
    refine el_lcT (fun i => (wipe σ ws).set j (some (xs.getD i .non))) _ _ h hx.t (by omega) (fun i _ => hw _) (fun i x H1 e hi k q => ?_) (fun i x H1 e hi => ?_) (fun i x H1 e hi _ => ?_)
    · rw [getD_some hi] at q
      exact q
    · obtain ⟨d, h1, h2⟩ := dpAll_get hd hi
      rw [List.getElem?_map] at h1
      cases hr : rs[i]? with
      | none =>
        rw [hr] at h1
        cases h1
      | some r =>
        rw [hr] at h1
        cases h1
        obtain ⟨q, rfl, hq⟩ := row_at (Dp.ext e h2)
        rw [getD_some hi, getD_some hr]
        exact ht q r H1 e (List.mem_of_getElem? hr) hq
    · exact ev_var (hj _)
  have hg := given_rows (f := f) hd rs.length (Nat.le_refl _)
  rw [List.take_length, ← hl] at hg
  exact fun H1 e Q q => key H1 e _ fun l H2 hn e2 h2 => q l _ H2 hn e2 h2 (DpAll.ext (e.trans e2) hg)
def spWithCell (K : PySem.W.Frag) (C BR BN TM : Addr) : Sp := fun vs H Q E => ∃ v t u, vs = [v, t, u] ∧ ((∃ d, Dp K H v d ∧ Rs E H BR [("row", v), ("what", .str "state")]) ∨
  ∃ a ns cs dt, v = .ref a ∧ StG K H C a ns cs ∧ Dp K H t dt ∧ ((addrD dt = false ∧ Rs E H BN [("number", t), ("what", .str "address")]) ∨
    ∃ x du, dt = .int x ∧ addrD dt = true ∧ Dp K H u du ∧ ((valueD du = false ∧ Rs E H BN [("number", u), ("what", .str "value")]) ∨
      ∃ i, du = .int i ∧ valueD du = true ∧ ((40 < (putR cs (.inl x) i).length ∧ Rs E H TM [("limit", .int 40), ("many", .int (putR cs (.inl x) i).length), ("what", .str "cells")]) ∨
        ((putR cs (.inl x) i).length ≤ 40 ∧ GivesS K C Q H ns (srtR (putR cs (.inl x) i)))))))
theorem ok_with_cell (B : Bi mg) (W : WS K mg) (k_State : Kl K mg "State" C SF) (m_State : Mkr P w K mg base (L2.CX P w) 5 "State" C ["self", "store", "heap"] (spSInit K C BR)) (g_need_state : Gv P w K mg base (L2.CX P w) 3 "need_state" ["what", "value"] (spNeed K C BR)) (g_need_address : Gv P w K mg base (L2.CX P w) 3 "need_address" ["address"] (spNeedA K BN))
    (g_need_value : Gv P w K mg base (L2.CX P w) 4 "need_value" ["value"] (spNeedV K BN)) (x_TooMany : XC P w K mg base "TooMany" TM ["self", "what", "many", "limit"] (spI3 TM "what" "many" "limit")) (D : Df K mg "with_cell" s_with_cell ["state", "address", "value"]) :
    Gv P w K mg base (L2.CX P w) 7 "with_cell" ["state", "address", "value"] (spWithCell K C BR BN TM) := by
  have nd := sc_with_cell.nd
  refine D.gvX sc_with_cell (fun vs H Q E h => ?_) (fun f cdv A outer s H vs Q E hr h => ?_)
  · obtain ⟨v, t, u, rfl, _⟩ := h
    rfl
  have hu := Nat.lt_of_le_of_lt (Nat.add_le_add_left (show 1 ≤ 64 by decide) _) (hu64_of hr)
  refine ⟨_, (pss_cons (ps_expr (pe_cg g_need_state hr rfl (passes_call (takes_of rfl rfl rfl rfl) (fun _ _ _ _ h => h)) (pa_cons pe_str (pa_cons (pv 0) pa_nil))))
    (pss_cons (ps_expr (pe_cg g_need_address hr rfl (passes_call (takes_of rfl rfl rfl rfl) (fun _ _ _ _ h => h)) (pa_cons (pv 1) pa_nil)))
    (pss_cons (ps_expr (pe_cg g_need_value hr rfl (passes_call (takes_of rfl rfl rfl rfl) (fun _ _ _ _ h => h)) (pa_cons (pv 2) pa_nil)))
    (pss_cons (ps_set (i := 3) nd rfl (.inl rfl) (pe_callTy (r := rDictT K) (call_dictT rfl) rfl B.dict (by decide +kernel) (pa_cons (pe_fld (pv 0) rfl) pa_nil)))
    (pss_cons (ps_dput hu (pv 3) (pv 1) (pv 2) rfl)
    (pss_cons (ps_if (pt_cmpR op_gt (pe_callB (r := rLen K) callA_len rfl B.len (by decide +kernel) (pa_cons (pv 3) pa_nil)) (pe_gc W.MOST_CELLS rfl) (nomark _)) (pss_one (ps_raise rfl (takes_of rfl rfl rfl rfl) (pmk_xc x_TooMany hr rfl (pa_cons pe_str (pa_cons (pe_callB (r := rLen K) callA_len rfl B.len (by decide +kernel) (pa_cons (pv 3) pa_nil)) (pa_cons (pe_gc W.MOST_CELLS rfl) pa_nil)))))) pss_nil)
    (pss_one (ps_ret (pe_mk m_State hr rfl (passes_call (takes_of rfl rfl rfl rfl) (fun _ _ _ _ h => h)) (pa_cons (pe_fld (pv 0) rfl) (pa_cons (pe_callB (r := rSortB K) (callB_sorted rfl) rfl B.sorted (by decide +kernel) (pa_cons (pe_bmZ (K := K) rfl PySem.F.plainAttrs_dict PySem.F.slot_dict_items PySem.F.type_dict_items mt_itemsK (pv 3)) pa_nil)) pa_nil))))))))))), ?_⟩
  obtain ⟨v, t, u, rfl, h⟩ := h
  rcases h with ⟨d, hd, hR⟩ | ⟨a, ns, cs, dt, rfl, hs, ht, h⟩
  · exact r_seq fun _ => r_drop (rx_call (ea_cons ev_c (ea_cons (ev_var rfl) ea_nil)) fun H1 e1 Q => ⟨_, _, rfl, .inr ⟨d, Dp.ext e1 hd, hR.ext e1⟩⟩)
  obtain ⟨dx, v1, v2, h1, p1, p2⟩ := hs.parts
  refine q_drop (v := .ref a) (ev_call (ea_cons ev_c (ea_cons (ev_var rfl) ea_nil)) (sp_need_ok h1)) (fun H1 e1 => ?_)
  rcases h with ⟨b, hR⟩ | ⟨x, du, rfl, b, hdu, h⟩
  · exact r_seq fun _ => r_drop (rx_call (ea_cons (ev_var rfl) ea_nil) fun H2 e2 Q => ⟨_, dt, rfl, Dp.ext (e1.trans e2) ht, fun _ => hR.ext (e1.trans e2), fun z => by rw [b] at z; cases z⟩)
  cases ht
  refine q_drop (v := .non) (ev_call (ea_cons (ev_var rfl) ea_nil) fun H2 e2 Q q E => ⟨_, .int x, rfl, .int x, (fun z => by rw [b] at z; cases z), fun _ H3 e3 => q H3 e3⟩) (fun H2 e2 => ?_)
  have e12 := e1.trans e2
  rcases h with ⟨b2, hR⟩ | ⟨i, rfl, b2, h⟩
  · exact r_seq fun _ => r_drop (rx_call (ea_cons (ev_var rfl) ea_nil) fun H3 e3 Q => ⟨_, du, rfl, Dp.ext (e12.trans e3) hdu, fun _ => hR.ext (e12.trans e3), fun z => by rw [b2] at z; cases z⟩)
  cases hdu
  refine q_drop (v := .non) (ev_call (ea_cons (ev_var rfl) ea_nil) fun H3 e3 Q q E => ⟨_, .int i, rfl, .int i, (fun z => by rw [b2] at z; cases z), fun _ H4 e4 => q H4 e4⟩) (fun H3 e3 => ?_)
  have e13 := e12.trans e3
  have nd2 := hs.h.asc.nodup
  refine qk_asg (ek_dictT (ev_fld k_State (by decide) (ev_var rfl) (e13 _ _ h1) rfl) (p2.ext e13) nd2) (fun p H4 hp e4 hd => ?_)
  refine q_dput (k := .inl x) (v := .int i) (ev_var rfl) (ev_var rfl) (ev_var rfl) hd (by rw [List.length_map]; have := hs.h.len; omega) (fun H5 e5 => ?_)
  have hp0 : H p = none := fresh_back e13 hp
  have x5 : Ex H (upd H5 p (.dK (putK (cs.map kvI) (.inl x) (.int i)))) := ((e13.trans e4).trans e5).mut hp0
  have hp5 : upd H5 p (.dK (putK (cs.map kvI) (.inl x) (.int i))) p = some (.dK ((putR cs (.inl x) i).map kvI)) := by rw [upd_same, putR_kvI]
  revert x5 hp5
  generalize upd H5 p (.dK (putK (cs.map kvI) (.inl x) (.int i))) = G
  intro x5 hp5
  refine q_when (b := decide (((putR cs (.inl x) i).length : Int) > 40)) (et_test (ev_is (ev_op (ev_is (ev_lenK (ev_var rfl) hp5) (by rw [List.length_map])) ev_c rv_I0) rfl)) (fun b3 H6 e6 => ?_) (fun b3 H6 e6 => ?_)
  · have b3 := of_decide_eq_true b3
    rcases h with ⟨_, hR⟩ | ⟨hc, _⟩
    · exact rs_3 (ea_cons ev_c (ea_cons (ev_is (ev_lenK (ev_var rfl) (e6 _ _ hp5)) (by rw [List.length_map])) (ea_cons ev_c ea_nil))) (hR.ext (x5.trans e6))
    · omega
  · have b3 := of_decide_eq_false b3
    rcases h with ⟨hc, _⟩ | ⟨hl, hQ⟩
    · omega
    · exact isS (evd_mkG hs.s (hs.h.put (addr_of_ok b) (value_of_ok b2) hl) (rad_ev (ev_fld k_State (by decide) (ev_var rfl) ((x5.trans e6) _ _ h1) rfl) (p1.ext (x5.trans e6))) (rad_l (eld_sortIt (ev_var rfl) (e6 _ _ hp5) (put_one nd2 hs.h.one rfl)))) (x5.trans e6) hQ
def spWithoutCell (K : PySem.W.Frag) (C BR BN UN : Addr) : Sp := fun vs H Q E => ∃ v t, vs = [v, t] ∧ ((∃ d, Dp K H v d ∧ Rs E H BR [("row", v), ("what", .str "state")]) ∨
  ∃ a ns cs dt, v = .ref a ∧ StG K H C a ns cs ∧ Dp K H t dt ∧ ((addrD dt = false ∧ Rs E H BN [("number", t), ("what", .str "address")]) ∨
    ∃ x, dt = .int x ∧ addrD dt = true ∧ (((cs.any fun p => decide (p.1 = .inl x)) = false ∧ Rs E H UN [("what", .str "address")]) ∨ ((cs.any fun p => decide (p.1 = .inl x)) = true ∧ GivesS K C Q H ns (othR cs (.inl x))))))
theorem ok_without_cell (B : Bi mg) (k_State : Kl K mg "State" C SF) (m_State : Mkr P w K mg base (L2.CX P w) 5 "State" C ["self", "store", "heap"] (spSInit K C BR)) (g_need_state : Gv P w K mg base (L2.CX P w) 3 "need_state" ["what", "value"] (spNeed K C BR)) (g_need_address : Gv P w K mg base (L2.CX P w) 3 "need_address" ["address"] (spNeedA K BN))
    (x_Unlike : XC P w K mg base "Unlike" UN ["self", "what"] (spI1 UN "what")) (D : Df K mg "without_cell" s_without_cell ["state", "address"]) :
    Gv P w K mg base (L2.CX P w) 7 "without_cell" ["state", "address"] (spWithoutCell K C BR BN UN) := by
  have nd := sc_without_cell.nd
  refine D.gvX sc_without_cell (fun vs H Q E h => ?_) (fun f cdv A outer s H vs Q E hr h => ?_)
  · obtain ⟨v, t, rfl, _⟩ := h
    rfl
  have hu64 := hu64_of hr
  refine ⟨_, (pss_cons (ps_expr (pe_cg g_need_state hr rfl (passes_call (takes_of rfl rfl rfl rfl) (fun _ _ _ _ h => h)) (pa_cons pe_str (pa_cons (pv 0) pa_nil))))
    (pss_cons (ps_expr (pe_cg g_need_address hr rfl (passes_call (takes_of rfl rfl rfl rfl) (fun _ _ _ _ h => h)) (pa_cons (pv 1) pa_nil)))
    (pss_cons (ps_if (pt_cmpR (r := rNotInA K) (opA_notIn hu64) (pv 1) (pe_callTy (r := rDictT K) (call_dictT rfl) rfl B.dict (by decide +kernel) (pa_cons (pe_fld (pv 0) rfl) pa_nil)) rfl) (pss_one (ps_raise rfl (takes_of rfl rfl rfl rfl) (pmk_xc x_Unlike hr rfl (pa_cons pe_str pa_nil)))) pss_nil)
    (pss_one (ps_ret (pe_mk m_State hr rfl (passes_call (takes_of rfl rfl rfl rfl) (fun _ _ _ _ h => h)) (pa_cons (pe_fld (pv 0) rfl) (pa_cons (pe_lc (own := [("row", 2)]) rfl nd (piA_seq (pe_fld (pv 0) rfl)) (blk_ok (by kernel_rfl)) (fun _ _ _ _ _ => (pg_name (i := 2) nd rfl (.inl rfl))) (fun _ _ _ _ _ => (pts_one (pt_cmpR (r := rNeA K) (opA_ne hu64) (pe_ix (r := rIx K) ix_seq (pv 2) pe_int (fun _ _ => rfl)) (pv 1) (nomark _)))) (fun _ _ _ _ _ => (pv 2))) pa_nil)))))))), ?_⟩
  obtain ⟨v, t, rfl, h⟩ := h
  rcases h with ⟨d, hd, hR⟩ | ⟨a, ns, cs, dt, rfl, hs, ht, h⟩
  · exact r_seq fun _ => r_drop (rx_call (ea_cons ev_c (ea_cons (ev_var rfl) ea_nil)) fun H1 e1 Q => ⟨_, _, rfl, .inr ⟨d, Dp.ext e1 hd, hR.ext e1⟩⟩)
  obtain ⟨dx, v1, v2, h1, p1, p2⟩ := hs.parts
  refine q_drop (v := .ref a) (ev_call (ea_cons ev_c (ea_cons (ev_var rfl) ea_nil)) (sp_need_ok h1)) (fun H1 e1 => ?_)
  rcases h with ⟨b, hR⟩ | ⟨x, rfl, b, h⟩
  · exact r_seq fun _ => r_drop (rx_call (ea_cons (ev_var rfl) ea_nil) fun H2 e2 Q => ⟨_, dt, rfl, Dp.ext (e1.trans e2) ht, fun _ => hR.ext (e1.trans e2), fun z => by rw [b] at z; cases z⟩)
  cases ht
  refine q_drop (v := .non) (ev_call (ea_cons (ev_var rfl) ea_nil) fun H2 e2 Q q E => ⟨_, .int x, rfl, .int x, (fun z => by rw [b] at z; cases z), fun _ H3 e3 => q H3 e3⟩) (fun H2 e2 => ?_)
  have e12 := e1.trans e2
  have nd2 := hs.h.asc.nodup
  refine q_when (b := !(cs.any fun p => decide (p.1 = .inl x))) (et_is (et_test (ev_opD (ev_var rfl) (ek_d (ek_dictT (ev_fld k_State (by decide) (ev_var rfl) (e12 _ _ h1) rfl) (p2.ext e12) nd2)) (fun y H4 e4 ⟨q, hy, hq⟩ => by rw [hy]; exact rv_niDk (k := .inl x) hq))) (by rw [look_any])) (fun b3 H3 e3 => ?_) (fun b3 H3 e3 => ?_)
  · have b3 : (cs.any fun p => decide (p.1 = .inl x)) = false := by simpa using b3
    rcases h with ⟨_, hR⟩ | ⟨hc, _⟩
    · exact rs_1 (ea_cons ev_c ea_nil) (hR.ext (e12.trans e3))
    · rw [b3] at hc
      cases hc
  · have b3 : (cs.any fun p => decide (p.1 = .inl x)) = true := by simpa using b3
    rcases h with ⟨hc, _⟩ | ⟨_, hQ⟩
    · rw [b3] at hc
      cases hc
    have e13 := e12.trans e3
    refine isS (evd_mkG hs.s (hs.h.sub List.filter_sublist) (rad_ev (ev_fld k_State (by decide) (ev_var rfl) (e13 _ _ h1) rfl) (p1.ext e13)) (rad_l (eld_flt (fun p => !decide (p.1 = .inl x)) (ev_fld k_State (by decide) (ev_var rfl) (e13 _ _ h1) rfl) (p2.ext e13) (by have := hs.h.len; omega) (fun _ => rfl) (fun _ => rfl) (fun q r H4 e4 hr4 hq => ?_)))) e13 hQ
    obtain ⟨y, ey, _⟩ := hs.h.ad r hr4
    obtain ⟨k, i⟩ := r
    have ey : k = .inl y := ey
    subst ey
    refine et_test (ev_is (ev_op (ev_op (ev_var rfl) ev_c (rv_iT hq (atI_nat (j := 0) rfl))) (ev_var rfl) (rv_nes rfl)) ?_)
    show V.bl (!decide (V.int y = V.int x)) = V.bl (!decide ((Sum.inl y : Key) = .inl x))
    simp
end
end Kb
set_option Elab.async false
set_option linter.all false
set_option maxRecDepth 100000
set_option maxHeartbeats 4000000
namespace Kb
open PySem PySem.Spec PyProof.Rows L2 L2.DX Evl SrtO Srt
section
variable {P : Program} {w : World} {K : PySem.W.Frag} {mg : Str → Option Value} {base : Heap} {H : Hp} {v : V} {d : PyData} {σ : L2.St} {te tl ta tb : TE} {C BR BN TM UN : Addr} {ns cs rs : List (Key × Int)}
/-- rising of a tuple -/
def spRisingT (K : PySem.W.Frag) : Sp := fun vs H Q _ => ∃ (p : Addr) (xs : List V), vs = [.ref p] ∧ SqT K H p xs ∧ xs.length ≤ 40000 ∧ ltKind xs ∧ ∀ H', Ex H H' → Q (.bl (risV xs)) H'
theorem ok_risingT (B : Bi mg) (D : Df K mg "rising" s_rising ["value"]) : Gv P w K mg base CX0 1 "rising" ["value"] (spRisingT K) := by
  have nd := sc_rising.nd
  refine D.gv sc_rising (fun vs H Q E h => ?_) (fun f cdv A outer s H vs Q E hr h => ⟨_, (pss_one (ps_ret (pe_callB (r := rAll K) (cr_all rfl) rfl B.all (by decide +kernel) (pa_cons (pe_lc (own := [("at", 1)]) rfl nd (pi_range1 rfl B.range (pa_cons (pe_op op_sub (pe_callB (r := rLen K) callA_len rfl B.len (by decide +kernel) (pa_cons (pv 0) pa_nil)) pe_int) pa_nil)) (blk_ok (by kernel_rfl)) (fun _ _ _ _ _ => (pg_name (i := 1) nd rfl (.inl rfl))) (fun _ _ _ _ _ => pts_nil) (fun _ _ _ _ _ => (pe_cmpR opA_lt (pe_ix (r := rIx K) ix_seq (pv 0) (pv 1) (fun _ _ => rfl)) (pe_ix (r := rIx K) ix_seq (pv 0) (pe_op (r := rAdd K) opA_add (pv 1) pe_int) (fun _ _ => rfl)) (nomark _)))) pa_nil)))), ?_⟩)
  · obtain ⟨v, d, rfl, _⟩ := h
    rfl
  obtain ⟨p, xs, rfl, hx, hl, hk, hQ⟩ := h
  refine s_ret (ev_allN (el_is (el_lcR (n := (xs.length : Int) - 1) (fun _ => true) (fun i => .bl (ltV (xs.getD i .non) (xs.getD (i + 1) .non))) (ea_cons (ev_op (ev_lenU (ev_var rfl) hx) ev_c rv_I0) ea_nil) (by omega) (fun _ => rfl) (fun i H1 e hi H2 e2 Q q => q H2 (Ex.refl H2)) (fun i H1 e hi _ => ?_) (by omega)) (given_bl _))) (fun H1 e1 => hQ H1 e1)
  have e2 : ((i : Int) + 1) = ((i + 1 : Nat) : Int) := by omega
  have h1 : i < xs.length := by omega
  have h2 : i + 1 < xs.length := by omega
  have m1 := getD_mem h1
  have m2 := getD_mem h2
  refine ev_op (ev_op (ev_var rfl) (ev_var rfl) (rv_iT (ex_t e hx) (getD_at h1))) (ev_op (ev_var rfl) (ev_op (ev_var rfl) ev_c rv_add) (rv_iT (ex_t e hx) (by rw [e2]; exact getD_at h2))) (rv_ltV ?_)
  rcases hk with hk | hk
  · obtain ⟨a, ha⟩ := hk _ m1
    obtain ⟨b, hb⟩ := hk _ m2
    exact .inl ⟨a, b, ha, hb⟩
  · obtain ⟨a, ha⟩ := hk _ m1
    obtain ⟨b, hb⟩ := hk _ m2
    exact .inr ⟨a, b, ha, hb⟩
/-- a, b = x, y stored each by its name -/
theorem qd_asg2 {Φ Ψ : V → Hp → Prop} {i j : Nat} {tz : TS} {D : Ends} (ha : EvD ta σ H Φ) (hb : ∀ H1, Ex H H1 → EvD tb σ H1 Ψ) (hm : ∀ x H1 H2, Ex H1 H2 → Φ x H1 → Φ x H2) (hn : ∀ x H1 H2, Ex H1 H2 → Ψ x H1 → Ψ x H2)
    (k : ∀ x y H1, Ex H H1 → Φ x H1 → Ψ y H1 → tz D ((σ.set i (some x)).set j (some y)) H1) : tSeq (tAsg (tTup (tCons ta (tCons tb tNil))) (gTup K 2 (gCons (gName i) (gCons (gName j) gNil)))) tz D σ H :=
  ha H (Ex.refl H) _ fun x H1 e1 hx => hb H1 e1 H1 (Ex.refl H1) _ fun y H2 e2 hy => ⟨sz_of (show 2 ≤ 100000 by decide), fun t ht => ⟨t, [x, y], rfl, st_of upd_same, rfl, x, [y], rfl, y, [], rfl, rfl, k x y _ ((e1.trans e2).trans (Ex.new ht)) (hm _ _ _ (e2.trans (Ex.new ht)) hx) (hn _ _ _ (Ex.new ht) hy)⟩⟩
/-- an int among the keys -/
def inC (cs : List (Key × Int)) : PyData → Bool
  | .int x => cs.any fun p => decide (p.1 = .inl x)
  | _ => false
def spPartBy (K : PySem.W.Frag) (C : Addr) : Sp := fun vs H Q _ => ∃ (a t : Addr) (ns cs : List (Key × Int)) (as : List Int), vs = [.ref a, .ref t] ∧ StG K H C a ns cs ∧ SqT K H t (as.map V.int) ∧ GivesS K C Q H ns (cs.filter fun p => as.any fun x => decide (p.1 = .inl x))
theorem any_int (as : List Int) (y : Int) : (as.any fun x => decide ((Sum.inl y : Key) = .inl x)) = decide (y ∈ as) := by
  rw [Bool.eq_iff_iff, List.any_eq_true, decide_eq_true_iff]
  constructor
  · rintro ⟨x, hx, e⟩
    have e := Sum.inl.inj (of_decide_eq_true e)
    rw [e]
    exact hx
  · intro h
    exact ⟨y, h, decide_eq_true rfl⟩
theorem ok_part_by (B : Bi mg) (k_State : Kl K mg "State" C SF) (m_State : Mkr P w K mg base (L2.CX P w) 5 "State" C ["self", "store", "heap"] (spSInit K C BR)) (D : Df K mg "part_by" s_part_by ["state", "addresses"]) :
    Gv P w K mg base (L2.CX P w) 7 "part_by" ["state", "addresses"] (spPartBy K C) := by
  have nd := sc_part_by.nd
  refine D.gvX sc_part_by (fun vs H Q E h => ?_) (fun f cdv A outer s H vs Q E hr h => ?_)
  · obtain ⟨a, t, ns, cs, as, rfl, _⟩ := h
    rfl
  have hu64 := hu64_of hr
  refine ⟨_, (pss_one (ps_ret (pe_mk m_State hr rfl (passes_call (takes_of rfl rfl rfl rfl) (fun _ _ _ _ h => h)) (pa_cons (pe_fld (pv 0) rfl) (pa_cons (pe_lc (own := [("row", 2)]) rfl nd (piA_seq (pe_fld (pv 0) rfl)) (blk_ok (by kernel_rfl)) (fun _ _ _ _ _ => (pg_name (i := 2) nd rfl (.inl rfl))) (fun _ _ _ _ _ => (pts_one (pt_cmpR (r := rInA K) (opA_in hu64) (pe_ix (r := rIx K) ix_seq (pv 2) pe_int (fun _ _ => rfl)) (pv 1) rfl))) (fun _ _ _ _ _ => (pv 2))) pa_nil))))), ?_⟩
  obtain ⟨a, t, ns, cs, as, rfl, hs, ht, hQ⟩ := h
  obtain ⟨dx, v1, v2, h1, p1, p2⟩ := hs.parts
  refine isS (evd_mkG hs.s (hs.h.sub List.filter_sublist) (rad_ev (ev_fld k_State (by decide) (ev_var rfl) h1 rfl) p1) (rad_l (eld_flt (fun p => as.any fun x => decide (p.1 = .inl x)) (ev_fld k_State (by decide) (ev_var rfl) h1 rfl) p2 (by have := hs.h.len; omega) (fun _ => rfl) (fun _ => rfl) (fun q r H4 e4 hr4 hq => ?_)))) (Ex.refl H) hQ
  obtain ⟨y, ey, _⟩ := hs.h.ad r hr4
  obtain ⟨k, i⟩ := r
  have ey : k = .inl y := ey
  subst ey
  refine et_test (ev_is (ev_op (ev_op (ev_var rfl) ev_c (rv_iT hq (atI_nat (j := 0) rfl))) (ev_var rfl) (rv_inA (ex_t e4 ht) rfl (flat_ints _))) ?_)
  show V.bl (inV (.int y) (as.map V.int)) = _
  rw [inV_int, any_int]
def spHeapPart (K : PySem.W.Frag) (C BR : Addr) : Sp := fun vs H Q E => ∃ v u, vs = [v, u] ∧ ((∃ d, Dp K H v d ∧ Rs E H BR [("row", v), ("what", .str "state")]) ∨
  ∃ a ns cs du, v = .ref a ∧ StG K H C a ns cs ∧ Dp K H u du ∧ (((tupD (asTup du) = none ∨ ∃ ds, asTup du = .tuple ds ∧ ds.length ≤ 40000 ∧ ds.all (fun d => addrD d && inC cs d) = false) ∧ Rs E H BR [("row", u), ("what", .str "addresses")]) ∨
    ∃ as : List Int, asTup du = .tuple (as.map PyData.int) ∧ as.length ≤ 40000 ∧ (∀ x ∈ as, addrD (.int x) = true ∧ inC cs (.int x) = true) ∧ as.Pairwise (· < ·) ∧ GivesS K C Q H ns (cs.filter fun p => as.any fun x => decide (p.1 = .inl x))))
theorem ris_ints {as : List Int} (h : as.Pairwise (· < ·)) : risV (as.map V.int) = true := risV_of (List.pairwise_map.mpr (h.imp fun {a b} z => decide_eq_true z))
theorem addrD_i {d : PyData} (h : addrD d = true) : ∃ x, d = .int x := by cases d <;> first | exact ⟨_, rfl⟩ | cases h
theorem dp_ints : ∀ {as : List Int} {xs : List V}, DpAll K H xs (as.map PyData.int) → xs = as.map V.int
  | [], _, h => by
    cases h
    rfl
  | a :: as, _, h => by
    cases h with
    | cons a1 h =>
      cases a1
      rw [dp_ints h]
      rfl
theorem ok_heap_part (B : Bi mg) (k_State : Kl K mg "State" C SF) (g_need_state : Gv P w K mg base (L2.CX P w) 3 "need_state" ["what", "value"] (spNeed K C BR)) (g_is_address : Gv P w K mg base CX0 2 "is_address" ["value"] (spB K noC addrD)) (g_rising : Gv P w K mg base CX0 1 "rising" ["value"] (spRisingT K))
    (g_part_by : Gv P w K mg base (L2.CX P w) 7 "part_by" ["state", "addresses"] (spPartBy K C)) (x_BadRow : XC P w K mg base "BadRow" BR ["self", "what", "row"] (spI2 BR "what" "row")) (D : Df K mg "heap_part" s_heap_part ["state", "addresses"]) :
    Gv P w K mg base (L2.CX P w) 8 "heap_part" ["state", "addresses"] (spHeapPart K C BR) := by
  have nd := sc_heap_part.nd
  refine D.gvX sc_heap_part (fun vs H Q E h => ?_) (fun f cdv A outer s H vs Q E hr h => ?_)
  · obtain ⟨v, t, rfl, _⟩ := h
    rfl
  have hu64 := hu64_of hr
  refine ⟨_, (pss_cons (ps_expr (pe_cg g_need_state hr rfl (passes_call (takes_of rfl rfl rfl rfl) (fun _ _ _ _ h => h)) (pa_cons pe_str (pa_cons (pv 0) pa_nil))))
    (pss_cons (ps_asg (pe_tup (pa_cons (pe_ifExp (pt_val (pe_callB (id := "isinstance") (r := rIsi K) call_isi rfl B.isi (by decide +kernel) (pa_cons (pv 1) (pa_cons (pe_bltn (v := .ty "list") rfl B.list (by decide +kernel) rfl) pa_nil)))) (pe_callTy (r := rTupP K) call_tupleP rfl B.tuple (by decide +kernel) (pa_cons (pv 1) pa_nil)) (pv 1)) (pa_cons (pe_callTy (r := rDictT K) (call_dictT rfl) rfl B.dict (by decide +kernel) (pa_cons (pe_fld (pv 0) rfl) pa_nil)) pa_nil))) (pgK_tup (K := K) (n := 2) rfl rfl (pgs_cons (pg_name (i := 2) nd rfl (.inl rfl)) (pgs_cons (pg_name (i := 3) nd rfl (.inr rfl)) pgs_nil))))
    (pss_cons (ps_if (PW.pt (pw_or (pt_not (pt_val (pe_callB (id := "isinstance") (r := rIsi K) call_isi rfl B.isi (by decide +kernel) (pa_cons (pv 2) (pa_cons (pe_bltn (v := .ty "tuple") rfl B.tuple (by decide +kernel) rfl) pa_nil))))) (pw_or (pt_not (pt_val (pe_callB (r := rAll K) (cr_all rfl) rfl B.all (by decide +kernel) (pa_cons (pe_lc (own := [("one", 4)]) rfl nd (piA_seq (pv 2)) (blk_ok (by kernel_rfl)) (fun _ _ _ _ _ => (pg_name (i := 4) nd rfl (.inl rfl))) (fun _ _ _ _ _ => pts_nil) (fun _ _ _ _ _ => (by exact (pe_and (pe_cg g_is_address hr rfl pass0 (pa_cons (pv 4) pa_nil)) (pe_one (pe_cmpR (r := rInA K) (opA_in hu64) (pv 4) (pv 3) rfl)))))) pa_nil)))) (pw_or1 (pt_not (pt_val (pe_cg g_rising hr rfl pass0 (pa_cons (pv 2) pa_nil)))))))) (pss_one (ps_raise rfl (takes_of rfl rfl rfl rfl) (pmk_xc x_BadRow hr rfl (pa_cons pe_str (pa_cons (pv 1) pa_nil))))) pss_nil)
    (pss_one (ps_ret (pe_cg g_part_by hr rfl (passes_call (takes_of rfl rfl rfl rfl) (fun _ _ _ _ h => h)) (pa_cons (pv 0) (pa_cons (pv 2) pa_nil)))))))), ?_⟩
  obtain ⟨v, u, rfl, h⟩ := h
  rcases h with ⟨d, hd, hR⟩ | ⟨a, ns, cs, du, rfl, hs, hdu, h⟩
  · exact r_seq fun _ => r_drop (rx_call (ea_cons ev_c (ea_cons (ev_var rfl) ea_nil)) fun H1 e1 Q => ⟨_, _, rfl, .inr ⟨d, Dp.ext e1 hd, hR.ext e1⟩⟩)
  obtain ⟨dx, v1, v2, h1, p1, p2⟩ := hs.parts
  refine q_drop (v := .ref a) (ev_call (ea_cons ev_c (ea_cons (ev_var rfl) ea_nil)) (sp_need_ok h1)) (fun H1 e1 => ?_)
  have nd2 := hs.h.asc.nodup
  refine qd_asg2 (Φ := fun w H2 => Dp K H2 w (asTup du)) (Ψ := fun w H2 => ∃ p, w = .ref p ∧ H2 p = some (.dK (cs.map kvI))) ((evd_known rfl (Dp.ext e1 hdu)).imp fun w H2 e2 h => h.1) (fun H2 e2 => ek_d (ek_dictT (ev_fld k_State (by decide) (ev_var rfl) ((e1.trans e2) _ _ h1) rfl) (p2.ext (e1.trans e2)) nd2)) (fun _ _ _ e h => Dp.ext e h) (fun _ _ _ e ⟨p, hp, h⟩ => ⟨p, hp, e _ _ h⟩) (fun x y H2 e2 hk ⟨p, hy, hp⟩ => ?_)
  subst hy
  have e12 := e1.trans e2
  cases hq : tupD (asTup du) with
  | none =>
    refine q_when (b := true || false) (et_or (a := true) (b := false) (et_is (et_not (et_B (ev_isiD (ev_var rfl) hk (kit_tuple _)))) (by rw [isB_tup, hq]; rfl)) (fun z => nomatch z)) (fun _ H3 e3 => ?_) (fun z => nomatch z)
    rcases h with ⟨_, hR⟩ | ⟨as, ha, _⟩
    · exact rs_2 (ea_cons ev_c (ea_cons (ev_var rfl) ea_nil)) (hR.ext (e12.trans e3))
    · rw [ha] at hq
      cases hq
  | some ds =>
    have hds : asTup du = .tuple ds := by
      revert hq
      cases asTup du <;> intro hq <;> first | (cases hq; rfl) | cases hq
    rw [hds] at hk
    cases hk with
    | @tup t xs _ hx ha =>
      have hl := dpAll_len ha
      have hz : xs.length ≤ 40000 := by
        rcases h with ⟨hw, _⟩ | ⟨as, hA, hz, _⟩
        · rcases hw with hw | ⟨ds2, hw, hz, _⟩
          · rw [hds] at hw
            cases hw
          · rw [hds] at hw
            obtain rfl := PyData.tuple.inj hw
            omega
        · rw [hds] at hA
          obtain rfl := PyData.tuple.inj hA
          rw [hl, List.length_map]
          exact hz
      rcases h with ⟨hw, hR⟩ | ⟨as, hA, _, hAs, hasc, hQ⟩
      · have hall : ds.all (fun d => addrD d && inC cs d) = false := by
          rcases hw with hw | ⟨ds2, hw, _, h⟩
          · rw [hds] at hw
            cases hw
          · rw [hds] at hw
            obtain rfl := PyData.tuple.inj hw
            exact h
        refine q_when (b := false || (true || false)) (et_or (a := false) (b := true || false) (et_is (et_not (et_B (ev_isiD (ev_var rfl) (.tup hx ha) (kit_tuple _)))) (by rw [isB_tup]; rfl)) (fun _ => et_or (a := true) (b := false) (et_is (et_not (et_B (ev_allN (el_tests (fun d => addrD d && inC cs d) (ev_var rfl) hx ha hz (fun _ => rfl) (fun _ _ => et_true fun _ _ _ q => q) (fun i v d H4 e4 hd4 hdv => ?_))))) ?_) (fun z => nomatch z))) (fun _ H3 e3 => ?_) (fun z => nomatch z)
        · refine ev_andV (ev_call (ea_cons (ev_var rfl) ea_nil) (spB_v hdv trivial)) (fun b => ?_)
          obtain ⟨x, rfl⟩ := addrD_i b
          cases hdv
          exact ev_is (ev_op (ev_var rfl) (ev_var rfl) (rv_inDk (k := .inl x) (e4 _ _ hp))) (by rw [look_any]; rfl)
        · show (!((ds.map fun d => addrD d && inC cs d).all id)) = true
          rw [List.all_map]
          show (!(ds.all fun d => addrD d && inC cs d)) = true
          rw [hall]
          rfl
        · exact rs_2 (ea_cons ev_c (ea_cons (ev_var rfl) ea_nil)) (hR.ext (e12.trans e3))
      · have hA2 := hA
        rw [hds] at hA2
        obtain rfl := PyData.tuple.inj hA2
        obtain rfl := dp_ints ha
        have hall : (as.map PyData.int).all (fun d => addrD d && inC cs d) = true := by
          rw [List.all_map, List.all_eq_true]
          intro x hx
          obtain ⟨z1, z2⟩ := hAs x hx
          show (addrD (.int x) && inC cs (.int x)) = true
          rw [z1, z2]
          rfl
        refine q_when (b := false || (false || false)) (et_or (a := false) (et_is (et_not (et_B (ev_isiD (ev_var rfl) (.tup hx ha) (kit_tuple _)))) (by rw [isB_tup]; rfl)) (fun _ => et_or (a := false) (et_is (et_not (et_B (ev_allN (el_tests (fun d => addrD d && inC cs d) (ev_var rfl) hx ha hz (fun _ => rfl) (fun _ _ => et_true fun _ _ _ q => q) (fun i v d H4 e4 hd4 hdv => ?_))))) ?_)
          (fun _ => et_is (et_not (et_B (ev_call (z := .bl true) (ea_cons (ev_var rfl) ea_nil) (fun H4 e4 Q q E => ⟨t, as.map V.int, rfl, ex_t e4 hx, hz, .inl (fun x hx => let ⟨i, _, e⟩ := List.mem_map.mp hx; ⟨i, e.symm⟩), fun H5 e5 => by rw [ris_ints hasc]; exact q H5 e5⟩)))) rfl))) (fun z => nomatch z) (fun _ H3 e3 => ?_)
        · refine ev_andV (ev_call (ea_cons (ev_var rfl) ea_nil) (spB_v hdv trivial)) (fun b => ?_)
          obtain ⟨x, rfl⟩ := addrD_i b
          cases hdv
          exact ev_is (ev_op (ev_var rfl) (ev_var rfl) (rv_inDk (k := .inl x) (e4 _ _ hp))) (by rw [look_any]; rfl)
        · show (!(((as.map PyData.int).map fun d => addrD d && inC cs d).all id)) = false
          rw [List.all_map]
          show (!((as.map PyData.int).all fun d => addrD d && inC cs d)) = false
          rw [hall]
          rfl
        · exact isS (evd_call (ea_cons (ev_var rfl) (ea_cons (ev_var rfl) ea_nil)) (fun H5 e5 Q q E => ⟨a, t, ns, cs, as, rfl, hs.ext ((e12.trans e3).trans e5), ex_t (e3.trans e5) hx, fun a' H6 e6 hst => q _ _ e6 ⟨a', rfl, hst⟩⟩)) (e12.trans e3) hQ
end
end Kb
set_option Elab.async false
set_option linter.all false
set_option maxRecDepth 100000
set_option maxHeartbeats 4000000
namespace Kb
open PySem PySem.Spec PyProof.Rows L2 L2.DX Evl SrtO Srt
section
variable {P : Program} {w : World} {K : PySem.W.Frag} {mg : Str → Option Value} {base : Heap} {H : Hp} {v : V} {d : PyData} {σ : L2.St} {te tl ta tb : TE} {C BR BN TM UN : Addr} {ns cs rs : List (Key × Int)}
theorem any_cong {α : Type} {f g : α → Bool} : ∀ {l : List α}, (∀ a ∈ l, f a = g a) → l.any f = l.any g
  | [], _ => rfl
  | a :: l, h => by
    rw [List.any_cons, List.any_cons, h a List.mem_cons_self, any_cong fun b hb => h b (List.mem_cons_of_mem _ hb)]
/-- the heaps share an address -/
def meetR (cs cs2 : List (Key × Int)) : Bool := cs2.any fun p => cs.any fun q => decide (q.1 = p.1)
theorem HG.join {cs cs2 : List (Key × Int)} (h : HG cs) (h2 : HG cs2) (hm : meetR cs cs2 = false) (hl : cs.length + cs2.length ≤ 40) : HG (srtR (cs ++ cs2)) := by
  have mem : ∀ {q}, q ∈ srtR (cs ++ cs2) → q ∈ cs ∨ q ∈ cs2 := fun {q} hq => List.mem_append.mp ((srtR_perm _).mem_iff.mp hq)
  refine ⟨fun q hq => ?_, fun q hq => ?_, srtR_ascK ?_, by rw [(srtR_perm _).length_eq, List.length_append]; exact hl⟩
  · rcases mem hq with hq | hq
    · exact h.ad q hq
    · exact h2.ad q hq
  · rcases mem hq with hq | hq
    · exact h.vl q hq
    · exact h2.vl q hq
  · rw [List.map_append, List.nodup_append]
    refine ⟨h.asc.nodup, h2.asc.nodup, fun a ha b hb e => ?_⟩
    obtain ⟨q, hq, rfl⟩ := List.mem_map.mp ha
    obtain ⟨p, hp, rfl⟩ := List.mem_map.mp hb
    have : meetR cs cs2 = true := List.any_eq_true.mpr ⟨p, hp, List.any_eq_true.mpr ⟨q, hq, decide_eq_true e⟩⟩
    rw [hm] at this
    cases this
def spJoin (K : PySem.W.Frag) (C BR TM UN : Addr) : Sp := fun vs H Q E => ∃ v u, vs = [v, u] ∧ ((∃ d, Dp K H v d ∧ Rs E H BR [("row", v), ("what", .str "one")]) ∨
  ∃ a ns cs, v = .ref a ∧ StG K H C a ns cs ∧ ((∃ d, Dp K H u d ∧ Rs E H BR [("row", u), ("what", .str "other")]) ∨
    ∃ b ns2 cs2, u = .ref b ∧ StG K H C b ns2 cs2 ∧ ((PyData.eqv (rowsD ns) (rowsD ns2) = false ∧ Rs E H UN [("what", .str "store")]) ∨
      (PyData.eqv (rowsD ns) (rowsD ns2) = true ∧ ((meetR cs cs2 = true ∧ Rs E H UN [("what", .str "heap")]) ∨
        (meetR cs cs2 = false ∧ ((40 < cs.length + cs2.length ∧ Rs E H TM [("limit", .int 40), ("many", .int ((cs.length + cs2.length : Nat) : Int)), ("what", .str "cells")]) ∨
          (cs.length + cs2.length ≤ 40 ∧ GivesS K C Q H ns (srtR (cs ++ cs2)))))))))) 
theorem ok_joined_states (B : Bi mg) (W : WS K mg) (k_State : Kl K mg "State" C SF) (m_State : Mkr P w K mg base (L2.CX P w) 5 "State" C ["self", "store", "heap"] (spSInit K C BR)) (g_need_state : Gv P w K mg base (L2.CX P w) 3 "need_state" ["what", "value"] (spNeed K C BR))
    (x_Unlike : XC P w K mg base "Unlike" UN ["self", "what"] (spI1 UN "what")) (x_TooMany : XC P w K mg base "TooMany" TM ["self", "what", "many", "limit"] (spI3 TM "what" "many" "limit")) (D : Df K mg "joined_states" s_joined_states ["one", "other"]) :
    Gv P w K mg base (L2.CX P w) 7 "joined_states" ["one", "other"] (spJoin K C BR TM UN) := by
  have nd := sc_joined_states.nd
  refine D.gvX sc_joined_states (fun vs H Q E h => ?_) (fun f cdv A outer s H vs Q E hr h => ?_)
  · obtain ⟨v, t, rfl, _⟩ := h
    rfl
  have hu64 := hu64_of hr
  refine ⟨_, (pss_cons (ps_expr (pe_cg g_need_state hr rfl (passes_call (takes_of rfl rfl rfl rfl) (fun _ _ _ _ h => h)) (pa_cons pe_str (pa_cons (pv 0) pa_nil))))
    (pss_cons (ps_expr (pe_cg g_need_state hr rfl (passes_call (takes_of rfl rfl rfl rfl) (fun _ _ _ _ h => h)) (pa_cons pe_str (pa_cons (pv 1) pa_nil))))
    (pss_cons (ps_if (pt_cmpR (r := rNeA K) (opA_ne hu64) (pe_fld (pv 0) rfl) (pe_fld (pv 1) rfl) (nomark _)) (pss_one (ps_raise rfl (takes_of rfl rfl rfl rfl) (pmk_xc x_Unlike hr rfl (pa_cons pe_str pa_nil)))) pss_nil)
    (pss_cons (ps_set (i := 2) nd rfl (.inr rfl) (pe_callTy (r := rDictT K) (call_dictT rfl) rfl B.dict (by decide +kernel) (pa_cons (pe_fld (pv 0) rfl) pa_nil)))
    (pss_cons (ps_if (pt_val (pe_callB (r := rAny K) (cr_any rfl) rfl B.any (by decide +kernel) (pa_cons (pe_lc (own := [("address", 3), ("value", 4)]) rfl nd (piA_seq (pe_fld (pv 1) rfl)) (blk_ok (by kernel_rfl)) (fun _ _ _ _ _ => (pgK_tup (K := K) (n := 2) rfl rfl (pgs_cons (pg_name (i := 3) nd rfl (.inl rfl)) (pgs_cons (pg_name (i := 4) nd rfl (.inl rfl)) pgs_nil)))) (fun _ _ _ _ _ => pts_nil) (fun _ _ _ _ _ => (pe_cmpR (r := rInA K) (opA_in hu64) (pv 3) (pv 2) rfl))) pa_nil))) (pss_one (ps_raise rfl (takes_of rfl rfl rfl rfl) (pmk_xc x_Unlike hr rfl (pa_cons pe_str pa_nil)))) pss_nil)
    (pss_cons (ps_if (pt_cmpR op_gt (pe_op (r := rAdd K) opA_add (pe_callB (r := rLen K) callA_len rfl B.len (by decide +kernel) (pa_cons (pe_fld (pv 0) rfl) pa_nil)) (pe_callB (r := rLen K) callA_len rfl B.len (by decide +kernel) (pa_cons (pe_fld (pv 1) rfl) pa_nil))) (pe_gc W.MOST_CELLS rfl) (nomark _)) (pss_one (ps_raise rfl (takes_of rfl rfl rfl rfl) (pmk_xc x_TooMany hr rfl (pa_cons pe_str (pa_cons (pe_op (r := rAdd K) opA_add (pe_callB (r := rLen K) callA_len rfl B.len (by decide +kernel) (pa_cons (pe_fld (pv 0) rfl) pa_nil)) (pe_callB (r := rLen K) callA_len rfl B.len (by decide +kernel) (pa_cons (pe_fld (pv 1) rfl) pa_nil))) (pa_cons (pe_gc W.MOST_CELLS rfl) pa_nil)))))) pss_nil)
    (pss_one (ps_ret (pe_mk m_State hr rfl (passes_call (takes_of rfl rfl rfl rfl) (fun _ _ _ _ h => h)) (pa_cons (pe_fld (pv 0) rfl) (pa_cons (pe_callB (r := rSortB K) (callB_sorted rfl) rfl B.sorted (by decide +kernel) (pa_cons (pe_op (r := rAdd K) opA_add (pe_fld (pv 0) rfl) (pe_fld (pv 1) rfl)) pa_nil)) pa_nil))))))))))), ?_⟩
  obtain ⟨v, u, rfl, h⟩ := h
  rcases h with ⟨d, hd, hR⟩ | ⟨a, ns, cs, rfl, hs, h⟩
  · exact r_seq fun _ => r_drop (rx_call (ea_cons ev_c (ea_cons (ev_var rfl) ea_nil)) fun H1 e1 Q => ⟨_, _, rfl, .inr ⟨d, Dp.ext e1 hd, hR.ext e1⟩⟩)
  obtain ⟨dx, v1, v2, h1, p1, p2⟩ := hs.parts
  refine q_drop (v := .ref a) (ev_call (ea_cons ev_c (ea_cons (ev_var rfl) ea_nil)) (sp_need_ok h1)) (fun H1 e1 => ?_)
  rcases h with ⟨d, hd, hR⟩ | ⟨b, ns2, cs2, rfl, hs2, h⟩
  · exact r_seq fun _ => r_drop (rx_call (ea_cons ev_c (ea_cons (ev_var rfl) ea_nil)) fun H2 e2 Q => ⟨_, _, rfl, .inr ⟨d, Dp.ext (e1.trans e2) hd, hR.ext (e1.trans e2)⟩⟩)
  obtain ⟨dx2, u1, u2, g1, q1, q2⟩ := hs2.parts
  refine q_drop (v := .ref b) (ev_call (ea_cons ev_c (ea_cons (ev_var rfl) ea_nil)) (sp_need_ok (e1 _ _ g1))) (fun H2 e2 => ?_)
  have e12 := e1.trans e2
  refine q_when (b := !PyData.eqv (rowsD ns) (rowsD ns2)) (et_test (ev_op (ev_fld k_State (by decide) (ev_var rfl) (e12 _ _ h1) rfl) (ev_fld k_State (by decide) (ev_var rfl) (e12 _ _ g1) rfl) (rv_neD (p1.ext e12).dp (q1.ext e12).dp (shaped_rows hs.s.lay) (shaped_rows hs2.s.lay)))) (fun b3 H3 e3 => ?_) (fun b3 H3 e3 => ?_)
  · have b3 : PyData.eqv (rowsD ns) (rowsD ns2) = false := by simpa using b3
    rcases h with ⟨_, hR⟩ | ⟨hc, _⟩
    · exact rs_1 (ea_cons ev_c ea_nil) (hR.ext (e12.trans e3))
    · rw [b3] at hc
      cases hc
  have b3 : PyData.eqv (rowsD ns) (rowsD ns2) = true := by simpa using b3
  rcases h with ⟨hc, _⟩ | ⟨_, h⟩
  · rw [b3] at hc
    cases hc
  have e13 := e12.trans e3
  have nd2 := hs.h.asc.nodup
  refine qk_asg (ek_dictT (ev_fld k_State (by decide) (ev_var rfl) (e13 _ _ h1) rfl) (p2.ext e13) nd2) (fun p H4 hp e4 hd => ?_)
  have e14 := e13.trans e4
  obtain ⟨pp2, xs2, ds2, ee2, ed2, hx2, hd2⟩ := id q2
  have ed2 := PyData.tuple.inj ed2
  subst ed2
  have l2 := dpAll_len hd2
  rw [List.length_map] at l2
  refine q_when (b := meetR cs cs2) (et_B (ev_is (ev_anyN (el_prtT (fun d => inC cs (pr1 d)) (ev_is (ev_fld k_State (by decide) (ev_var rfl) (e14 _ _ g1) rfl) ee2) (ex_t e14 hx2.t) (rows_prt (DpAll.ext e14 hd2)) (by rw [l2]; have := hs2.h.len; omega) (fun _ _ => rfl) (fun _ _ => et_true fun _ _ _ q => q) (fun i u d H5 e5 hdd z1 z2 => ?_))) ?_)) (fun b4 H5 e5 => ?_) (fun b4 H5 e5 => ?_)
  · rw [List.getElem?_map] at hdd
    cases hc : cs2[i]? with
    | none =>
      rw [hc] at hdd
      cases hdd
    | some c =>
      rw [hc] at hdd
      cases hdd
      obtain ⟨x, ex, _⟩ := hs2.h.ad c (List.mem_of_getElem? hc)
      obtain ⟨k, j⟩ := c
      have ex : k = .inl x := ex
      subst ex
      have z1 : Dp K H5 u.1 (.int x) := z1
      cases hu1 : u.1 <;> rw [hu1] at z1 <;> cases z1
      exact ev_is (ev_op (ev_var rfl) (ev_var rfl) (rv_inDk (k := .inl x) (e5 _ _ hd))) (by rw [look_any]; rfl)
  · rw [List.any_map, List.any_map]
    congr 1
    unfold meetR
    refine any_cong fun c hc => ?_
    obtain ⟨x, ex, _⟩ := hs2.h.ad c hc
    obtain ⟨k, j⟩ := c
    have ex : k = .inl x := ex
    subst ex
    rfl
  · rcases h with ⟨_, hR⟩ | ⟨hc, _⟩
    · exact rs_1 (ea_cons ev_c ea_nil) (hR.ext (e14.trans e5))
    · rw [b4] at hc
      cases hc
  rcases h with ⟨hc, _⟩ | ⟨_, h⟩
  · rw [b4] at hc
    cases hc
  have e15 := e14.trans e5
  obtain ⟨pp1, xs1, ds1, ee1, ed1, hx1, hd1⟩ := id p2
  have ed1 := PyData.tuple.inj ed1
  subst ed1
  have l1 := dpAll_len hd1
  rw [List.length_map] at l1
  have len1 : ∀ {σ : L2.St} {H6 : Hp}, Ex H5 H6 → σ[0]? = some (some (.ref a)) → σ[1]? = some (some (.ref b)) → Ev (tOp (rAdd K) (tCB (rLen K) (tCons (tFld K (tVar 0) "heap") tNil)) (tCB (rLen K) (tCons (tFld K (tVar 1) "heap") tNil))) σ H6 (.int ((cs.length + cs2.length : Nat) : Int)) := fun {σ H6} e6 s0 s1 =>
    ev_is (ev_op (ev_lenU (ev_is (ev_fld k_State (by decide) (ev_var s0) ((e15.trans e6) _ _ h1) rfl) ee1) (ex_t (e15.trans e6) hx1.t)) (ev_lenU (ev_is (ev_fld k_State (by decide) (ev_var s1) ((e15.trans e6) _ _ g1) rfl) ee2) (ex_t (e15.trans e6) hx2.t)) rv_add) (by rw [l1, l2]; rfl)
  refine q_when (b := decide (((cs.length + cs2.length : Nat) : Int) > 40)) (et_test (ev_op (len1 (Ex.refl H5) rfl rfl) ev_c rv_I0)) (fun b5 H6 e6 => ?_) (fun b5 H6 e6 => ?_)
  · have b5 := of_decide_eq_true b5
    rcases h with ⟨_, hR⟩ | ⟨hc, _⟩
    · exact rs_3 (ea_cons ev_c (ea_cons (len1 e6 rfl rfl) (ea_cons ev_c ea_nil))) (hR.ext (e15.trans e6))
    · omega
  · have b5 := of_decide_eq_false b5
    rcases h with ⟨hc, _⟩ | ⟨hl, hQ⟩
    · omega
    have e16 := e15.trans e6
    refine isS (evd_mkG hs.s (hs.h.join hs2.h b4 hl) (rad_ev (ev_fld k_State (by decide) (ev_var rfl) (e16 _ _ h1) rfl) (p1.ext e16)) (rad_l (eld_sortT (b := true) ?_ fun r hr => ?_))) e16 hQ
    · have hcat := evd_catT (K := K) (ds := cs.map rowD) (es := cs2.map rowD) (evd_c (ev_fld k_State (f := "heap") (by decide) (ev_var (σ := [some (.ref a), some (.ref b), some (.ref p), none, none]) (i := 0) rfl) (e16 _ _ h1) rfl) (fun H7 e7 => (p2.ext (e16.trans e7)).dp)) (evd_c (ev_fld k_State (f := "heap") (by decide) (ev_var (i := 1) rfl) (e16 _ _ g1) rfl) (fun H7 e7 => (q2.ext (e16.trans e7)).dp)) (by rw [List.length_map, List.length_map]; omega)
      rw [← List.map_append] at hcat
      exact hcat
    · rcases List.mem_append.mp hr with hr | hr
      · exact hs.h.one r hr
      · exact hs2.h.one r hr
end
end Kb
set_option Elab.async false
set_option linter.all false
set_option maxRecDepth 100000
set_option maxHeartbeats 4000000
namespace Kb
open PySem PySem.Spec PyProof.Rows L2 L2.DX Evl SrtO Srt
section
variable {P : Program} {w : World} {K : PySem.W.Frag} {mg : Str → Option Value} {base : Heap} {H : Hp} {v : V} {d : PyData} {σ : L2.St} {te tl ta tb : TE} {C BR BN TM UN : Addr} {ns cs rs : List (Key × Int)}
/-- [.. for k, i in t], t a tuple of rows, each item a row -/
theorem eld_lcP {v : V} {tt : TT} {ws : List Nat} {i1 i2 : Nat} (g : Key × Int → Key × Int) (h : Ev tl σ H v) (hp : Pd K H v (rowsD rs)) (hz : rs.length ≤ 40000) (hw : ∀ x y, wipe (((wipe σ ws).set i1 (some x)).set i2 (some y)) ws = wipe σ ws) (ht : ∀ σ' H1, EvT tt σ' H1 true)
    (he : ∀ r H1, Ex H H1 → r ∈ rs → EvD te (((wipe σ ws).set i1 (some (kV r.1))).set i2 (some (.int r.2))) H1 (fun w H2 => Dp K H2 w (rowD (g r)))) :
    EvLD K (tLc (iSeq K tl) (gTup K 2 (gCons (gName i1) (gCons (gName i2) gNil))) tt te ws) σ H ((rs.map g).map rowD) := by
  obtain ⟨a, xs, ds, rfl, ed, hx, hd⟩ := hp
  obtain rfl := PyData.tuple.inj ed
  have hl := dpAll_len hd
  rw [List.length_map] at hl
  exact fun H0 e Q q => .inr (.inl (h H0 e _ fun H1 e1 => ⟨a, rfl, ⟨xs, ex_t (e.trans e1) hx.t⟩, fun Dl hD =>
    lc_it (walk_tup (xs := xs)) (fun i H' => Ex H1 H' ∧ ∃ zs, H' Dl = some (.lst zs) ∧ DpAll K H' zs (((rs.take i).map g).map rowD)) ⟨Ex.new hD, [], upd_same, by rw [List.take_zero]; exact .nil⟩ (fun i H' _ p => ex_t ((e.trans e1).trans p.1) hx.t) (fun i x H' H'' hi p y => by
      obtain ⟨rfl, hc⟩ := y
      obtain ⟨e2, zs, h2, hds⟩ := p
      have hi2 : i < rs.length := by omega
      obtain ⟨d, g1, g2⟩ := dpAll_get hd hc
      rw [List.getElem?_map, List.getElem?_eq_getElem hi2] at g1
      cases g1
      have e03 := (e.trans e1).trans e2
      obtain ⟨q, rfl, hq⟩ := row_at (Dp.ext e03 g2)
      have hlz : zs.length = i := by
        rw [dpAll_len hds, List.length_map, List.length_map, List.length_take]
        omega
      refine ⟨q, [kV rs[i].1, .int rs[i].2], rfl, hq, rfl, kV rs[i].1, [.int rs[i].2], rfl, .int rs[i].2, [], rfl, rfl, hw _ _, ?_⟩
      refine ht _ _ _ (Ex.refl _) _ fun H3 e3 => he rs[i] H3 (e03.trans e3) (List.getElem_mem hi2) H3 (Ex.refl H3) _ fun y H4 e4 hy => ⟨zs, (e3.trans e4) _ _ h2, sz_lt (by omega), ((e2.trans e3).trans e4).mut hD, zs ++ [y], upd_same, ?_⟩
      have hb := (e3.trans e4) _ _ h2
      have key := dps_mu hb (ys := zs ++ [y]) (dpAll_app (DpAll.ext (e3.trans e4) hds) (.cons hy .nil)) (by
        have := noL_rows ((rs.take i).map g ++ [g rs[i]])
        have this : noLs (((rs.take i).map g ++ [g rs[i]]).map rowD) = true := this
        rw [List.map_append] at this
        exact this)
      rw [List.take_succ, List.getElem?_eq_getElem hi2, Option.toList_some, List.map_append, List.map_append]
      exact key)
    (fun H' p => by
      obtain ⟨e2, zs, h2, hds⟩ := p
      rw [hl, List.take_length] at hds
      exact q Dl zs H' (fresh_back e1 hD) (e1.trans e2) h2 hds)⟩))
theorem el_prt2 {a : Addr} {xs : List V} {us : List (V × V)} {ds : List PyData} {tt : TT} {ws : List Nat} {i1 i2 : Nat} (h : Ev tl σ H (.ref a)) (hx : SqT K H a xs) (hd : Prt K H xs us ds) (hz : xs.length ≤ 40000)
    (hw : ∀ x y, wipe (((wipe σ ws).set i1 (some x)).set i2 (some y)) ws = wipe σ ws) (ht : ∀ σ' H1, EvT tt σ' H1 true)
    (he : ∀ (u : V × V) H1, Ev te (((wipe σ ws).set i1 (some u.1)).set i2 (some u.2)) H1 u.2) :
    EvL (tLc (iSeq K tl) (gTup K 2 (gCons (gName i1) (gCons (gName i2) gNil))) tt te ws) σ H (us.map Prod.snd) := by
  refine el_is (el_prt (fun _ => true) (fun i => (us.getD i (.non, .non)).2) h hx hd hz hw (fun i u H1 e hu => ht _ _) (fun i u H1 e hu _ => ?_)) (given_mapT us (.non, .non) Prod.snd)
  rw [getD_some hu]
  exact he u H1
/-- images: rows (one, other) -/
structure ImOk (im : List (Int × Int)) : Prop where
  rng : ∀ q ∈ im, (1 ≤ q.1 ∧ q.1 ≤ 1000000) ∧ (1 ≤ q.2 ∧ q.2 ≤ 1000000)
  asc : (im.map (·.1)).Pairwise (· < ·)
  inj : (im.map (·.2)).Nodup
  len : im.length ≤ 40000
def covB (im : List (Int × Int)) (vals : List Int) : Bool := vals.all fun i => decide (i ∈ im.map (·.1))
def spImages (K : PySem.W.Frag) (C : Addr) : Sp := fun vs H Q _ => ∃ a u ns cells du, vs = [.ref a, u] ∧ StM K H C a ns (cells.map cI) ∧ ns.length + 2 * cells.length < 64 ∧ Dp K H u du ∧
  (((tupD du = none ∨ ∃ ds, du = .tuple ds ∧ ds.length ≤ 40000 ∧ ds.all pairD = false) ∧ ∀ H', Ex H H' → Q (.bl false) H') ∨
   ((∃ ds, du = .tuple ds ∧ ds.length ≤ 40000 ∧ ds.all pairD = true ∧ ds.all (fun r => addrD (pr1 r) && addrD (pr2 r)) = false) ∧ ∀ H', Ex H H' → Q (.bl false) H') ∨
   ((∃ im : List (Int × Int), du = rowsD (im.map cI) ∧ im.length ≤ 40000 ∧ (∀ q ∈ im, addrD (.int q.1) = true ∧ addrD (.int q.2) = true) ∧ (risV (im.map fun q => V.int q.1) && risV ((srtI (im.map (·.2))).map V.int)) = false) ∧ ∀ H', Ex H H' → Q (.bl false) H') ∨
   (∃ im : List (Int × Int), du = rowsD (im.map cI) ∧ Pd K H u du ∧ ImOk im ∧ ∀ H', Ex H H' → Q (.bl (covB im (valsI (intsOf ns cells)))) H'))
theorem rows_us (im : List (Int × Int)) : ((im.map cI).map fun p : Key × Int => (kV p.1, V.int p.2)) = im.map fun q => (V.int q.1, V.int q.2) := by
  rw [List.map_map]
  rfl
theorem nodup_ints {is : List Int} (h : is.Nodup) : risV ((srtI is).map V.int) = true := ris_ints (srt_lt h)
theorem im_addr {im : List (Int × Int)} (h : ∀ q ∈ im, addrD (.int q.1) = true ∧ addrD (.int q.2) = true) : ((im.map cI).map rowD).all (fun r => addrD (pr1 r) && addrD (pr2 r)) = true := by
  rw [List.map_map, List.all_map, List.all_eq_true]
  intro q hq
  obtain ⟨a, b⟩ := h q hq
  show (addrD (.int q.1) && addrD (.int q.2)) = true
  rw [a, b]
  rfl
theorem ImOk.addr {im : List (Int × Int)} (h : ImOk im) : ∀ q ∈ im, addrD (.int q.1) = true ∧ addrD (.int q.2) = true := fun q hq => ⟨addr_ok (h.rng q hq).1, addr_ok (h.rng q hq).2⟩
theorem ImOk.nodup {im : List (Int × Int)} (h : ImOk im) : ((im.map cI).map (·.1)).Nodup := by
  rw [List.map_map]
  refine List.pairwise_map.mpr ((List.pairwise_map.mp h.asc).imp fun {a b} z e => ?_)
  have e : (Sum.inl a.1 : Key) = .inl b.1 := e
  have := Sum.inl.inj e
  omega
theorem ok_are_images (B : Bi mg) (g_is_address : Gv P w K mg base CX0 2 "is_address" ["value"] (spB K noC addrD)) (g_rising : Gv P w K mg base CX0 1 "rising" ["value"] (spRising K)) (g_values_by : Gv P w K mg base CX0 1 "values_by" ["state"] (spVals K C)) (D : Df K mg "are_images" s_are_images ["state", "value"]) :
    Gv P w K mg base CX0 3 "are_images" ["state", "value"] (spImages K C) := by
  have nd := sc_are_images.nd
  refine D.gv sc_are_images (fun vs H Q E h => ?_) (fun f cdv A outer s H vs Q E hr h => ?_)
  · obtain ⟨a, u, ns, cells, du, rfl, _⟩ := h
    rfl
  have hu64 := hu64_of hr
  refine ⟨_, (pss_cons (ps_if (PW.pt (pw_or (pt_not (pt_val (pe_callB (id := "isinstance") (r := rIsi K) call_isi rfl B.isi (by decide +kernel) (pa_cons (pv 1) (pa_cons (pe_bltn (v := .ty "tuple") rfl B.tuple (by decide +kernel) rfl) pa_nil))))) (pw_or1 (pt_not (pt_val (pe_callB (r := rAll K) (cr_all rfl) rfl B.all (by decide +kernel) (pa_cons (pe_lc (own := [("pair", 3)]) rfl nd (piA_seq (pv 1)) (blk_ok (by kernel_rfl)) (fun _ _ _ _ _ => (pg_name (i := 3) nd rfl (.inl rfl))) (fun _ _ _ _ _ => pts_nil) (fun _ _ _ _ _ => (pe_and (pe_callB (id := "isinstance") (r := rIsi K) call_isi rfl B.isi (by decide +kernel) (pa_cons (pv 3) (pa_cons (pe_bltn (v := .ty "tuple") rfl B.tuple (by decide +kernel) rfl) pa_nil))) (pe_one (pe_cmpR (r := rEqA K) (opA_eq hu64) (pe_callB (r := rLen K) callA_len rfl B.len (by decide +kernel) (pa_cons (pv 3) pa_nil)) pe_int (nomark _)))))) pa_nil))))))) (pss_one (ps_ret pe_bl)) pss_nil)
    (pss_cons (ps_if (pt_not (pt_val (pe_callB (r := rAll K) (cr_all rfl) rfl B.all (by decide +kernel) (pa_cons (pe_lc (own := [("one", 4), ("other", 5)]) rfl nd (piA_seq (pv 1)) (blk_ok (by kernel_rfl)) (fun _ _ _ _ _ => (pgK_tup (K := K) (n := 2) rfl rfl (pgs_cons (pg_name (i := 4) nd rfl (.inl rfl)) (pgs_cons (pg_name (i := 5) nd rfl (.inl rfl)) pgs_nil)))) (fun _ _ _ _ _ => pts_nil) (fun _ _ _ _ _ => (by exact (pe_and (pe_cg g_is_address hr rfl pass0 (pa_cons (pv 4) pa_nil)) (pe_one (pe_cg g_is_address hr rfl pass0 (pa_cons (pv 5) pa_nil))))))) pa_nil)))) (pss_one (ps_ret pe_bl)) pss_nil)
    (pss_cons (ps_if (PW.pt (pw_or (pt_not (pt_val (pe_cg g_rising hr rfl pass0 (pa_cons (pe_lc (own := [("one", 4), ("other", 5)]) rfl nd (piA_seq (pv 1)) (blk_ok (by kernel_rfl)) (fun _ _ _ _ _ => (pgK_tup (K := K) (n := 2) rfl rfl (pgs_cons (pg_name (i := 4) nd rfl (.inl rfl)) (pgs_cons (pg_name (i := 5) nd rfl (.inl rfl)) pgs_nil)))) (fun _ _ _ _ _ => pts_nil) (fun _ _ _ _ _ => (pv 4))) pa_nil)))) (pw_or1 (pt_not (pt_val (pe_cg g_rising hr rfl pass0 (pa_cons (pe_callB (r := rSortA K) (callA_sorted rfl) rfl B.sorted (by decide +kernel) (pa_cons (pe_lc (own := [("one", 4), ("other", 5)]) rfl nd (piA_seq (pv 1)) (blk_ok (by kernel_rfl)) (fun _ _ _ _ _ => (pgK_tup (K := K) (n := 2) rfl rfl (pgs_cons (pg_name (i := 4) nd rfl (.inl rfl)) (pgs_cons (pg_name (i := 5) nd rfl (.inl rfl)) pgs_nil)))) (fun _ _ _ _ _ => pts_nil) (fun _ _ _ _ _ => (pv 5))) pa_nil)) pa_nil))))))) (pss_one (ps_ret pe_bl)) pss_nil)
    (pss_cons (ps_set (i := 2) nd rfl (.inr rfl) (pe_callTy (r := rDictT K) (call_dictT rfl) rfl B.dict (by decide +kernel) (pa_cons (pv 1) pa_nil)))
    (pss_one (ps_ret (pe_callB (r := rAll K) (cr_all rfl) rfl B.all (by decide +kernel) (pa_cons (pe_lc (own := [("one", 4)]) rfl nd (piA_seq (pe_cg g_values_by hr rfl pass0 (pa_cons (pv 0) pa_nil))) (blk_ok (by kernel_rfl)) (fun _ _ _ _ _ => (pg_name (i := 4) nd rfl (.inl rfl))) (fun _ _ _ _ _ => pts_nil) (fun _ _ _ _ _ => (pe_cmpR (r := rInA K) (opA_in hu64) (pv 4) (pv 2) rfl))) pa_nil)))))))), ?_⟩
  obtain ⟨a, u, ns, cells, du, rfl, hM, h64, hdu, h⟩ := h
  cases hq : tupD du with
  | none =>
    refine q_when (b := true || false) (et_or (a := true) (b := false) (et_is (et_not (et_B (ev_isiD (ev_var rfl) hdu (kit_tuple _)))) (by rw [isB_tup, hq]; rfl)) (fun z => nomatch z)) (fun _ H1 e1 => s_ret ev_c fun H2 e2 => ?_) (fun z => nomatch z)
    rcases h with ⟨_, hQ⟩ | ⟨⟨ds, rfl, _⟩, _⟩ | ⟨⟨im, rfl, _⟩, _⟩ | ⟨im, rfl, _⟩
    · exact hQ H2 (e1.trans e2)
    · cases hq
    · cases hq
    · cases hq
  | some ds =>
    obtain rfl : du = .tuple ds := by
      revert hq
      cases du <;> intro hq <;> first | (cases hq; rfl) | cases hq
    have hdu2 := hdu
    cases hdu2 with
    | @tup t xs _ hx ha =>
      have hl := dpAll_len ha
      have hz : xs.length ≤ 40000 := by
        rw [hl]
        rcases h with ⟨hw, _⟩ | ⟨⟨ds, e, hz, _⟩, _⟩ | ⟨⟨im, e, hz, _⟩, _⟩ | ⟨im, e, _, hI, _⟩
        · rcases hw with hw | ⟨ds, e, hz, _⟩
          · rw [hq] at hw
            cases hw
          · obtain rfl := PyData.tuple.inj e
            exact hz
        · obtain rfl := PyData.tuple.inj e
          exact hz
        · obtain rfl := PyData.tuple.inj e
          rw [List.length_map, List.length_map]
          exact hz
        · obtain rfl := PyData.tuple.inj e
          rw [List.length_map, List.length_map]
          exact hI.len
      refine q_when (b := false || !(ds.map pairD).all id) (et_or (a := false) (et_is (et_not (et_B (ev_isiD (ev_var rfl) hdu (kit_tuple _)))) (by rw [isB_tup]; rfl)) (fun _ => et_not (et_B (ev_allN (el_tests pairD (ev_var rfl) hx ha hz (fun _ => rfl) (fun _ _ => et_true fun _ _ _ q => q) (fun i v d H1 e _ hd => ev_pair rfl hd)))))) (fun b H1 e1 => s_ret ev_c fun H2 e2 => ?_) (fun b H1 e1 => ?_)
      · rw [List.all_map] at b
        have b : ds.all pairD = false := by
          have z : (!ds.all pairD) = true := by simpa using b
          simpa using z
        rcases h with ⟨_, hQ⟩ | ⟨⟨ds, e, _, b2, _⟩, _⟩ | ⟨⟨im, e, _⟩, _⟩ | ⟨im, e, _⟩
        · exact hQ H2 (e1.trans e2)
        · obtain rfl := PyData.tuple.inj e
          rw [b] at b2
          cases b2
        · obtain rfl := PyData.tuple.inj e
          rw [rows_pair] at b
          cases b
        · obtain rfl := PyData.tuple.inj e
          rw [rows_pair] at b
          cases b
      rw [List.all_map] at b
      have b2 : ds.all pairD = true := by
        have z : (!ds.all pairD) = false := by simpa using b
        simpa using z
      obtain ⟨us, hp⟩ := prt_of (DpAll.ext e1 ha) b2
      refine q_when (b := !(ds.map fun r => addrD (pr1 r) && addrD (pr2 r)).all id) (et_not (et_B (ev_allN (el_prtT (fun r => addrD (pr1 r) && addrD (pr2 r)) (ev_var rfl) (ex_t e1 hx) hp hz (fun _ _ => rfl) (fun _ _ => et_true fun _ _ _ q => q) (fun i u d H1 e hd h1 h2 =>
        ev_andV (ev_call (ea_cons (ev_var rfl) ea_nil) (spB_v h1 trivial)) (fun _ => ev_call (ea_cons (ev_var rfl) ea_nil) (spB_v h2 trivial))))))) (fun b H2 e2 => s_ret ev_c fun H3 e3 => ?_) (fun b H2 e2 => ?_)
      · rw [List.all_map] at b
        have b : ds.all (fun r => addrD (pr1 r) && addrD (pr2 r)) = false := by
          have z : (!ds.all (fun r => addrD (pr1 r) && addrD (pr2 r))) = true := b
          simpa using z
        have e13 := (e1.trans e2).trans e3
        rcases h with ⟨_, hQ⟩ | ⟨_, hQ⟩ | ⟨_, hQ⟩ | ⟨im, e, _, hI, _⟩
        · exact hQ H3 e13
        · exact hQ H3 e13
        · exact hQ H3 e13
        · obtain rfl := PyData.tuple.inj e
          rw [im_addr hI.addr] at b
          cases b
      rw [List.all_map] at b
      have b3 : ds.all (fun r => addrD (pr1 r) && addrD (pr2 r)) = true := by
        have z : (!ds.all (fun r => addrD (pr1 r) && addrD (pr2 r))) = false := b
        simpa using z
      have e12 := e1.trans e2
      obtain ⟨im, hds, h9⟩ : ∃ im : List (Int × Int), ds = (im.map cI).map rowD ∧ (((risV (im.map fun q => V.int q.1) && risV ((srtI (im.map (·.2))).map V.int)) = false ∧ ∀ H', Ex H H' → Q (.bl false) H') ∨ (Pd K H (.ref t) (rowsD (im.map cI)) ∧ ImOk im ∧ ∀ H', Ex H H' → Q (.bl (covB im (valsI (intsOf ns cells)))) H')) := by
        rcases h with ⟨hw, _⟩ | ⟨⟨ds, e, _, _, b4⟩, _⟩ | ⟨⟨im, e, _, _, hr⟩, hQ⟩ | ⟨im, e, hP, hI, hQ⟩
        · rcases hw with hw | ⟨ds, e, _, b4⟩
          · rw [hq] at hw
            cases hw
          · obtain rfl := PyData.tuple.inj e
            rw [b2] at b4
            cases b4
        · obtain rfl := PyData.tuple.inj e
          rw [b3] at b4
          cases b4
        · obtain rfl := PyData.tuple.inj e
          exact ⟨im, rfl, .inl ⟨hr, hQ⟩⟩
        · obtain rfl := PyData.tuple.inj e
          exact ⟨im, rfl, .inr ⟨hP, hI, hQ⟩⟩
      subst hds
      have hp2 := rows_prt (DpAll.ext e12 ha)
      rw [rows_us] at hp2
      have f1 : ((im.map fun q => (V.int q.1, V.int q.2)).map Prod.fst) = im.map fun q => V.int q.1 := by rw [List.map_map]; rfl
      have f2 : ((im.map fun q => (V.int q.1, V.int q.2)).map Prod.snd) = (im.map (·.2)).map V.int := by rw [List.map_map, List.map_map]; rfl
      have li : im.length ≤ 40000 := by
        rw [hl, List.length_map, List.length_map] at hz
        exact hz
      refine q_when (b := !risV (im.map fun q => V.int q.1) || !risV ((srtI (im.map (·.2))).map V.int)) (et_or (et_not (et_B (ev_callL (el_is (el_prt1 (ev_var rfl) (ex_t e12 hx) hp2 hz (fun _ _ => rfl) (fun _ _ => et_true fun _ _ _ q => q) (fun u H1 => ev_var rfl)) f1) (fun p H4 hp4 H5 e5 Q q E => ⟨p, _, rfl, ex_l e5 (sq_of hp4), ?_, .inl (fun x hx => ?_), q⟩))))
        (fun _ => et_not (et_B (ev_callL (el_sortIN (K := K) (ns := im.map (·.2)) (zs := srtI (im.map (·.2))) (el_is (el_prt2 (ev_var rfl) (ex_t e12 hx) hp2 hz (fun _ _ => rfl) (fun _ _ => et_true fun _ _ _ q => q) (fun u H1 => ev_var rfl)) f2) (srt_perm _) (srt_le _)) (fun p H4 hp4 H5 e5 Q q E => ⟨p, _, rfl, ex_l e5 (sq_of hp4), ?_, .inl (fun x hx => ?_), q⟩))))) (fun b H3 e3 => s_ret ev_c fun H4 e4 => ?_) (fun b H3 e3 => ?_)
      · rw [List.length_map]
        exact li
      · obtain ⟨q, _, rfl⟩ := List.mem_map.mp hx
        exact ⟨q.1, rfl⟩
      · rw [List.length_map, (srt_perm _).length_eq, List.length_map]
        exact li
      · obtain ⟨i, _, rfl⟩ := List.mem_map.mp hx
        exact ⟨i, rfl⟩
      · rcases h9 with ⟨_, hQ⟩ | ⟨_, hI, _⟩
        · exact hQ H4 ((e12.trans e3).trans e4)
        · have h1 : risV (im.map fun q => V.int q.1) = true := by
            have := ris_ints hI.asc
            rw [List.map_map] at this
            exact this
          rw [h1, nodup_ints hI.inj] at b
          cases b
      rcases h9 with ⟨hr, _⟩ | ⟨hP, hI, hQ⟩
      · exfalso
        revert hr b
        cases risV (im.map fun q => V.int q.1) <;> cases risV ((srtI (im.map (·.2))).map V.int) <;> decide
      have e13 := e12.trans e3
      refine qk_asg (ek_dictT (ev_var rfl) (hP.ext e13) hI.nodup) (fun p H4 hp e4 hd => ?_)
      have e14 := e13.trans e4
      have hv64 : (valsI (intsOf ns cells)).length ≤ 64 := by
        have := vals_len (intsOf ns cells)
        rw [intsOf_len] at this
        omega
      refine s_ret (ev_is (ev_allN (bs := (valsI (intsOf ns cells)).map fun i => decide (i ∈ im.map (·.1))) (el_is (el_lcN (fun i => (wipe (L2.start ["state", "value", "known", "pair", "one", "other"] [.ref a, .ref t] |>.set 2 (some (.ref p))) [4]).set 4 (some (((valsI (intsOf ns cells)).map V.int).getD i .non))) (fun _ => true) (fun i => .bl (decide ((valsI (intsOf ns cells)).getD i 0 ∈ im.map (·.1)))) (el_call (ea_cons (ev_var rfl) ea_nil) (sp_vals (hM.ext e14) h64)) (by rw [List.length_map]; omega) (fun i _ => rfl) (fun i x H5 e5 hi k q => ?_) (fun i x H5 e5 hi => et_true fun _ _ _ q => q) (fun i x H5 e5 hi _ => ?_)) ?_)) ?_) (fun H5 e5 => hQ H5 (e14.trans e5))
      · rw [getD_some hi] at q
        exact q
      · rw [getD_some hi]
        rw [List.getElem?_map] at hi
        cases hv : (valsI (intsOf ns cells))[i]? with
        | none => rw [hv] at hi; cases hi
        | some n =>
          rw [hv] at hi
          cases hi
          rw [getD_some hv]
          exact ev_is (ev_op (ev_var rfl) (ev_var rfl) (rv_inDk (k := .inl n) (e5 _ _ hd))) (by rw [look_cI])
      · rw [List.length_map, given_mapT (valsI (intsOf ns cells)) 0 fun n => V.bl (decide (n ∈ im.map (·.1))), List.map_map]
        rfl
      · rw [List.all_map]
        rfl
end
end Kb
set_option Elab.async false
set_option linter.all false
set_option maxRecDepth 100000
set_option maxHeartbeats 4000000
namespace Kb
open PySem PySem.Spec PyProof.Rows L2 L2.DX Evl SrtO Srt
/-! ### led along by images -/
def tabI (im : List (Int × Int)) : List (Key × Int) := ((0, 0) :: im).map cI
def led (im : List (Int × Int)) (x : Int) : Int := (lookI (tabI im) (.inl x)).getD 0
/-- 0 or among the first ones -/
def Kn (im : List (Int × Int)) (x : Int) : Prop := x = 0 ∨ x ∈ im.map (·.1)
theorem find_int (l : List (Int × Int)) (x : Int) : ((l.map cI).find? fun p => decide (p.1 = .inl x)) = (l.find? fun p => decide (p.1 = x)).map cI := by
  rw [List.find?_map]
  congr 1
  apply congrFun
  apply congrArg
  funext p
  show decide ((Sum.inl p.1 : Key) = .inl x) = decide (p.1 = x)
  simp
theorem led_some {im : List (Int × Int)} {x : Int} (h : Kn im x) : lookI (tabI im) (.inl x) = some (led im x) := by
  unfold led
  cases q : lookI (tabI im) (.inl x) with
  | some y => rfl
  | none =>
    exfalso
    unfold lookI tabI at q
    rw [find_int, Option.map_map, Option.map_eq_none_iff, List.find?_eq_none] at q
    rcases h with rfl | h
    · exact q (0, 0) List.mem_cons_self (decide_eq_true rfl)
    · obtain ⟨p, hp, rfl⟩ := List.mem_map.mp h
      exact q p (List.mem_cons_of_mem _ hp) (decide_eq_true rfl)
theorem led_zero (im : List (Int × Int)) : led im 0 = 0 := rfl
/-- led on the images is what stands beside -/
theorem led_mem {im : List (Int × Int)} (hI : ImOk im) {q : Int × Int} (hq : q ∈ im) : led im q.1 = q.2 := by
  have h := led_some (im := im) (x := q.1) (.inr (List.mem_map.mpr ⟨q, hq, rfl⟩))
  unfold lookI tabI at h
  rw [find_int, Option.map_map] at h
  obtain ⟨p, hp, e⟩ := Option.map_eq_some_iff.mp h
  have e : p.2 = led im q.1 := e
  have hk := List.find?_some hp
  have hk : p.1 = q.1 := of_decide_eq_true hk
  have hm := List.mem_of_find?_eq_some hp
  rcases List.mem_cons.mp hm with rfl | hm
  · have := (hI.rng q hq).1.1
    have hk : (0 : Int) = q.1 := hk
    omega
  · rw [← e]
    have asc := List.pairwise_map.mp hI.asc
    have hne : p = q := by
      rcases Classical.em (p = q) with z | z
      · exact z
      · exfalso
        obtain ⟨i, hi⟩ := List.mem_iff_getElem?.mp hm
        obtain ⟨j, hj⟩ := List.mem_iff_getElem?.mp hq
        obtain ⟨i1, e1⟩ := List.getElem?_eq_some_iff.mp hi
        obtain ⟨j1, e2⟩ := List.getElem?_eq_some_iff.mp hj
        have as2 := List.pairwise_iff_getElem.mp asc
        rcases Nat.lt_trichotomy i j with c | c | c
        · have := as2 i j i1 j1 c
          rw [e1, e2] at this
          omega
        · subst c
          rw [hi] at hj
          exact z (Option.some.inj hj)
        · have := as2 j i j1 i1 c
          rw [e1, e2] at this
          omega
    rw [hne]
theorem led_dom {im : List (Int × Int)} (hI : ImOk im) {x : Int} (h : x ∈ im.map (·.1)) : 1 ≤ led im x ∧ led im x ≤ 1000000 ∧ led im x ∈ im.map (·.2) := by
  obtain ⟨q, hq, rfl⟩ := List.mem_map.mp h
  rw [led_mem hI hq]
  exact ⟨(hI.rng q hq).2.1, (hI.rng q hq).2.2, List.mem_map.mpr ⟨q, hq, rfl⟩⟩
theorem led_rng {im : List (Int × Int)} (hI : ImOk im) {x : Int} (h : Kn im x) : 0 ≤ led im x ∧ led im x ≤ 1000000 := by
  rcases h with rfl | h
  · rw [led_zero]
    decide
  · have := led_dom hI h
    omega
theorem led_inj {im : List (Int × Int)} (hI : ImOk im) {x y : Int} (hx : x ∈ im.map (·.1)) (hy : y ∈ im.map (·.1)) (e : led im x = led im y) : x = y := by
  obtain ⟨p, hp, rfl⟩ := List.mem_map.mp hx
  obtain ⟨q, hq, rfl⟩ := List.mem_map.mp hy
  rw [led_mem hI hp, led_mem hI hq] at e
  have nd := List.pairwise_map.mp hI.inj
  rcases Classical.em (p = q) with z | z
  · rw [z]
  · exfalso
    obtain ⟨i, hi⟩ := List.mem_iff_getElem?.mp hp
    obtain ⟨j, hj⟩ := List.mem_iff_getElem?.mp hq
    obtain ⟨i1, e1⟩ := List.getElem?_eq_some_iff.mp hi
    obtain ⟨j1, e2⟩ := List.getElem?_eq_some_iff.mp hj
    have nd2 := List.pairwise_iff_getElem.mp nd
    rcases Nat.lt_trichotomy i j with c | c | c
    · refine nd2 i j i1 j1 c ?_
      rw [e1, e2]
      exact e
    · subst c
      rw [hi] at hj
      exact z (Option.some.inj hj)
    · refine nd2 j i j1 i1 c ?_
      rw [e1, e2]
      exact e.symm
def gN (im : List (Int × Int)) (r : Key × Int) : Key × Int := (r.1, led im r.2)
def kx : Key → Int
  | .inl x => x
  | _ => 0
def gH (im : List (Int × Int)) (r : Key × Int) : Key × Int := (.inl (led im (kx r.1)), led im r.2)
theorem SG.move {ns : List (Key × Int)} {im : List (Int × Int)} (h : SG ns) (hI : ImOk im) (hk : ∀ q ∈ ns, Kn im q.2) : SG (ns.map (gN im)) := by
  refine ⟨fun q hq => ?_, fun q hq => ?_, ?_, by rw [List.length_map]; exact h.len⟩
  · obtain ⟨r, hr, rfl⟩ := List.mem_map.mp hq
    exact h.nm r hr
  · obtain ⟨r, hr, rfl⟩ := List.mem_map.mp hq
    exact led_rng hI (hk r hr)
  · exact List.pairwise_map.mpr h.asc
theorem HG.move {cs : List (Key × Int)} {im : List (Int × Int)} (h : HG cs) (hI : ImOk im) (hk : ∀ q ∈ cs, Kn im (kx q.1) ∧ Kn im q.2) : HG (srtR (cs.map (gH im))) := by
  have mem : ∀ {q}, q ∈ srtR (cs.map (gH im)) → ∃ r ∈ cs, gH im r = q := fun {q} hq => List.mem_map.mp ((srtR_perm _).mem_iff.mp hq)
  have dom : ∀ r ∈ cs, ∃ a, r.1 = .inl a ∧ a ∈ im.map (·.1) := fun r hr => by
    obtain ⟨a, ea, a1, _⟩ := h.ad r hr
    have hkn := (hk r hr).1
    rw [ea] at hkn
    rcases hkn with z | z
    · have z : a = 0 := z
      omega
    · exact ⟨a, ea, z⟩
  refine ⟨fun q hq => ?_, fun q hq => ?_, srtR_ascK ?_, by rw [(srtR_perm _).length_eq, List.length_map]; exact h.len⟩
  · obtain ⟨r, hr, rfl⟩ := mem hq
    obtain ⟨a, ea, ha⟩ := dom r hr
    refine ⟨led im (kx r.1), rfl, ?_⟩
    rw [ea]
    have := led_dom hI ha
    exact ⟨this.1, this.2.1⟩
  · obtain ⟨r, hr, rfl⟩ := mem hq
    exact led_rng hI (hk r hr).2
  · rw [List.map_map]
    refine List.pairwise_map.mpr (List.Pairwise.imp_of_mem (fun {a b} ha hb z e => ?_) h.asc)
    obtain ⟨x, ex, hx⟩ := dom a ha
    obtain ⟨y, ey, hy⟩ := dom b hb
    have e : (Sum.inl (led im (kx a.1)) : Key) = .inl (led im (kx b.1)) := e
    have e := Sum.inl.inj e
    rw [ex, ey] at e
    have := led_inj hI hx hy e
    rw [ex, ey, this, ky_irr] at z
    cases z
theorem tabI_merge {im : List (Int × Int)} (hI : ImOk im) : mergeK [((.inl 0 : Key), V.int 0)] ((im.map cI).map kvI) = (tabI im).map kvI := by
  refine merge_nodup _ _ ?_
  rw [List.map_append, List.nodup_append]
  refine ⟨by simp, by rw [kvI_fst]; exact hI.nodup, fun a ha b hb e => ?_⟩
  rw [kvI_fst] at hb
  obtain ⟨q, hq, rfl⟩ := List.mem_map.mp hb
  obtain ⟨p, hp, rfl⟩ := List.mem_map.mp hq
  have ha : a = .inl 0 := by simpa using ha
  rw [ha] at e
  have e : (Sum.inl 0 : Key) = .inl p.1 := e
  have e := Sum.inl.inj e
  have := (hI.rng p hp).1.1
  omega
section
variable {P : Program} {w : World} {K : PySem.W.Frag} {mg : Str → Option Value} {base : Heap} {H : Hp} {v : V} {d : PyData} {σ : L2.St} {te tl ta tb : TE} {C BR BN TM UN : Addr} {ns cs rs : List (Key × Int)}
theorem ty_dK {p : Addr} {kvs : List (Key × V)} (h : H p = some (.dK kvs)) : tyV K "dict" (.ref p) H := .inr (.inr (.inl ⟨rfl, .inl ⟨_, h⟩⟩))
theorem ev_dgetK {p : Addr} {kvs : List (Key × V)} {k : Key} {x : V} (ha : Ev ta σ H (.ref p)) (hb : Ev tb σ H (kV k)) (h : H p = some (.dK kvs)) (hx : valV kvs k = some x) : Ev (tDGet ta tb) σ H x := fun H1 e Q q =>
  ha H1 e _ fun H2 e2 => hb H2 (e.trans e2) _ fun H3 e3 => ⟨p, x, rfl, .inl ⟨kvs, k, .inl (((e.trans e2).trans e3) _ _ h), rfl, hx.symm⟩, q H3 (e2.trans e3)⟩
theorem ev_led {im : List (Int × Int)} {p : Addr} {x : Int} (ha : Ev ta σ H (.ref p)) (hb : Ev tb σ H (.int x)) (h : H p = some (.dK ((tabI im).map kvI))) (hk : Kn im x) : Ev (tDGet ta tb) σ H (.int (led im x)) := ev_dgetK (k := .inl x) ha hb h (by rw [valV_kvI, led_some hk]; rfl)
theorem ek_disp0 : EvK (tDisp [(tC (.int 0), tC (.int 0))]) σ H [((.inl 0 : Key), V.int 0)] := fun H1 e Q q p hp => by
  refine ⟨upd_same, [((.inl 0 : Key), V.int 0)], rfl, by decide, ?_⟩
  rw [upd_upd]
  exact q p _ hp (Ex.new hp) upd_same
def spMovedBy (K : PySem.W.Frag) (C : Addr) : Sp := fun vs H Q _ => ∃ a u ns cs im, vs = [.ref a, u] ∧ StG K H C a ns cs ∧ Pd K H u (rowsD (im.map cI)) ∧ ImOk im ∧ (∀ q ∈ ns, Kn im q.2) ∧ (∀ q ∈ cs, Kn im (kx q.1) ∧ Kn im q.2) ∧ GivesS K C Q H (ns.map (gN im)) (srtR (cs.map (gH im)))
theorem ok_moved_by (B : Bi mg) (k_State : Kl K mg "State" C SF) (m_State : Mkr P w K mg base (L2.CX P w) 5 "State" C ["self", "store", "heap"] (spSInit K C BR)) (D : Df K mg "moved_by" s_moved_by ["state", "images"]) :
    Gv P w K mg base (L2.CX P w) 7 "moved_by" ["state", "images"] (spMovedBy K C) := by
  have nd := sc_moved_by.nd
  refine D.gvX sc_moved_by (fun vs H Q E h => ?_) (fun f cdv A outer s H vs Q E hr h => ?_)
  · obtain ⟨a, u, ns, cs, im, rfl, _⟩ := h
    rfl
  have hu := Nat.lt_of_le_of_lt (Nat.add_le_add_left (show 1 ≤ 64 by decide) _) (hu64_of hr)
  refine ⟨_, (pss_cons (ps_set (i := 2) nd rfl (.inr rfl) (pe_disp (pps_cons pe_int pe_int pps_nil) rfl rfl (by decide) (by decide)))
    (pss_cons (ps_expr (pe_bmK (K := K) rfl PySem.F.plainAttrs_dict PySem.F.slot_dict_update PySem.F.type_dict_update mt_updateK (pv 2) (pa_cons (pe_callTy (r := rDictT K) (call_dictT rfl) rfl B.dict (by decide +kernel) (pa_cons (pv 1) pa_nil)) pa_nil)))
    (pss_cons (ps_set (i := 3) nd rfl (.inl rfl) (pe_callB (r := rSortB K) (callB_sorted rfl) rfl B.sorted (by decide +kernel) (pa_cons (pe_lc (own := [("address", 4), ("value", 5)]) rfl nd (piA_seq (pe_fld (pv 0) rfl)) (blk_ok (by kernel_rfl)) (fun _ _ _ _ _ => (pgK_tup (K := K) (n := 2) rfl rfl (pgs_cons (pg_name (i := 4) nd rfl (.inl rfl)) (pgs_cons (pg_name (i := 5) nd rfl (.inl rfl)) pgs_nil)))) (fun _ _ _ _ _ => pts_nil) (fun _ _ _ _ _ => (pe_tup (pa_cons (pe_dget hu (pv 2) (pv 4) (fun _ _ => rfl)) (pa_cons (pe_dget hu (pv 2) (pv 5) (fun _ _ => rfl)) pa_nil))))) pa_nil)))
    (pss_one (ps_ret (pe_mk m_State hr rfl (passes_call (takes_of rfl rfl rfl rfl) (fun _ _ _ _ h => h)) (pa_cons (pe_lc (own := [("name", 6), ("value", 5)]) rfl nd (piA_seq (pe_fld (pv 0) rfl)) (blk_ok (by kernel_rfl)) (fun _ _ _ _ _ => (pgK_tup (K := K) (n := 2) rfl rfl (pgs_cons (pg_name (i := 6) nd rfl (.inl rfl)) (pgs_cons (pg_name (i := 5) nd rfl (.inl rfl)) pgs_nil)))) (fun _ _ _ _ _ => pts_nil) (fun _ _ _ _ _ => (pe_tup (pa_cons (pv 6) (pa_cons (pe_dget hu (pv 2) (pv 5) (fun _ _ => rfl)) pa_nil))))) (pa_cons (pv 3) pa_nil)))))))), ?_⟩
  obtain ⟨a, u, ns, cs, im, rfl, hs, hP, hI, hkn, hkc, hQ⟩ := h
  obtain ⟨dx, v1, v2, h1, p1, p2⟩ := hs.parts
  refine qk_asg ek_disp0 (fun p H1 hp e1 hd => ?_)
  refine q_dropT ((ev_var rfl) H1 (Ex.refl H1) _ fun H2 e2 => ⟨ty_dK (e2 _ _ hd), ek_dictT (ev_var rfl) (hP.ext (e1.trans e2)) hI.nodup H2 (Ex.refl H2) _ fun q H3 hq e3 hd3 => ⟨p, q, _, _, rfl, rfl, ne_of_none (e2 _ _ hd) hq, (e2.trans e3) _ _ hd, hd3, ?_, ?_⟩⟩)
  · rw [List.length_map, List.length_map]
    have := hI.len
    simp only [List.length_cons, List.length_nil]
    omega
  rw [tabI_merge hI]
  have x3 : Ex H (upd H3 p (.dK ((tabI im).map kvI))) := ((e1.trans e2).trans e3).mut hp
  have hp3 : upd H3 p (.dK ((tabI im).map kvI)) p = some (.dK ((tabI im).map kvI)) := upd_same
  revert x3 hp3
  generalize upd H3 p (.dK ((tabI im).map kvI)) = G
  intro x3 hp3
  refine qd_asgLD (K := K) (eld_sortR (b := true) (eld_lcP (gH im) (ev_fld k_State (by decide) (ev_var rfl) (x3 _ _ h1) rfl) (p2.ext x3) (by have := hs.h.len; omega) (fun _ _ => rfl) (fun _ _ => et_true fun _ _ _ q => q) (fun r H4 e4 hr4 => ?_)) (fun r hr => ?_)) (fun l xs H4 hl e4 h4 hd4 => ?_)
  · obtain ⟨y, ey, _⟩ := hs.h.ad r hr4
    obtain ⟨k, i⟩ := r
    have ey : k = .inl y := ey
    subst ey
    have hk := hkc _ hr4
    exact evd_tupD (ds := [.int (led im y), .int (led im i)]) (eda_d (evd_i (ev_led (ev_var rfl) (ev_var rfl) (e4 _ _ hp3) hk.1)) (eda_d (evd_i (ev_led (ev_var rfl) (ev_var rfl) (e4 _ _ hp3) hk.2)) eda_d0)) (show 2 ≤ 100000 by decide)
  · obtain ⟨q, _, rfl⟩ := List.mem_map.mp hr
    rfl
  have x4 := x3.trans e4
  refine isS (evd_mkG (hs.s.move hI hkn) (hs.h.move hI hkc) (rad_l (eld_lcP (gN im) (ev_fld k_State (by decide) (ev_var rfl) (x4 _ _ h1) rfl) (p1.ext x4) (by have := hs.s.len; omega) (fun _ _ => rfl) (fun _ _ => et_true fun _ _ _ q => q) (fun r H5 e5 hr5 => ?_)))
    (ev_EvD (ev_var rfl) fun H5 e5 => ⟨.list _, .lst (sq_of (e5 _ _ h4)) (DpAll.ext e5 hd4), rfl, fun z => nomatch z⟩)) x4 hQ
  obtain ⟨z, ez, _⟩ := hs.s.nm r hr5
  obtain ⟨k, i⟩ := r
  have ez : k = .inr z := ez
  subst ez
  exact evd_tupD (ds := [.str z, .int (led im i)]) (eda_d (evd_s (ev_var rfl)) (eda_d (evd_i (ev_led (ev_var rfl) (ev_var rfl) ((e4.trans e5) _ _ hp3) (hkn _ hr5))) eda_d0)) (show 2 ≤ 100000 by decide)
end
end Kb
set_option Elab.async false
set_option linter.all false
set_option maxRecDepth 100000
set_option maxHeartbeats 4000000
namespace Kb
open PySem PySem.Spec PyProof.Rows L2 L2.DX Evl SrtO Srt
/-- no images of that state -/
inductive ImBad (ns : List (Key × Int)) (cells : List (Int × Int)) : PyData → Prop where
  | n1 {d : PyData} (h : tupD d = none) : ImBad ns cells d
  | n2 (ds : List PyData) (hz : ds.length ≤ 40000) (h : ds.all pairD = false) : ImBad ns cells (.tuple ds)
  | n3 (ds : List PyData) (hz : ds.length ≤ 40000) (h : ds.all pairD = true) (h2 : ds.all (fun r => addrD (pr1 r) && addrD (pr2 r)) = false) : ImBad ns cells (.tuple ds)
  | n4 (im : List (Int × Int)) (hz : im.length ≤ 40000) (ha : ∀ q ∈ im, addrD (.int q.1) = true ∧ addrD (.int q.2) = true) (h : (risV (im.map fun q => V.int q.1) && risV ((srtI (im.map (·.2))).map V.int)) = false) : ImBad ns cells (rowsD (im.map cI))
section
variable {P : Program} {w : World} {K : PySem.W.Frag} {mg : Str → Option Value} {base : Heap} {H : Hp} {v : V} {d : PyData} {σ : L2.St} {te tl ta tb : TE} {C BR BN TM UN : Addr} {ns cs rs : List (Key × Int)}
def spMovedState (K : PySem.W.Frag) (C BR : Addr) : Sp := fun vs H Q E => ∃ v u, vs = [v, u] ∧ ((∃ d, Dp K H v d ∧ Rs E H BR [("row", v), ("what", .str "state")]) ∨
  ∃ a ns cells du, v = .ref a ∧ StG K H C a ns (cells.map cI) ∧ ns.length + 2 * cells.length < 64 ∧ Dp K H u du ∧ (((ImBad ns cells (asTup du) ∨ ∃ im, asTup du = rowsD (im.map cI) ∧ ((tupD du).isSome = true → Pd K H u du) ∧ ImOk im ∧ covB im (valsI (intsOf ns cells)) = false) ∧ Rs E H BR [("row", u), ("what", .str "images")]) ∨
    ∃ im, asTup du = rowsD (im.map cI) ∧ ((tupD du).isSome = true → Pd K H u du) ∧ ImOk im ∧ covB im (valsI (intsOf ns cells)) = true ∧ GivesS K C Q H (ns.map (gN im)) (srtR ((cells.map cI).map (gH im)))))
theorem kn_of_cov {im : List (Int × Int)} {cells : List (Int × Int)} (hc : covB im (valsI (intsOf ns cells)) = true) {x : Int} (hx : x ∈ intsOf ns cells) (h0 : 0 ≤ x) : Kn im x := by
  rcases Int.lt_or_eq_of_le h0 with h | h
  · have := List.all_eq_true.mp hc x ((vals_mem _ _).mpr ⟨hx, h⟩)
    exact .inr (of_decide_eq_true this)
  · exact .inl h.symm
theorem kn_st {im : List (Int × Int)} {cells : List (Int × Int)} (hs : SG ns) (hh : HG (cells.map cI)) (hc : covB im (valsI (intsOf ns cells)) = true) : (∀ q ∈ ns, Kn im q.2) ∧ ∀ q ∈ cells.map cI, Kn im (kx q.1) ∧ Kn im q.2 := by
  refine ⟨fun q hq => kn_of_cov hc (List.mem_append_left _ (List.mem_map.mpr ⟨q, hq, rfl⟩)) (hs.vl q hq).1, fun q hq => ?_⟩
  obtain ⟨c, hcm, rfl⟩ := List.mem_map.mp hq
  obtain ⟨a, ea, a1, _⟩ := hh.ad _ hq
  have ea : (Sum.inl c.1 : Key) = .inl a := ea
  have ea := Sum.inl.inj ea
  have m1 : c.1 ∈ intsOf ns cells := List.mem_append_right _ (List.mem_flatMap.mpr ⟨c, hcm, by simp⟩)
  have m2 : c.2 ∈ intsOf ns cells := List.mem_append_right _ (List.mem_flatMap.mpr ⟨c, hcm, by simp⟩)
  exact ⟨show Kn im c.1 from kn_of_cov hc m1 (by omega), kn_of_cov hc m2 (hh.vl _ hq).1⟩
theorem ok_moved_state (B : Bi mg) (g_need_state : Gv P w K mg base (L2.CX P w) 3 "need_state" ["what", "value"] (spNeed K C BR)) (g_are_images : Gv P w K mg base CX0 3 "are_images" ["state", "value"] (spImages K C)) (g_moved_by : Gv P w K mg base (L2.CX P w) 7 "moved_by" ["state", "images"] (spMovedBy K C))
    (x_BadRow : XC P w K mg base "BadRow" BR ["self", "what", "row"] (spI2 BR "what" "row")) (D : Df K mg "moved_state" s_moved_state ["state", "images"]) :
    Gv P w K mg base (L2.CX P w) 8 "moved_state" ["state", "images"] (spMovedState K C BR) := by
  have nd := sc_moved_state.nd
  refine D.gvX sc_moved_state (fun vs H Q E h => ?_) (fun f cdv A outer s H vs Q E hr h => ?_)
  · obtain ⟨v, t, rfl, _⟩ := h
    rfl
  refine ⟨_, (pss_cons (ps_expr (pe_cg g_need_state hr rfl (passes_call (takes_of rfl rfl rfl rfl) (fun _ _ _ _ h => h)) (pa_cons pe_str (pa_cons (pv 0) pa_nil))))
    (pss_cons (ps_set (i := 2) nd rfl (.inl rfl) (pe_ifExp (pt_val (pe_callB (id := "isinstance") (r := rIsi K) call_isi rfl B.isi (by decide +kernel) (pa_cons (pv 1) (pa_cons (pe_bltn (v := .ty "list") rfl B.list (by decide +kernel) rfl) pa_nil)))) (pe_callTy (r := rTupP K) call_tupleP rfl B.tuple (by decide +kernel) (pa_cons (pv 1) pa_nil)) (pv 1)))
    (pss_cons (ps_if (pt_not (pt_val (pe_cg g_are_images hr rfl pass0 (pa_cons (pv 0) (pa_cons (pv 2) pa_nil))))) (pss_one (ps_raise rfl (takes_of rfl rfl rfl rfl) (pmk_xc x_BadRow hr rfl (pa_cons pe_str (pa_cons (pv 1) pa_nil))))) pss_nil)
    (pss_one (ps_ret (pe_cg g_moved_by hr rfl (passes_call (takes_of rfl rfl rfl rfl) (fun _ _ _ _ h => h)) (pa_cons (pv 0) (pa_cons (pv 2) pa_nil)))))))), ?_⟩
  obtain ⟨v, u, rfl, h⟩ := h
  rcases h with ⟨d, hd, hR⟩ | ⟨a, ns, cells, du, rfl, hs, h64, hdu, h⟩
  · exact r_seq fun _ => r_drop (rx_call (ea_cons ev_c (ea_cons (ev_var rfl) ea_nil)) fun H1 e1 Q => ⟨_, _, rfl, .inr ⟨d, Dp.ext e1 hd, hR.ext e1⟩⟩)
  obtain ⟨dx, v1, v2, h1, p1, p2⟩ := hs.parts
  refine q_drop (v := .ref a) (ev_call (ea_cons ev_c (ea_cons (ev_var rfl) ea_nil)) (sp_need_ok h1)) (fun H1 e1 => ?_)
  refine qd_asg (evd_known rfl (Dp.ext e1 hdu)) (fun x H2 e2 ⟨hk, hkp⟩ => ?_)
  have e12 := e1.trans e2
  have toPd : ∀ {im : List (Int × Int)}, asTup du = rowsD (im.map cI) → ((tupD du).isSome = true → Pd K H u du) → Pd K H2 x (asTup du) := fun {im} e hp => by
    rcases hkp (fun z => (hp z).ext e1) with z | z
    · exact z
    · rw [e] at z
      cases z
  rcases h with ⟨hb, hR⟩ | ⟨im, ed, hp, hI, hc, hQ⟩
  · refine q_when (b := !false) (et_not (et_B (ev_call (z := .bl false) (ea_cons (ev_var rfl) (ea_cons (ev_var rfl) ea_nil)) (fun H3 e3 Q q E => ⟨a, x, ns, cells, asTup du, rfl, hs.m.ext (e12.trans e3), h64, Dp.ext e3 hk, ?_⟩)))) (fun _ H3 e3 => rs_2 (ea_cons ev_c (ea_cons (ev_var rfl) ea_nil)) (hR.ext (e12.trans e3))) (fun z => nomatch z)
    rcases hb with hb | ⟨im, ed, hp, hI, hc⟩
    · have key : ∀ d, ImBad ns cells d → ((((tupD d = none ∨ ∃ ds, d = .tuple ds ∧ ds.length ≤ 40000 ∧ ds.all pairD = false) ∧ ∀ H', Ex H3 H' → Q (.bl false) H') ∨
          ((∃ ds, d = .tuple ds ∧ ds.length ≤ 40000 ∧ ds.all pairD = true ∧ ds.all (fun r => addrD (pr1 r) && addrD (pr2 r)) = false) ∧ ∀ H', Ex H3 H' → Q (.bl false) H') ∨
          ((∃ im : List (Int × Int), d = rowsD (im.map cI) ∧ im.length ≤ 40000 ∧ (∀ q ∈ im, addrD (.int q.1) = true ∧ addrD (.int q.2) = true) ∧ (risV (im.map fun q => V.int q.1) && risV ((srtI (im.map (·.2))).map V.int)) = false) ∧ ∀ H', Ex H3 H' → Q (.bl false) H') ∨
          (∃ im : List (Int × Int), d = rowsD (im.map cI) ∧ Pd K H3 x d ∧ ImOk im ∧ ∀ H', Ex H3 H' → Q (.bl (covB im (valsI (intsOf ns cells)))) H'))) := fun d hb => by
        cases hb with
        | n1 h => exact .inl ⟨.inl h, fun H' e => q H' e⟩
        | n2 ds hz h => exact .inl ⟨.inr ⟨ds, rfl, hz, h⟩, fun H' e => q H' e⟩
        | n3 ds hz h h2 => exact .inr (.inl ⟨⟨ds, rfl, hz, h, h2⟩, fun H' e => q H' e⟩)
        | n4 im hz ha h => exact .inr (.inr (.inl ⟨⟨im, rfl, hz, ha, h⟩, fun H' e => q H' e⟩))
      exact key _ hb
    · exact .inr (.inr (.inr ⟨im, ed, (toPd ed hp).ext e3, hI, fun H' e => by rw [hc]; exact q H' e⟩))
  · refine q_when (b := !true) (et_not (et_B (ev_call (z := .bl true) (ea_cons (ev_var rfl) (ea_cons (ev_var rfl) ea_nil)) (fun H3 e3 Q q E => ⟨a, x, ns, cells, asTup du, rfl, hs.m.ext (e12.trans e3), h64, Dp.ext e3 hk, .inr (.inr (.inr ⟨im, ed, (toPd ed hp).ext e3, hI, fun H' e => by rw [hc]; exact q H' e⟩))⟩)))) (fun z => nomatch z) (fun _ H3 e3 => ?_)
    obtain ⟨k1, k2⟩ := kn_st hs.s hs.h hc
    have hp2 := toPd ed hp
    rw [ed] at hp2
    exact isS (evd_call (ea_cons (ev_var rfl) (ea_cons (ev_var rfl) ea_nil)) (fun H5 e5 Q q E => ⟨a, x, ns, cells.map cI, im, rfl, hs.ext ((e12.trans e3).trans e5), hp2.ext (e3.trans e5), hI, k1, k2, fun a' H6 e6 hst => q _ _ e6 ⟨a', rfl, hst⟩⟩)) (e12.trans e3) hQ
end
end Kb
set_option Elab.async false
set_option linter.all false
set_option maxRecDepth 100000
set_option maxHeartbeats 4000000
namespace Kb
open PySem PySem.Spec PyProof.Rows L2 L2.DX Evl SrtO Srt
def spLImages (K : PySem.W.Frag) : Sp := fun vs H Q _ => ∃ (p : Addr × Addr) (v : V) (ns : List (Key × Int)) (cells : List (Int × Int)), vs = [.ref p.1, v] ∧ Pen H p ∧ LS K H v ns (cells.map cI) ∧ ns.length + 2 * cells.length ≤ 30 ∧ (∀ x ∈ intsOf ns cells, x ≤ 1000000) ∧
  ∀ (im : List (Int × Int)) (u : V) (H' : Hp), ImOk im → covB im (valsI (intsOf ns cells)) = true → im.length ≤ 31 → (∀ q ∈ im, q.2 ≤ 65) → Px p H H' → Pd K H' u (rowsD (im.map cI)) → Q u H'
theorem ers_map {α β : Type} (f : α → β) (l : List α) (j : Nat) : (l.map f).eraseIdx j = (l.eraseIdx j).map f := by
  rw [List.eraseIdx_eq_take_drop_succ, List.eraseIdx_eq_take_drop_succ, List.map_append, List.map_take, List.map_drop]
theorem rng_nodup (n : Nat) : ((List.range n).map fun i : Nat => (1 + (i : Int))).Nodup := by
  refine List.pairwise_map.mpr ((List.nodup_range (n := n)).imp fun {a b} ne e => ne ?_)
  omega
section
variable {P : Program} {w : World} {K : PySem.W.Frag} {mg : Str → Option Value} {base : Heap} {H : Hp} {σ : L2.St} {te tl ta tb : TE}
theorem tup2_t {Q : VK} (h : ta σ H fun x H1 => tb σ H1 fun y H2 => [x, y].length ≤ sizeLine ∧ ∀ t, H2 t = none → Q (.ref t) (upd H2 t (.tup [x, y]))) : tTup (tCons ta (tCons tb tNil)) σ H Q := h
theorem q_forLs {l : Addr} {xs : List V} {g : TG} {tu tz : TS} {D : Ends} (h : Ev tl σ H (.ref l)) (hl : H l = some (.lst xs))
    (k : ∀ H1, Ex H H1 → ∃ Pv : Nat → L2.St → Hp → Prop, Pv 0 σ H1 ∧ (∀ i σ' H', i ≤ xs.length → Pv i σ' H' → SqL K H' l xs) ∧
      (∀ i x σ' H', xs[i]? = some x → Pv i σ' H' → g x σ' H' fun σ2 H2 => tu { ({ D with nx := tz D } : Ends) with nx := Pv (i + 1), ct := Pv (i + 1), bk := tz D } σ2 H2) ∧ (∀ σ' H', Pv xs.length σ' H' → tz D σ' H')) : tSeq (tFor (iSeq K tl) g tu) tz D σ H :=
  .inl (h H (Ex.refl H) _ fun H1 e1 => by
    obtain ⟨Pv, h0, h1, h2, h3⟩ := k H1 e1
    exact ⟨l, rfl, ⟨xs, sq_of (e1 _ _ hl)⟩, for_list (D := { D with nx := tz D }) Pv h0 h1 h2 h3⟩)
theorem ok_law_images (B : Bi mg) (g__law_draw : Gv P w K mg base CX0 1 "_law_draw" ["pen", "many"] spDraw) (g__law_unlike : Gv P w K mg base CX0 1 "_law_unlike" ["row"] (spUnlike K)) (g__law_values : Gv P w K mg base CX0 2 "_law_values" ["state"] (spLVals K))
    (D : Df K mg "_law_images" s__law_images ["pen", "state"]) : Gv P w K mg base CX0 3 "_law_images" ["pen", "state"] (spLImages K) := by
  have nd := sc__law_images.nd
  refine D.gv sc__law_images (fun vs H Q E h => ?_) (fun f cdv A outer s H vs Q E hr h => ⟨_, (pss_cons (ps_set (i := 2) nd rfl (.inl rfl) (pe_cg g__law_unlike hr rfl pass0 (pa_cons (pe_op (r := rAdd K) opA_add (pe_cg g__law_values hr rfl pass0 (pa_cons (pv 1) pa_nil)) (pe_lst (pa_cons (pe_op (r := rAdd K) opA_add pe_int (pe_cg g__law_draw hr rfl pass0 (pa_cons (pv 0) (pa_cons pe_int pa_nil)))) pa_nil))) pa_nil)))
    (pss_cons (ps_par (i := 3) (j := 4) rfl nd rfl rfl (by decide) rfl rfl (pa_cons (pe_lst pa_nil) (pa_cons (pe_lc (own := [("value", 5)]) rfl nd (pi_range2 rfl B.range (pa_cons pe_int (pa_cons (pe_op (r := rAdd K) opA_add (pe_op opA_mul pe_int (pe_callB (r := rLen K) callA_len rfl B.len (by decide +kernel) (pa_cons (pv 2) pa_nil))) pe_int) pa_nil))) (blk_ok (by kernel_rfl)) (fun _ _ _ _ _ => (pg_name (i := 5) nd rfl (.inl rfl))) (fun _ _ _ _ _ => pts_nil) (fun _ _ _ _ _ => (pv 5))) pa_nil)) rfl)
    (pss_cons (ps_for PassesOwn.never rfl (piA_seq (pv 2)) (pg_name (i := 5) nd rfl (.inl rfl)) (pss_one (ps_expr (pe_bmK (K := K) rfl PySem.F.plainAttrs_list PySem.F.slot_list_append PySem.F.type_list_append mt_append (pv 3) (pa_cons (pe_tup (pa_cons (pv 5) (pa_cons (pe_bmK (K := K) rfl PySem.F.plainAttrs_list PySem.F.slot_list_pop PySem.F.type_list_pop mt_popAt (pv 4) (pa_cons (pe_cg g__law_draw hr rfl pass0 (pa_cons (pv 0) (pa_cons (pe_callB (r := rLen K) callA_len rfl B.len (by decide +kernel) (pa_cons (pv 4) pa_nil)) pa_nil))) pa_nil)) pa_nil))) pa_nil)))))
    (pss_one (ps_ret (pe_callTy (r := rTupP K) call_tupleP rfl B.tuple (by decide +kernel) (pa_cons (pv 3) pa_nil))))))), ?_⟩)
  · obtain ⟨p, v, ns, cells, rfl, _⟩ := h
    rfl
  obtain ⟨p, v, ns, cells, rfl, hp, hls, h30, hmax, hQ⟩ := h
  obtain ⟨vs0, hvs0⟩ : ∃ vs0, vs0 = valsI (intsOf ns cells) := ⟨_, rfl⟩
  have hvl : vs0.length ≤ 30 := by
    have := vals_len (intsOf ns cells)
    rw [intsOf_len, ← hvs0] at this
    omega
  refine qr_asgL hp (Ψ := fun xs _ => ∃ r : Int, xs = (uniqI (vs0 ++ [r])).map V.int ∧ 1 ≤ r ∧ r ≤ 9) (erl_callL (Ψ := fun xs _ => ∃ ys, xs = vs0.map V.int ++ ys ∧ ∃ r : Int, ys = [.int r] ∧ 1 ≤ r ∧ r ≤ 9)
    (erl_catL (fun H2 x2 => by rw [hvs0]; exact el_call (ea_cons (ev_var rfl) ea_nil) (fun H3 e3 Q q E => ⟨v, ns, cells, rfl, (hls.px hp x2).ext e3, by omega, q⟩))
      (erl_lst ((era1 (er_op1 (f := fun z => ∃ r : Int, z = .int r ∧ 1 ≤ r ∧ r ≤ 9) (fun H2 x2 => ev_c) (er_draw (m := 9) (er_eva fun H2 x2 => ea_cons (ev_var rfl) (ea_cons ev_c ea_nil)) (by decide) (by decide)) (fun y H2 x2 ⟨r, hr, r0, r1⟩ => ⟨.int (1 + r), by rw [hr]; exact rv_add, 1 + r, rfl, by omega, by omega⟩))).imp (fun vs H2 x2 ⟨z, hz, r, hr, h⟩ => ⟨r, by rw [hz, hr], h⟩))
        (fun vs H2 ⟨r, e, _⟩ => by rw [e]; exact (by decide : 1 ≤ 100000)) (fun _ _ _ _ _ h => h)) (fun ys H2 ⟨r, e, _⟩ => by rw [e, List.length_map]; show vs0.length + 1 ≤ 100000; omega) (fun _ _ _ _ _ h => h))
    (fun m xs H2 x2 h2 ⟨ys, e, r, e2, hr⟩ Q q => ⟨m, rfl, .inl ⟨vs0 ++ [r], by rw [e, e2] at h2; exact sq_of (by rw [h2]; simp), by simp; omega, fun l2 H3 hl3 e3 h3 => q l2 _ H3 hl3 (Px.of x2.pen e3) h3 ⟨r, rfl, hr⟩⟩⟩)) (fun ls xs H1 hls1 x1 h1 ⟨r, hxs, r1, r9⟩ => ?_)
  obtain ⟨ss, hss⟩ : ∃ ss, ss = uniqI (vs0 ++ [r]) := ⟨_, rfl⟩
  rw [hxs, ← hss] at h1
  have hp1 := x1.pen
  have sasc : ss.Pairwise (· < ·) := by rw [hss]; exact uniq_lt _
  have smem : ∀ x, x ∈ ss ↔ x ∈ vs0 ∨ x = r := fun x => by
    rw [hss, uniq_mem, List.mem_append, List.mem_singleton]
  have slen : ss.length ≤ 31 := by
    have z1 := (srt_perm (ddI [] (vs0 ++ [r]))).length_eq
    have z2 := dd_len (vs0 ++ [r]) []
    rw [List.length_append] at z2
    simp only [List.length_nil, List.length_cons] at z2
    rw [hss]
    unfold uniqI
    omega
  have srng : ∀ x ∈ ss, 1 ≤ x ∧ x ≤ 1000000 := fun x hx => by
    rcases (smem x).mp hx with h | h
    · rw [hvs0, vals_mem] at h
      have := hmax x h.1
      omega
    · omega
  obtain ⟨n, hn⟩ : ∃ n, n = 2 * ss.length + 3 := ⟨_, rfl⟩
  obtain ⟨rg, hrg⟩ : ∃ rg : List Int, rg = (List.range n).map fun i : Nat => (1 + (i : Int)) := ⟨_, rfl⟩
  have rgl : rg.length = n := by rw [hrg, List.length_map, List.length_range]
  have rgm : ∀ x ∈ rg, 1 ≤ x ∧ x ≤ n := fun x hx => by
    rw [hrg] at hx
    obtain ⟨i, hi, rfl⟩ := List.mem_map.mp hx
    have := List.mem_range.mp hi
    omega
  refine q_parLL (el_lst ea_nil (Nat.zero_le _)) (el_is (ys := rg.map V.int) (el_lcR2 (n := n) (lo := 1) (fun _ => true) (fun i => .int (1 + (i : Int))) (ea_cons ev_c (ea_cons (ev_is (ev_op (ev_op ev_c (ev_lenL (ev_var rfl) (sq_of h1)) (rv_l (rv_I (Or.inr (by rw [List.length_map]; omega))))) ev_c rv_add) (by rw [List.length_map]; congr 1; omega)) ea_nil)) (by decide) (by omega) (fun _ => rfl) (fun i H2 e2 _ => et_true fun _ _ _ q => q) (fun i H2 e2 _ _ => ev_var rfl))
    (by rw [hrg, List.map_map]; unfold given; rw [List.filter_eq_self.mpr fun _ _ => rfl]; rfl)) (fun a b H2 ha hb hab e2 h2a h2b => ?_)
  have ha0 : H a = none := Px.fresh hp x1 ha
  have hb0 : H b = none := Px.fresh hp x1 hb
  refine q_forLs (l := ls) (xs := ss.map V.int) (ev_var rfl) (e2 _ _ h1) (fun H3 e3 => ⟨fun i σ' H' => ∃ o fs im left, σ' = [some (.ref p.1), some v, some (.ref ls), some (.ref a), some (.ref b), o] ∧ Px p H H' ∧ H' ls = some (.lst (ss.map V.int)) ∧ H' a = some (.lst fs) ∧ DpAll K H' fs (((im : List (Int × Int)).map cI).map rowD) ∧ H' b = some (.lst ((left : List Int).map V.int)) ∧
    im.map (·.1) = ss.take i ∧ (im.map (·.2) ++ left).Perm rg, ⟨none, [], [], rg, rfl, x1.ex (e2.trans e3), e3 _ _ (e2 _ _ h1), e3 _ _ h2a, .nil, e3 _ _ h2b, by rw [List.take_zero]; rfl, List.Perm.refl _⟩, (fun i σ' H' _ ⟨_, _, _, _, _, _, h, _⟩ => sq_of h), (fun i x σ' H' hx pv => ?_), (fun σ' H' pv => ?_)⟩)
  · obtain ⟨o, fs, im, left, rfl, hx', hls', hfs, hdf, hlf, him, hperm⟩ := pv
    rw [List.getElem?_map] at hx
    cases hsx : ss[i]? with
    | none =>
      rw [hsx] at hx
      cases hx
    | some y =>
    rw [hsx] at hx
    cases hx
    have hi : i < ss.length := (List.getElem?_eq_some_iff.mp hsx).1
    have liml : im.length = i := by
      have := congrArg List.length him
      rw [List.length_map, List.length_take] at this
      omega
    have hlen : im.length + left.length = n := by
      have := hperm.length_eq
      rw [List.length_append, List.length_map, rgl] at this
      exact this
    have hpos : 0 < left.length := by omega
    have hap : a ≠ p.1 := fun z => by
      obtain ⟨kvs, hk⟩ := hp.get
      rw [z, hk] at ha0
      cases ha0
    have hbp : b ≠ p.1 := fun z => by
      obtain ⟨kvs, hk⟩ := hp.get
      rw [z, hk] at hb0
      cases hb0
    have hlsa : ls ≠ a := fun z => by
      rw [z, ha] at h1
      cases h1
    have hlsb : ls ≠ b := fun z => by
      rw [z, hb] at h1
      cases h1
    have lfs : fs.length = i := by rw [dpAll_len hdf, List.length_map, List.length_map, liml]
    show tDrop (tBM K "list" rAppend (tVar 3) (tCons _ tNil)) _ _ _
    refine s_appG (ev_var rfl) (sq_of hfs) (fun H4 e4 => ?_)
    refine tup2_t ((ev_var (i := 5) (σ := [some (.ref p.1), some v, some (.ref ls), some (.ref a), some (.ref b), some (.int y)]) (v := .int y) rfl) H4 (Ex.refl H4) _ fun H5 e5 => ?_)
    refine t_pop (ev_var rfl) (sq_of ((e4.trans e5) _ _ hlf)) fun H6 e6 => ?_
    have e46 := (e4.trans e5).trans e6
    have x6 := hx'.ex e46
    have hlf6 := e46 _ _ hlf
    refine er_draw (σ := [some (.ref p.1), some v, some (.ref ls), some (.ref a), some (.ref b), some (.int y)]) (p := p) (m := ((left.map V.int).length : Int)) (fun H7 x7 Q q => (ev_var (i := 0) rfl) H7 (Ex.refl H7) _ fun H8 e8 => (ev_lenL (K := K) (ev_var (i := 4) rfl) (sq_of (x7.at_ x6.pen hlf6 (fun _ z => nomatch z)))) H8 e8 _ fun H9 e9 => q _ _ (Px.of x7.pen (e8.trans e9)) rfl) (by rw [List.length_map]; omega) (by rw [List.length_map]; omega) H6 (Px.refl x6.pen) _ fun u H7 x7 hu => ?_
    obtain ⟨r', rfl, q0, q1⟩ := hu
    rw [List.length_map] at q1
    have hr2 : r'.toNat < left.length := by omega
    have hlf7 : H7 b = some (.lst (left.map V.int)) := x7.at_ x6.pen hlf6 (fun _ z => nomatch z)
    have hfs7 : H7 a = some (.lst fs) := x7.at_ x6.pen (e46 _ _ hfs) (fun _ z => nomatch z)
    have hls7 : H7 ls = some (.lst (ss.map V.int)) := x7.at_ x6.pen (e46 _ _ hls') (fun _ z => nomatch z)
    have hd7 : DpAll K H7 fs ((im.map cI).map rowD) := x7.dps x6.pen (DpAll.ext e46 hdf)
    have x07 := x6.trans x7
    refine ⟨left.map V.int, r', r'.toNat, .int left[r'.toNat], rfl, hlf7, by omega, by omega, ?_, by rw [List.getElem?_map, List.getElem?_eq_getElem hr2]; rfl, ?_⟩
    · rw [List.length_map]
      unfold seqIndex?
      simp
      omega
    have sm1 : Sm H7 (upd H7 b (.lst ((left.map V.int).eraseIdx r'.toNat))) := Sm.mu hlf7
    refine ⟨sz_of (show 2 ≤ 100000 by decide), fun t ht => ?_⟩
    have e8 := Ex.new (o := .tup [V.int y, .int left[r'.toNat]]) ht
    have ha8 : upd (upd H7 b (.lst ((left.map V.int).eraseIdx r'.toNat))) t (.tup [V.int y, .int left[r'.toNat]]) a = some (.lst fs) := e8 _ _ (by rw [upd_ne hab]; exact hfs7)
    have hb8 : upd (upd H7 b (.lst ((left.map V.int).eraseIdx r'.toNat))) t (.tup [V.int y, .int left[r'.toNat]]) b = some (.lst ((left.eraseIdx r'.toNat).map V.int)) := e8 _ _ (by rw [upd_same, ers_map])
    have hl8 : upd (upd H7 b (.lst ((left.map V.int).eraseIdx r'.toNat))) t (.tup [V.int y, .int left[r'.toNat]]) ls = some (.lst (ss.map V.int)) := e8 _ _ (by rw [upd_ne hlsb]; exact hls7)
    have hnl : noLs ((im.map cI).map rowD) = true := noL_rows (im.map cI)
    have hd8 : DpAll K (upd (upd H7 b (.lst ((left.map V.int).eraseIdx r'.toNat))) t (.tup [V.int y, .int left[r'.toNat]])) fs ((im.map cI).map rowD) := DpAll.ext e8 (sm1.dps hd7 hnl)
    have hrow : Dp K (upd (upd H7 b (.lst ((left.map V.int).eraseIdx r'.toNat))) t (.tup [V.int y, .int left[r'.toNat]])) (.ref t) (rowD (cI (y, left[r'.toNat]))) := .tup (st_of upd_same) (.cons (.int _) (.cons (.int _) .nil))
    have xp : Px p H (upd (upd H7 b (.lst ((left.map V.int).eraseIdx r'.toNat))) t (.tup [V.int y, .int left[r'.toNat]])) := (Px.put hp x07 hb0).ex e8
    revert ha8 hb8 hl8 hd8 hrow xp
    generalize upd (upd H7 b (.lst ((left.map V.int).eraseIdx r'.toNat))) t (.tup [V.int y, .int left[r'.toNat]]) = G
    intro ha8 hb8 hl8 hd8 hrow xp
    refine ⟨fs, ha8, sz_lt (by omega), ?_⟩
    have sm2 : Sm G (upd G a (.lst (fs ++ [.ref t]))) := Sm.mu ha8
    refine ⟨_, fs ++ [.ref t], im ++ [(y, left[r'.toNat])], left.eraseIdx r'.toNat, rfl, Px.put hp xp ha0, by rw [upd_ne hlsa]; exact hl8, upd_same, ?_, by rw [upd_ne (Ne.symm hab)]; exact hb8, ?_, ?_⟩
    · have key := sm2.dps (dpAll_app hd8 (.cons hrow .nil)) (by
        have := noL_rows (im.map cI ++ [cI (y, left[r'.toNat])])
        have this : noLs ((im.map cI ++ [cI (y, left[r'.toNat])]).map rowD) = true := this
        rw [List.map_append] at this
        exact this)
      rw [List.map_append, List.map_append]
      exact key
    · rw [List.map_append, him, List.take_succ, hsx]
      rfl
    · refine List.Perm.trans ?_ hperm
      rw [List.map_append, List.append_assoc]
      exact List.Perm.append_left _ (perm_pop hr2)
  · obtain ⟨o, fs, im, left, rfl, hx', hls', hfs, hdf, hlf, him, hperm⟩ := pv
    rw [List.length_map, List.take_length] at him
    have hnd : (im.map (·.2) ++ left).Nodup := hperm.nodup_iff.mpr (by rw [hrg]; exact rng_nodup n)
    have hmem : ∀ q ∈ im, q.2 ∈ rg := fun q hq => hperm.mem_iff.mp (List.mem_append_left _ (List.mem_map.mpr ⟨q, hq, rfl⟩))
    have hlim : im.length = ss.length := by
      have := congrArg List.length him
      rw [List.length_map] at this
      exact this
    have hI : ImOk im := by
      refine ⟨fun q hq => ⟨srng _ (by rw [← him]; exact List.mem_map.mpr ⟨q, hq, rfl⟩), ?_⟩, by rw [him]; exact sasc, (List.nodup_append.mp hnd).1, by omega⟩
      have := rgm _ (hmem q hq)
      omega
    refine sd_ret (evd_tupP (ev_var rfl) (sq_of hfs) hdf) (fun u H4 e4 hu => hQ im u H4 hI ?_ (by omega) (fun q hq => by have := rgm _ (hmem q hq); omega) (hx'.ex e4) hu)
    unfold covB
    rw [List.all_eq_true]
    intro x hx
    refine decide_eq_true ?_
    rw [him]
    exact (smem x).mpr (.inl (by rw [hvs0]; exact hx))
end
end Kb
set_option Elab.async false
set_option linter.all false
set_option maxRecDepth 100000
set_option maxHeartbeats 8000000
namespace Kb
open PySem PySem.Spec PyProof.Rows L2 L2H LamX Evl
/-! ### the law's catch and raise_so, the fields known by a property (printed by gen0p.py from the own texts M8, M9) -/
def RsP (E : XK) (H : Hp) (C : Addr) (Ψ : List (Str × V) → Hp → Prop) : Prop := ∀ fs d H', H d = none → Ex H H' → Ψ fs H' → H' d = some (.xd fs) → E (.ref C) (some d) H'
def RsesP (tl : Hp → VK → XK → Prop) (H : Hp) (C : Addr) (Ψ : List (Str × V) → Hp → Prop) : Prop := ∀ (Q : VK) (E : XK), RsP E H C Ψ → tl H Q E
def spCaughtP (P : Program) (w : World) (K : PySem.W.Frag) (mg : Str → Option Value) (base : Heap) (k : Nat) (cA : Nat → Addr) : SpZ := fun s fr vs H Q => ∃ f tl c Ψ, vs = [.ref f] ∧ LamAt P w K mg base k fr s H f tl ∧ c < 8 ∧ RsesP tl H (cA c) Ψ ∧
  ∀ fs G, Ex H G → Ψ fs G → ∃ xs, Fo c fs xs ∧ ∀ t H', Ex G H' → H' t = some (.tup xs) → Q (.ref t) H'
def RsItemP (P : Program) (w : World) (K : PySem.W.Frag) (mg : Str → Option Value) (base : Heap) (k : Nat) (cA : Nat → Addr) (s : Shared) (fr : List Addr) (H : Hp) (x : V) : Prop :=
  ∃ (tup f due : Addr) (tl : Hp → VK → XK → Prop) (c : Nat) (Ψ : List (Str × V) → Hp → Prop) (ys : List V) (v : V) (es : List PyData) (d : PyData), x = .ref tup ∧ SqT K H tup [.ref f, .ref due] ∧ LamAt P w K mg base k fr s H f tl ∧ c < 8 ∧ (∀ H', Ex H H' → RsesP tl H' (cA c) Ψ) ∧
    (∀ fs G, Ex H G → Ψ fs G → ∃ v', Fo c fs (ys ++ [v']) ∧ Dp K G v' d) ∧ SqT K H due (ys ++ [v]) ∧ DpAll K H ys es ∧ SeqAt.shaped (.tuple es) = true ∧ Dp K H v d ∧ d.hasDict = false ∧ Sh d
def spRaiseSoP (P : Program) (w : World) (K : PySem.W.Frag) (mg : Str → Option Value) (base : Heap) (k : Nat) (cA : Nat → Addr) : SpZ := fun s fr vs H Q => ∃ l xs, vs = [.ref l] ∧ SqL K H l xs ∧ (∀ x ∈ xs, RsItemP P w K mg base k cA s fr H x) ∧ ∀ H', Ex H H' → Q (.bl true) H'
section
variable {P : Program} {w : World} {K : PySem.W.Frag} {mg : Str → Option Value} {base : Heap} {HE : Addr} {cA : Nat → Addr} {k : Nat}
theorem RsItem.p {s : Shared} {fr : List Addr} {H : Hp} {x : V} (h : RsItem P w K mg base k cA s fr H x) : RsItemP P w K mg base k cA s fr H x := by
  obtain ⟨tup, f, due, tl, c, fs, ys, v, es, d, e, h1, h2, h3, h4, h5, h6, h7, h8, h9, h10, h11⟩ := h
  refine ⟨tup, f, due, tl, c, fun fs' _ => fs' = fs, ys, v, es, d, e, h1, h2, h3, fun H' e Q E kk => h4 H' e Q E fun d H2 hd e2 hx => kk fs d H2 hd e2 rfl hx, fun fs' G e hf => ?_, h6, h7, h8, h9, h10, h11⟩
  subst hf
  exact ⟨v, h5, Dp.ext e h9⟩
theorem ok_caughtP (B : Bi mg) (T : KX K mg HE cA) (D : Df K mg "_law_caught" s__law_caught ["action"]) : Gz P w K mg base (k + 1) "_law_caught" ["action"] (spCaughtP P w K mg base k cA) := by
  have nd := sc__law_caught.nd
  refine D.gz sc__law_caught (fun s fr vs H Q h => ?_) (fun f0 cdv A outer s H vs Q hr hgd h => ?_)
  · obtain ⟨f, tl, c, Ψ, rfl, _⟩ := h
    rfl
  have hu64 := hu64_of hr
  refine ⟨_, pss_cons (ps_try_as (i := 1) (c := .ref HE) rfl rfl nd rfl rfl ⟨rfl, by decide, .inl T.gHE⟩ L2.takes0 (fun W pn xe tk _ => pss_one (ps_expr (pe_actZ (P := P) (w := w) (K := K) (mg := mg) (base := base) (fr0 := frs outer) (fr := s.heap.objs.size :: frs outer) (s0 := s) (H0 := H) (k := k) (i := 0) (E := fun σ => WE W σ) rfl rfl rfl rfl rfl rfl rfl rfl rfl rfl (fun σ => passAt tk σ) hr rfl (Or.inl rfl))))
    (fun a oe cls d pn hz hf => by exact (pss_cons (ps_set (i := 2) nd rfl (.inl rfl) (pe_lst pa_nil))
      (pss_cons (ps_if (pt_val (pe_callB (id := "isinstance") (r := rIsP K a cls d) (call_isP (a := a) (oe := oe) (d := d) List.mem_cons_self hz hf) rfl B.isi (by decide +kernel) (pa_cons (pv 1) (pa_cons (pe_glob (v := .ref (cA 0)) rfl T.g0 rfl) pa_nil)))) (pss_one (ps_expr (pe_bmK (K := K) rfl PySem.F.plainAttrs_list PySem.F.slot_list_append PySem.F.type_list_append mt_append (pv 2) (pa_cons (pe_tup (pa_cons pe_str (pa_cons (pe_xpK (K := K) rfl (a := a) (d := d) List.mem_cons_self hz hf (pv 1)) pa_nil))) pa_nil)))) pss_nil)
      (pss_cons (ps_if (pt_val (pe_callB (id := "isinstance") (r := rIsP K a cls d) (call_isP (a := a) (oe := oe) (d := d) List.mem_cons_self hz hf) rfl B.isi (by decide +kernel) (pa_cons (pv 1) (pa_cons (pe_glob (v := .ref (cA 1)) rfl T.g1 rfl) pa_nil)))) (pss_one (ps_expr (pe_bmK (K := K) rfl PySem.F.plainAttrs_list PySem.F.slot_list_append PySem.F.type_list_append mt_append (pv 2) (pa_cons (pe_tup (pa_cons pe_str (pa_cons (pe_xpK (K := K) rfl (a := a) (d := d) List.mem_cons_self hz hf (pv 1)) (pa_cons (pe_xpK (K := K) rfl (a := a) (d := d) List.mem_cons_self hz hf (pv 1)) pa_nil)))) pa_nil)))) pss_nil)
      (pss_cons (ps_if (pt_val (pe_callB (id := "isinstance") (r := rIsP K a cls d) (call_isP (a := a) (oe := oe) (d := d) List.mem_cons_self hz hf) rfl B.isi (by decide +kernel) (pa_cons (pv 1) (pa_cons (pe_glob (v := .ref (cA 2)) rfl T.g2 rfl) pa_nil)))) (pss_one (ps_expr (pe_bmK (K := K) rfl PySem.F.plainAttrs_list PySem.F.slot_list_append PySem.F.type_list_append mt_append (pv 2) (pa_cons (pe_tup (pa_cons pe_str (pa_cons (pe_xpK (K := K) rfl (a := a) (d := d) List.mem_cons_self hz hf (pv 1)) (pa_cons (pe_xpK (K := K) rfl (a := a) (d := d) List.mem_cons_self hz hf (pv 1)) pa_nil)))) pa_nil)))) pss_nil)
      (pss_cons (ps_if (pt_val (pe_callB (id := "isinstance") (r := rIsP K a cls d) (call_isP (a := a) (oe := oe) (d := d) List.mem_cons_self hz hf) rfl B.isi (by decide +kernel) (pa_cons (pv 1) (pa_cons (pe_glob (v := .ref (cA 3)) rfl T.g3 rfl) pa_nil)))) (pss_one (ps_expr (pe_bmK (K := K) rfl PySem.F.plainAttrs_list PySem.F.slot_list_append PySem.F.type_list_append mt_append (pv 2) (pa_cons (pe_tup (pa_cons pe_str (pa_cons (pe_xpK (K := K) rfl (a := a) (d := d) List.mem_cons_self hz hf (pv 1)) pa_nil))) pa_nil)))) pss_nil)
      (pss_cons (ps_if (pt_val (pe_callB (id := "isinstance") (r := rIsP K a cls d) (call_isP (a := a) (oe := oe) (d := d) List.mem_cons_self hz hf) rfl B.isi (by decide +kernel) (pa_cons (pv 1) (pa_cons (pe_glob (v := .ref (cA 4)) rfl T.g4 rfl) pa_nil)))) (pss_one (ps_expr (pe_bmK (K := K) rfl PySem.F.plainAttrs_list PySem.F.slot_list_append PySem.F.type_list_append mt_append (pv 2) (pa_cons (pe_tup (pa_cons pe_str (pa_cons (pe_xpK (K := K) rfl (a := a) (d := d) List.mem_cons_self hz hf (pv 1)) pa_nil))) pa_nil)))) pss_nil)
      (pss_cons (ps_if (pt_val (pe_callB (id := "isinstance") (r := rIsP K a cls d) (call_isP (a := a) (oe := oe) (d := d) List.mem_cons_self hz hf) rfl B.isi (by decide +kernel) (pa_cons (pv 1) (pa_cons (pe_glob (v := .ref (cA 5)) rfl T.g5 rfl) pa_nil)))) (pss_one (ps_expr (pe_bmK (K := K) rfl PySem.F.plainAttrs_list PySem.F.slot_list_append PySem.F.type_list_append mt_append (pv 2) (pa_cons (pe_tup (pa_cons pe_str (pa_cons (pe_xpK (K := K) rfl (a := a) (d := d) List.mem_cons_self hz hf (pv 1)) (pa_cons (pe_xpK (K := K) rfl (a := a) (d := d) List.mem_cons_self hz hf (pv 1)) (pa_cons (pe_xpK (K := K) rfl (a := a) (d := d) List.mem_cons_self hz hf (pv 1)) pa_nil))))) pa_nil)))) pss_nil)
      (pss_cons (ps_if (pt_val (pe_callB (id := "isinstance") (r := rIsP K a cls d) (call_isP (a := a) (oe := oe) (d := d) List.mem_cons_self hz hf) rfl B.isi (by decide +kernel) (pa_cons (pv 1) (pa_cons (pe_glob (v := .ref (cA 6)) rfl T.g6 rfl) pa_nil)))) (pss_one (ps_expr (pe_bmK (K := K) rfl PySem.F.plainAttrs_list PySem.F.slot_list_append PySem.F.type_list_append mt_append (pv 2) (pa_cons (pe_tup (pa_cons pe_str (pa_cons (pe_xpK (K := K) rfl (a := a) (d := d) List.mem_cons_self hz hf (pv 1)) pa_nil))) pa_nil)))) pss_nil)
      (pss_cons (ps_if (pt_val (pe_callB (id := "isinstance") (r := rIsP K a cls d) (call_isP (a := a) (oe := oe) (d := d) List.mem_cons_self hz hf) rfl B.isi (by decide +kernel) (pa_cons (pv 1) (pa_cons (pe_glob (v := .ref (cA 7)) rfl T.g7 rfl) pa_nil)))) (pss_one (ps_expr (pe_bmK (K := K) rfl PySem.F.plainAttrs_list PySem.F.slot_list_append PySem.F.type_list_append mt_append (pv 2) (pa_cons (pe_tup (pa_cons pe_str (pa_cons (pe_xpK (K := K) rfl (a := a) (d := d) List.mem_cons_self hz hf (pv 1)) (pa_cons (pe_xpK (K := K) rfl (a := a) (d := d) List.mem_cons_self hz hf (pv 1)) pa_nil)))) pa_nil)))) pss_nil)
      (pss_one (ps_ret (pe_ifExp (pt_cmpR (r := rEqA K) (opA_eq hu64) (pe_callB (r := rLen K) callA_len rfl B.len (by decide +kernel) (pa_cons (pv 2) pa_nil)) pe_int (nomark _)) (pe_ix (r := rIx K) ix_seq (pv 2) pe_int (fun _ _ => rfl)) (pe_tup (pa_cons pe_str pa_nil))))))))))))))))
    (pss_one (ps_ret (pe_tup (pa_cons pe_str pa_nil)))), ?_⟩
  obtain ⟨f, tl, c, Ψ, rfl, hl, hc, hraise, hF⟩ := h
  have hL : s.heap.get? s.heap.objs.size = none := Heap.get?_none_of_le (Nat.le_refl _)
  refine ⟨f, tl, rfl, fun s1 u1 => (hl.deeper hL).move (Ex.refl H) (un_more u1 hL), hraise _ _ fun fs d H1 hd e1 hΨ hx => ⟨true, T.te c hc, fun _ a ha => ?_, fun z => nomatch z⟩⟩
  obtain ⟨xs, hFo, hQ⟩ := hF fs H1 e1 hΨ
  have hx1 : XdAt H1 (some d) := .inr ⟨d, fs, rfl, hx⟩
  refine q_asgL (el_lst ea_nil (Nat.zero_le _)) (fun l H2 hl2 e2 h2 => ?_)
  match c, hc, hFo with
  | 0, hc, hFo =>
    obtain ⟨v0, l0, rfl⟩ := hFo
    refine q_when (b := true) (et_B (ev_isP (ev_var rfl) (T.ex 0 hc) (T.iso 0 0 hc (by decide)) (hx1.same (e2.trans (Ex.refl H2))))) (fun _ H3 e3 => ?_) (fun z => nomatch z)
    refine s_appU (xs := []) (((Ex.refl H2).trans e3) _ _ h2) (ev_var rfl) (eu_tup (ea_cons ev_c (ea_cons (ev_xp (ev_var rfl) (T.xf 0 hc) T.n0name (((Ex.refl H2).trans e3) _ _ (e2 _ _ hx)) l0) ea_nil)) (show 2 ≤ 100000 by decide)) (by decide) (fun t H4 ht e4 h4 => ?_)
    have hd5 : Ex H1 (upd H4 l (.lst ([] ++ [.ref t]))) := (e2.trans (((Ex.refl H2).trans e3).trans e4)).mut hl2
    have hl5 : upd H4 l (.lst ([] ++ [.ref t])) l = some (.lst [.ref t]) := upd_same
    have tl5 : t ≠ l := fun z => by rw [z, (((Ex.refl H2).trans e3) _ _ h2)] at ht; cases ht
    have ht5 : upd H4 l (.lst ([] ++ [.ref t])) t = some (.tup _) := (upd_ne tl5).trans h4
    revert hd5 hl5 ht5
    generalize upd H4 l (.lst ([] ++ [.ref t])) = G
    intro hd5 hl5 ht5
    refine q_when (b := false) (et_B (ev_isP (ev_var rfl) (T.ex 0 hc) (T.iso 0 1 hc (by decide)) (hx1.same (hd5.trans (Ex.refl G))))) (fun z => nomatch z) (fun _ H5 e5 => ?_)
    refine q_when (b := false) (et_B (ev_isP (ev_var rfl) (T.ex 0 hc) (T.iso 0 2 hc (by decide)) (hx1.same (hd5.trans ((Ex.refl G).trans e5))))) (fun z => nomatch z) (fun _ H6 e6 => ?_)
    refine q_when (b := false) (et_B (ev_isP (ev_var rfl) (T.ex 0 hc) (T.iso 0 3 hc (by decide)) (hx1.same (hd5.trans (((Ex.refl G).trans e5).trans e6))))) (fun z => nomatch z) (fun _ H7 e7 => ?_)
    refine q_when (b := false) (et_B (ev_isP (ev_var rfl) (T.ex 0 hc) (T.iso 0 4 hc (by decide)) (hx1.same (hd5.trans ((((Ex.refl G).trans e5).trans e6).trans e7))))) (fun z => nomatch z) (fun _ H8 e8 => ?_)
    refine q_when (b := false) (et_B (ev_isP (ev_var rfl) (T.ex 0 hc) (T.iso 0 5 hc (by decide)) (hx1.same (hd5.trans (((((Ex.refl G).trans e5).trans e6).trans e7).trans e8))))) (fun z => nomatch z) (fun _ H9 e9 => ?_)
    refine q_when (b := false) (et_B (ev_isP (ev_var rfl) (T.ex 0 hc) (T.iso 0 6 hc (by decide)) (hx1.same (hd5.trans ((((((Ex.refl G).trans e5).trans e6).trans e7).trans e8).trans e9))))) (fun z => nomatch z) (fun _ H10 e10 => ?_)
    refine q_when (b := false) (et_B (ev_isP (ev_var rfl) (T.ex 0 hc) (T.iso 0 7 hc (by decide)) (hx1.same (hd5.trans (((((((Ex.refl G).trans e5).trans e6).trans e7).trans e8).trans e9).trans e10))))) (fun z => nomatch z) (fun _ H11 e11 => ?_)
    exact s_ret (ev_if (b := true) (et_test (ev_op (ev_lenL (ev_var rfl) (sq_of (((((((((Ex.refl G).trans e5).trans e6).trans e7).trans e8).trans e9).trans e10).trans e11) _ _ hl5))) ev_c (rv_eqs rfl))) (fun _ => ev_op (ev_var rfl) ev_c (rv_iL (sq_of (((((((((Ex.refl G).trans e5).trans e6).trans e7).trans e8).trans e9).trans e10).trans e11) _ _ hl5)) (i := 0) rfl)) (fun z => nomatch z)) (fun H12 e12 => hQ t H12 ((hd5.trans (((((((((Ex.refl G).trans e5).trans e6).trans e7).trans e8).trans e9).trans e10).trans e11).trans e12))) ((((((((((Ex.refl G).trans e5).trans e6).trans e7).trans e8).trans e9).trans e10).trans e11).trans e12) _ _ ht5))
  | 1, hc, hFo =>
    obtain ⟨v0, v1, l0, l1, rfl⟩ := hFo
    refine q_when (b := false) (et_B (ev_isP (ev_var rfl) (T.ex 1 hc) (T.iso 1 0 hc (by decide)) (hx1.same (e2.trans (Ex.refl H2))))) (fun z => nomatch z) (fun _ H3 e3 => ?_)
    refine q_when (b := true) (et_B (ev_isP (ev_var rfl) (T.ex 1 hc) (T.iso 1 1 hc (by decide)) (hx1.same (e2.trans ((Ex.refl H2).trans e3))))) (fun _ H4 e4 => ?_) (fun z => nomatch z)
    refine s_appU (xs := []) ((((Ex.refl H2).trans e3).trans e4) _ _ h2) (ev_var rfl) (eu_tup (ea_cons ev_c (ea_cons (ev_xp (ev_var rfl) (T.xf 1 hc) T.n1what ((((Ex.refl H2).trans e3).trans e4) _ _ (e2 _ _ hx)) l0) (ea_cons (ev_xp (ev_var rfl) (T.xf 1 hc) T.n1number ((((Ex.refl H2).trans e3).trans e4) _ _ (e2 _ _ hx)) l1) ea_nil))) (show 3 ≤ 100000 by decide)) (by decide) (fun t H5 ht e5 h5 => ?_)
    have hd5 : Ex H1 (upd H5 l (.lst ([] ++ [.ref t]))) := (e2.trans ((((Ex.refl H2).trans e3).trans e4).trans e5)).mut hl2
    have hl5 : upd H5 l (.lst ([] ++ [.ref t])) l = some (.lst [.ref t]) := upd_same
    have tl5 : t ≠ l := fun z => by rw [z, ((((Ex.refl H2).trans e3).trans e4) _ _ h2)] at ht; cases ht
    have ht5 : upd H5 l (.lst ([] ++ [.ref t])) t = some (.tup _) := (upd_ne tl5).trans h5
    revert hd5 hl5 ht5
    generalize upd H5 l (.lst ([] ++ [.ref t])) = G
    intro hd5 hl5 ht5
    refine q_when (b := false) (et_B (ev_isP (ev_var rfl) (T.ex 1 hc) (T.iso 1 2 hc (by decide)) (hx1.same (hd5.trans (Ex.refl G))))) (fun z => nomatch z) (fun _ H6 e6 => ?_)
    refine q_when (b := false) (et_B (ev_isP (ev_var rfl) (T.ex 1 hc) (T.iso 1 3 hc (by decide)) (hx1.same (hd5.trans ((Ex.refl G).trans e6))))) (fun z => nomatch z) (fun _ H7 e7 => ?_)
    refine q_when (b := false) (et_B (ev_isP (ev_var rfl) (T.ex 1 hc) (T.iso 1 4 hc (by decide)) (hx1.same (hd5.trans (((Ex.refl G).trans e6).trans e7))))) (fun z => nomatch z) (fun _ H8 e8 => ?_)
    refine q_when (b := false) (et_B (ev_isP (ev_var rfl) (T.ex 1 hc) (T.iso 1 5 hc (by decide)) (hx1.same (hd5.trans ((((Ex.refl G).trans e6).trans e7).trans e8))))) (fun z => nomatch z) (fun _ H9 e9 => ?_)
    refine q_when (b := false) (et_B (ev_isP (ev_var rfl) (T.ex 1 hc) (T.iso 1 6 hc (by decide)) (hx1.same (hd5.trans (((((Ex.refl G).trans e6).trans e7).trans e8).trans e9))))) (fun z => nomatch z) (fun _ H10 e10 => ?_)
    refine q_when (b := false) (et_B (ev_isP (ev_var rfl) (T.ex 1 hc) (T.iso 1 7 hc (by decide)) (hx1.same (hd5.trans ((((((Ex.refl G).trans e6).trans e7).trans e8).trans e9).trans e10))))) (fun z => nomatch z) (fun _ H11 e11 => ?_)
    exact s_ret (ev_if (b := true) (et_test (ev_op (ev_lenL (ev_var rfl) (sq_of ((((((((Ex.refl G).trans e6).trans e7).trans e8).trans e9).trans e10).trans e11) _ _ hl5))) ev_c (rv_eqs rfl))) (fun _ => ev_op (ev_var rfl) ev_c (rv_iL (sq_of ((((((((Ex.refl G).trans e6).trans e7).trans e8).trans e9).trans e10).trans e11) _ _ hl5)) (i := 0) rfl)) (fun z => nomatch z)) (fun H12 e12 => hQ t H12 ((hd5.trans ((((((((Ex.refl G).trans e6).trans e7).trans e8).trans e9).trans e10).trans e11).trans e12))) (((((((((Ex.refl G).trans e6).trans e7).trans e8).trans e9).trans e10).trans e11).trans e12) _ _ ht5))
  | 2, hc, hFo =>
    obtain ⟨v0, v1, l0, l1, rfl⟩ := hFo
    refine q_when (b := false) (et_B (ev_isP (ev_var rfl) (T.ex 2 hc) (T.iso 2 0 hc (by decide)) (hx1.same (e2.trans (Ex.refl H2))))) (fun z => nomatch z) (fun _ H3 e3 => ?_)
    refine q_when (b := false) (et_B (ev_isP (ev_var rfl) (T.ex 2 hc) (T.iso 2 1 hc (by decide)) (hx1.same (e2.trans ((Ex.refl H2).trans e3))))) (fun z => nomatch z) (fun _ H4 e4 => ?_)
    refine q_when (b := true) (et_B (ev_isP (ev_var rfl) (T.ex 2 hc) (T.iso 2 2 hc (by decide)) (hx1.same (e2.trans (((Ex.refl H2).trans e3).trans e4))))) (fun _ H5 e5 => ?_) (fun z => nomatch z)
    refine s_appU (xs := []) (((((Ex.refl H2).trans e3).trans e4).trans e5) _ _ h2) (ev_var rfl) (eu_tup (ea_cons ev_c (ea_cons (ev_xp (ev_var rfl) (T.xf 2 hc) T.n2what (((((Ex.refl H2).trans e3).trans e4).trans e5) _ _ (e2 _ _ hx)) l0) (ea_cons (ev_xp (ev_var rfl) (T.xf 2 hc) T.n2row (((((Ex.refl H2).trans e3).trans e4).trans e5) _ _ (e2 _ _ hx)) l1) ea_nil))) (show 3 ≤ 100000 by decide)) (by decide) (fun t H6 ht e6 h6 => ?_)
    have hd5 : Ex H1 (upd H6 l (.lst ([] ++ [.ref t]))) := (e2.trans (((((Ex.refl H2).trans e3).trans e4).trans e5).trans e6)).mut hl2
    have hl5 : upd H6 l (.lst ([] ++ [.ref t])) l = some (.lst [.ref t]) := upd_same
    have tl5 : t ≠ l := fun z => by rw [z, (((((Ex.refl H2).trans e3).trans e4).trans e5) _ _ h2)] at ht; cases ht
    have ht5 : upd H6 l (.lst ([] ++ [.ref t])) t = some (.tup _) := (upd_ne tl5).trans h6
    revert hd5 hl5 ht5
    generalize upd H6 l (.lst ([] ++ [.ref t])) = G
    intro hd5 hl5 ht5
    refine q_when (b := false) (et_B (ev_isP (ev_var rfl) (T.ex 2 hc) (T.iso 2 3 hc (by decide)) (hx1.same (hd5.trans (Ex.refl G))))) (fun z => nomatch z) (fun _ H7 e7 => ?_)
    refine q_when (b := false) (et_B (ev_isP (ev_var rfl) (T.ex 2 hc) (T.iso 2 4 hc (by decide)) (hx1.same (hd5.trans ((Ex.refl G).trans e7))))) (fun z => nomatch z) (fun _ H8 e8 => ?_)
    refine q_when (b := false) (et_B (ev_isP (ev_var rfl) (T.ex 2 hc) (T.iso 2 5 hc (by decide)) (hx1.same (hd5.trans (((Ex.refl G).trans e7).trans e8))))) (fun z => nomatch z) (fun _ H9 e9 => ?_)
    refine q_when (b := false) (et_B (ev_isP (ev_var rfl) (T.ex 2 hc) (T.iso 2 6 hc (by decide)) (hx1.same (hd5.trans ((((Ex.refl G).trans e7).trans e8).trans e9))))) (fun z => nomatch z) (fun _ H10 e10 => ?_)
    refine q_when (b := false) (et_B (ev_isP (ev_var rfl) (T.ex 2 hc) (T.iso 2 7 hc (by decide)) (hx1.same (hd5.trans (((((Ex.refl G).trans e7).trans e8).trans e9).trans e10))))) (fun z => nomatch z) (fun _ H11 e11 => ?_)
    exact s_ret (ev_if (b := true) (et_test (ev_op (ev_lenL (ev_var rfl) (sq_of (((((((Ex.refl G).trans e7).trans e8).trans e9).trans e10).trans e11) _ _ hl5))) ev_c (rv_eqs rfl))) (fun _ => ev_op (ev_var rfl) ev_c (rv_iL (sq_of (((((((Ex.refl G).trans e7).trans e8).trans e9).trans e10).trans e11) _ _ hl5)) (i := 0) rfl)) (fun z => nomatch z)) (fun H12 e12 => hQ t H12 ((hd5.trans (((((((Ex.refl G).trans e7).trans e8).trans e9).trans e10).trans e11).trans e12))) ((((((((Ex.refl G).trans e7).trans e8).trans e9).trans e10).trans e11).trans e12) _ _ ht5))
  | 3, hc, hFo =>
    obtain ⟨v0, l0, rfl⟩ := hFo
    refine q_when (b := false) (et_B (ev_isP (ev_var rfl) (T.ex 3 hc) (T.iso 3 0 hc (by decide)) (hx1.same (e2.trans (Ex.refl H2))))) (fun z => nomatch z) (fun _ H3 e3 => ?_)
    refine q_when (b := false) (et_B (ev_isP (ev_var rfl) (T.ex 3 hc) (T.iso 3 1 hc (by decide)) (hx1.same (e2.trans ((Ex.refl H2).trans e3))))) (fun z => nomatch z) (fun _ H4 e4 => ?_)
    refine q_when (b := false) (et_B (ev_isP (ev_var rfl) (T.ex 3 hc) (T.iso 3 2 hc (by decide)) (hx1.same (e2.trans (((Ex.refl H2).trans e3).trans e4))))) (fun z => nomatch z) (fun _ H5 e5 => ?_)
    refine q_when (b := true) (et_B (ev_isP (ev_var rfl) (T.ex 3 hc) (T.iso 3 3 hc (by decide)) (hx1.same (e2.trans ((((Ex.refl H2).trans e3).trans e4).trans e5))))) (fun _ H6 e6 => ?_) (fun z => nomatch z)
    refine s_appU (xs := []) ((((((Ex.refl H2).trans e3).trans e4).trans e5).trans e6) _ _ h2) (ev_var rfl) (eu_tup (ea_cons ev_c (ea_cons (ev_xp (ev_var rfl) (T.xf 3 hc) T.n3name ((((((Ex.refl H2).trans e3).trans e4).trans e5).trans e6) _ _ (e2 _ _ hx)) l0) ea_nil)) (show 2 ≤ 100000 by decide)) (by decide) (fun t H7 ht e7 h7 => ?_)
    have hd5 : Ex H1 (upd H7 l (.lst ([] ++ [.ref t]))) := (e2.trans ((((((Ex.refl H2).trans e3).trans e4).trans e5).trans e6).trans e7)).mut hl2
    have hl5 : upd H7 l (.lst ([] ++ [.ref t])) l = some (.lst [.ref t]) := upd_same
    have tl5 : t ≠ l := fun z => by rw [z, ((((((Ex.refl H2).trans e3).trans e4).trans e5).trans e6) _ _ h2)] at ht; cases ht
    have ht5 : upd H7 l (.lst ([] ++ [.ref t])) t = some (.tup _) := (upd_ne tl5).trans h7
    revert hd5 hl5 ht5
    generalize upd H7 l (.lst ([] ++ [.ref t])) = G
    intro hd5 hl5 ht5
    refine q_when (b := false) (et_B (ev_isP (ev_var rfl) (T.ex 3 hc) (T.iso 3 4 hc (by decide)) (hx1.same (hd5.trans (Ex.refl G))))) (fun z => nomatch z) (fun _ H8 e8 => ?_)
    refine q_when (b := false) (et_B (ev_isP (ev_var rfl) (T.ex 3 hc) (T.iso 3 5 hc (by decide)) (hx1.same (hd5.trans ((Ex.refl G).trans e8))))) (fun z => nomatch z) (fun _ H9 e9 => ?_)
    refine q_when (b := false) (et_B (ev_isP (ev_var rfl) (T.ex 3 hc) (T.iso 3 6 hc (by decide)) (hx1.same (hd5.trans (((Ex.refl G).trans e8).trans e9))))) (fun z => nomatch z) (fun _ H10 e10 => ?_)
    refine q_when (b := false) (et_B (ev_isP (ev_var rfl) (T.ex 3 hc) (T.iso 3 7 hc (by decide)) (hx1.same (hd5.trans ((((Ex.refl G).trans e8).trans e9).trans e10))))) (fun z => nomatch z) (fun _ H11 e11 => ?_)
    exact s_ret (ev_if (b := true) (et_test (ev_op (ev_lenL (ev_var rfl) (sq_of ((((((Ex.refl G).trans e8).trans e9).trans e10).trans e11) _ _ hl5))) ev_c (rv_eqs rfl))) (fun _ => ev_op (ev_var rfl) ev_c (rv_iL (sq_of ((((((Ex.refl G).trans e8).trans e9).trans e10).trans e11) _ _ hl5)) (i := 0) rfl)) (fun z => nomatch z)) (fun H12 e12 => hQ t H12 ((hd5.trans ((((((Ex.refl G).trans e8).trans e9).trans e10).trans e11).trans e12))) (((((((Ex.refl G).trans e8).trans e9).trans e10).trans e11).trans e12) _ _ ht5))
  | 4, hc, hFo =>
    obtain ⟨v0, l0, rfl⟩ := hFo
    refine q_when (b := false) (et_B (ev_isP (ev_var rfl) (T.ex 4 hc) (T.iso 4 0 hc (by decide)) (hx1.same (e2.trans (Ex.refl H2))))) (fun z => nomatch z) (fun _ H3 e3 => ?_)
    refine q_when (b := false) (et_B (ev_isP (ev_var rfl) (T.ex 4 hc) (T.iso 4 1 hc (by decide)) (hx1.same (e2.trans ((Ex.refl H2).trans e3))))) (fun z => nomatch z) (fun _ H4 e4 => ?_)
    refine q_when (b := false) (et_B (ev_isP (ev_var rfl) (T.ex 4 hc) (T.iso 4 2 hc (by decide)) (hx1.same (e2.trans (((Ex.refl H2).trans e3).trans e4))))) (fun z => nomatch z) (fun _ H5 e5 => ?_)
    refine q_when (b := false) (et_B (ev_isP (ev_var rfl) (T.ex 4 hc) (T.iso 4 3 hc (by decide)) (hx1.same (e2.trans ((((Ex.refl H2).trans e3).trans e4).trans e5))))) (fun z => nomatch z) (fun _ H6 e6 => ?_)
    refine q_when (b := true) (et_B (ev_isP (ev_var rfl) (T.ex 4 hc) (T.iso 4 4 hc (by decide)) (hx1.same (e2.trans (((((Ex.refl H2).trans e3).trans e4).trans e5).trans e6))))) (fun _ H7 e7 => ?_) (fun z => nomatch z)
    refine s_appU (xs := []) (((((((Ex.refl H2).trans e3).trans e4).trans e5).trans e6).trans e7) _ _ h2) (ev_var rfl) (eu_tup (ea_cons ev_c (ea_cons (ev_xp (ev_var rfl) (T.xf 4 hc) T.n4name (((((((Ex.refl H2).trans e3).trans e4).trans e5).trans e6).trans e7) _ _ (e2 _ _ hx)) l0) ea_nil)) (show 2 ≤ 100000 by decide)) (by decide) (fun t H8 ht e8 h8 => ?_)
    have hd5 : Ex H1 (upd H8 l (.lst ([] ++ [.ref t]))) := (e2.trans (((((((Ex.refl H2).trans e3).trans e4).trans e5).trans e6).trans e7).trans e8)).mut hl2
    have hl5 : upd H8 l (.lst ([] ++ [.ref t])) l = some (.lst [.ref t]) := upd_same
    have tl5 : t ≠ l := fun z => by rw [z, (((((((Ex.refl H2).trans e3).trans e4).trans e5).trans e6).trans e7) _ _ h2)] at ht; cases ht
    have ht5 : upd H8 l (.lst ([] ++ [.ref t])) t = some (.tup _) := (upd_ne tl5).trans h8
    revert hd5 hl5 ht5
    generalize upd H8 l (.lst ([] ++ [.ref t])) = G
    intro hd5 hl5 ht5
    refine q_when (b := false) (et_B (ev_isP (ev_var rfl) (T.ex 4 hc) (T.iso 4 5 hc (by decide)) (hx1.same (hd5.trans (Ex.refl G))))) (fun z => nomatch z) (fun _ H9 e9 => ?_)
    refine q_when (b := false) (et_B (ev_isP (ev_var rfl) (T.ex 4 hc) (T.iso 4 6 hc (by decide)) (hx1.same (hd5.trans ((Ex.refl G).trans e9))))) (fun z => nomatch z) (fun _ H10 e10 => ?_)
    refine q_when (b := false) (et_B (ev_isP (ev_var rfl) (T.ex 4 hc) (T.iso 4 7 hc (by decide)) (hx1.same (hd5.trans (((Ex.refl G).trans e9).trans e10))))) (fun z => nomatch z) (fun _ H11 e11 => ?_)
    exact s_ret (ev_if (b := true) (et_test (ev_op (ev_lenL (ev_var rfl) (sq_of (((((Ex.refl G).trans e9).trans e10).trans e11) _ _ hl5))) ev_c (rv_eqs rfl))) (fun _ => ev_op (ev_var rfl) ev_c (rv_iL (sq_of (((((Ex.refl G).trans e9).trans e10).trans e11) _ _ hl5)) (i := 0) rfl)) (fun z => nomatch z)) (fun H12 e12 => hQ t H12 ((hd5.trans (((((Ex.refl G).trans e9).trans e10).trans e11).trans e12))) ((((((Ex.refl G).trans e9).trans e10).trans e11).trans e12) _ _ ht5))
  | 5, hc, hFo =>
    obtain ⟨v0, v1, v2, l0, l1, l2, rfl⟩ := hFo
    refine q_when (b := false) (et_B (ev_isP (ev_var rfl) (T.ex 5 hc) (T.iso 5 0 hc (by decide)) (hx1.same (e2.trans (Ex.refl H2))))) (fun z => nomatch z) (fun _ H3 e3 => ?_)
    refine q_when (b := false) (et_B (ev_isP (ev_var rfl) (T.ex 5 hc) (T.iso 5 1 hc (by decide)) (hx1.same (e2.trans ((Ex.refl H2).trans e3))))) (fun z => nomatch z) (fun _ H4 e4 => ?_)
    refine q_when (b := false) (et_B (ev_isP (ev_var rfl) (T.ex 5 hc) (T.iso 5 2 hc (by decide)) (hx1.same (e2.trans (((Ex.refl H2).trans e3).trans e4))))) (fun z => nomatch z) (fun _ H5 e5 => ?_)
    refine q_when (b := false) (et_B (ev_isP (ev_var rfl) (T.ex 5 hc) (T.iso 5 3 hc (by decide)) (hx1.same (e2.trans ((((Ex.refl H2).trans e3).trans e4).trans e5))))) (fun z => nomatch z) (fun _ H6 e6 => ?_)
    refine q_when (b := false) (et_B (ev_isP (ev_var rfl) (T.ex 5 hc) (T.iso 5 4 hc (by decide)) (hx1.same (e2.trans (((((Ex.refl H2).trans e3).trans e4).trans e5).trans e6))))) (fun z => nomatch z) (fun _ H7 e7 => ?_)
    refine q_when (b := true) (et_B (ev_isP (ev_var rfl) (T.ex 5 hc) (T.iso 5 5 hc (by decide)) (hx1.same (e2.trans ((((((Ex.refl H2).trans e3).trans e4).trans e5).trans e6).trans e7))))) (fun _ H8 e8 => ?_) (fun z => nomatch z)
    refine s_appU (xs := []) ((((((((Ex.refl H2).trans e3).trans e4).trans e5).trans e6).trans e7).trans e8) _ _ h2) (ev_var rfl) (eu_tup (ea_cons ev_c (ea_cons (ev_xp (ev_var rfl) (T.xf 5 hc) T.n5what ((((((((Ex.refl H2).trans e3).trans e4).trans e5).trans e6).trans e7).trans e8) _ _ (e2 _ _ hx)) l0) (ea_cons (ev_xp (ev_var rfl) (T.xf 5 hc) T.n5many ((((((((Ex.refl H2).trans e3).trans e4).trans e5).trans e6).trans e7).trans e8) _ _ (e2 _ _ hx)) l1) (ea_cons (ev_xp (ev_var rfl) (T.xf 5 hc) T.n5limit ((((((((Ex.refl H2).trans e3).trans e4).trans e5).trans e6).trans e7).trans e8) _ _ (e2 _ _ hx)) l2) ea_nil)))) (show 4 ≤ 100000 by decide)) (by decide) (fun t H9 ht e9 h9 => ?_)
    have hd5 : Ex H1 (upd H9 l (.lst ([] ++ [.ref t]))) := (e2.trans ((((((((Ex.refl H2).trans e3).trans e4).trans e5).trans e6).trans e7).trans e8).trans e9)).mut hl2
    have hl5 : upd H9 l (.lst ([] ++ [.ref t])) l = some (.lst [.ref t]) := upd_same
    have tl5 : t ≠ l := fun z => by rw [z, ((((((((Ex.refl H2).trans e3).trans e4).trans e5).trans e6).trans e7).trans e8) _ _ h2)] at ht; cases ht
    have ht5 : upd H9 l (.lst ([] ++ [.ref t])) t = some (.tup _) := (upd_ne tl5).trans h9
    revert hd5 hl5 ht5
    generalize upd H9 l (.lst ([] ++ [.ref t])) = G
    intro hd5 hl5 ht5
    refine q_when (b := false) (et_B (ev_isP (ev_var rfl) (T.ex 5 hc) (T.iso 5 6 hc (by decide)) (hx1.same (hd5.trans (Ex.refl G))))) (fun z => nomatch z) (fun _ H10 e10 => ?_)
    refine q_when (b := false) (et_B (ev_isP (ev_var rfl) (T.ex 5 hc) (T.iso 5 7 hc (by decide)) (hx1.same (hd5.trans ((Ex.refl G).trans e10))))) (fun z => nomatch z) (fun _ H11 e11 => ?_)
    exact s_ret (ev_if (b := true) (et_test (ev_op (ev_lenL (ev_var rfl) (sq_of ((((Ex.refl G).trans e10).trans e11) _ _ hl5))) ev_c (rv_eqs rfl))) (fun _ => ev_op (ev_var rfl) ev_c (rv_iL (sq_of ((((Ex.refl G).trans e10).trans e11) _ _ hl5)) (i := 0) rfl)) (fun z => nomatch z)) (fun H12 e12 => hQ t H12 ((hd5.trans ((((Ex.refl G).trans e10).trans e11).trans e12))) (((((Ex.refl G).trans e10).trans e11).trans e12) _ _ ht5))
  | 6, hc, hFo =>
    obtain ⟨v0, l0, rfl⟩ := hFo
    refine q_when (b := false) (et_B (ev_isP (ev_var rfl) (T.ex 6 hc) (T.iso 6 0 hc (by decide)) (hx1.same (e2.trans (Ex.refl H2))))) (fun z => nomatch z) (fun _ H3 e3 => ?_)
    refine q_when (b := false) (et_B (ev_isP (ev_var rfl) (T.ex 6 hc) (T.iso 6 1 hc (by decide)) (hx1.same (e2.trans ((Ex.refl H2).trans e3))))) (fun z => nomatch z) (fun _ H4 e4 => ?_)
    refine q_when (b := false) (et_B (ev_isP (ev_var rfl) (T.ex 6 hc) (T.iso 6 2 hc (by decide)) (hx1.same (e2.trans (((Ex.refl H2).trans e3).trans e4))))) (fun z => nomatch z) (fun _ H5 e5 => ?_)
    refine q_when (b := false) (et_B (ev_isP (ev_var rfl) (T.ex 6 hc) (T.iso 6 3 hc (by decide)) (hx1.same (e2.trans ((((Ex.refl H2).trans e3).trans e4).trans e5))))) (fun z => nomatch z) (fun _ H6 e6 => ?_)
    refine q_when (b := false) (et_B (ev_isP (ev_var rfl) (T.ex 6 hc) (T.iso 6 4 hc (by decide)) (hx1.same (e2.trans (((((Ex.refl H2).trans e3).trans e4).trans e5).trans e6))))) (fun z => nomatch z) (fun _ H7 e7 => ?_)
    refine q_when (b := false) (et_B (ev_isP (ev_var rfl) (T.ex 6 hc) (T.iso 6 5 hc (by decide)) (hx1.same (e2.trans ((((((Ex.refl H2).trans e3).trans e4).trans e5).trans e6).trans e7))))) (fun z => nomatch z) (fun _ H8 e8 => ?_)
    refine q_when (b := true) (et_B (ev_isP (ev_var rfl) (T.ex 6 hc) (T.iso 6 6 hc (by decide)) (hx1.same (e2.trans (((((((Ex.refl H2).trans e3).trans e4).trans e5).trans e6).trans e7).trans e8))))) (fun _ H9 e9 => ?_) (fun z => nomatch z)
    refine s_appU (xs := []) (((((((((Ex.refl H2).trans e3).trans e4).trans e5).trans e6).trans e7).trans e8).trans e9) _ _ h2) (ev_var rfl) (eu_tup (ea_cons ev_c (ea_cons (ev_xp (ev_var rfl) (T.xf 6 hc) T.n6what (((((((((Ex.refl H2).trans e3).trans e4).trans e5).trans e6).trans e7).trans e8).trans e9) _ _ (e2 _ _ hx)) l0) ea_nil)) (show 2 ≤ 100000 by decide)) (by decide) (fun t H10 ht e10 h10 => ?_)
    have hd5 : Ex H1 (upd H10 l (.lst ([] ++ [.ref t]))) := (e2.trans (((((((((Ex.refl H2).trans e3).trans e4).trans e5).trans e6).trans e7).trans e8).trans e9).trans e10)).mut hl2
    have hl5 : upd H10 l (.lst ([] ++ [.ref t])) l = some (.lst [.ref t]) := upd_same
    have tl5 : t ≠ l := fun z => by rw [z, (((((((((Ex.refl H2).trans e3).trans e4).trans e5).trans e6).trans e7).trans e8).trans e9) _ _ h2)] at ht; cases ht
    have ht5 : upd H10 l (.lst ([] ++ [.ref t])) t = some (.tup _) := (upd_ne tl5).trans h10
    revert hd5 hl5 ht5
    generalize upd H10 l (.lst ([] ++ [.ref t])) = G
    intro hd5 hl5 ht5
    refine q_when (b := false) (et_B (ev_isP (ev_var rfl) (T.ex 6 hc) (T.iso 6 7 hc (by decide)) (hx1.same (hd5.trans (Ex.refl G))))) (fun z => nomatch z) (fun _ H11 e11 => ?_)
    exact s_ret (ev_if (b := true) (et_test (ev_op (ev_lenL (ev_var rfl) (sq_of (((Ex.refl G).trans e11) _ _ hl5))) ev_c (rv_eqs rfl))) (fun _ => ev_op (ev_var rfl) ev_c (rv_iL (sq_of (((Ex.refl G).trans e11) _ _ hl5)) (i := 0) rfl)) (fun z => nomatch z)) (fun H12 e12 => hQ t H12 ((hd5.trans (((Ex.refl G).trans e11).trans e12))) ((((Ex.refl G).trans e11).trans e12) _ _ ht5))
  | 7, hc, hFo =>
    obtain ⟨v0, v1, l0, l1, rfl⟩ := hFo
    refine q_when (b := false) (et_B (ev_isP (ev_var rfl) (T.ex 7 hc) (T.iso 7 0 hc (by decide)) (hx1.same (e2.trans (Ex.refl H2))))) (fun z => nomatch z) (fun _ H3 e3 => ?_)
    refine q_when (b := false) (et_B (ev_isP (ev_var rfl) (T.ex 7 hc) (T.iso 7 1 hc (by decide)) (hx1.same (e2.trans ((Ex.refl H2).trans e3))))) (fun z => nomatch z) (fun _ H4 e4 => ?_)
    refine q_when (b := false) (et_B (ev_isP (ev_var rfl) (T.ex 7 hc) (T.iso 7 2 hc (by decide)) (hx1.same (e2.trans (((Ex.refl H2).trans e3).trans e4))))) (fun z => nomatch z) (fun _ H5 e5 => ?_)
    refine q_when (b := false) (et_B (ev_isP (ev_var rfl) (T.ex 7 hc) (T.iso 7 3 hc (by decide)) (hx1.same (e2.trans ((((Ex.refl H2).trans e3).trans e4).trans e5))))) (fun z => nomatch z) (fun _ H6 e6 => ?_)
    refine q_when (b := false) (et_B (ev_isP (ev_var rfl) (T.ex 7 hc) (T.iso 7 4 hc (by decide)) (hx1.same (e2.trans (((((Ex.refl H2).trans e3).trans e4).trans e5).trans e6))))) (fun z => nomatch z) (fun _ H7 e7 => ?_)
    refine q_when (b := false) (et_B (ev_isP (ev_var rfl) (T.ex 7 hc) (T.iso 7 5 hc (by decide)) (hx1.same (e2.trans ((((((Ex.refl H2).trans e3).trans e4).trans e5).trans e6).trans e7))))) (fun z => nomatch z) (fun _ H8 e8 => ?_)
    refine q_when (b := false) (et_B (ev_isP (ev_var rfl) (T.ex 7 hc) (T.iso 7 6 hc (by decide)) (hx1.same (e2.trans (((((((Ex.refl H2).trans e3).trans e4).trans e5).trans e6).trans e7).trans e8))))) (fun z => nomatch z) (fun _ H9 e9 => ?_)
    refine q_when (b := true) (et_B (ev_isP (ev_var rfl) (T.ex 7 hc) (T.iso 7 7 hc (by decide)) (hx1.same (e2.trans ((((((((Ex.refl H2).trans e3).trans e4).trans e5).trans e6).trans e7).trans e8).trans e9))))) (fun _ H10 e10 => ?_) (fun z => nomatch z)
    refine s_appU (xs := []) ((((((((((Ex.refl H2).trans e3).trans e4).trans e5).trans e6).trans e7).trans e8).trans e9).trans e10) _ _ h2) (ev_var rfl) (eu_tup (ea_cons ev_c (ea_cons (ev_xp (ev_var rfl) (T.xf 7 hc) T.n7line ((((((((((Ex.refl H2).trans e3).trans e4).trans e5).trans e6).trans e7).trans e8).trans e9).trans e10) _ _ (e2 _ _ hx)) l0) (ea_cons (ev_xp (ev_var rfl) (T.xf 7 hc) T.n7word ((((((((((Ex.refl H2).trans e3).trans e4).trans e5).trans e6).trans e7).trans e8).trans e9).trans e10) _ _ (e2 _ _ hx)) l1) ea_nil))) (show 3 ≤ 100000 by decide)) (by decide) (fun t H11 ht e11 h11 => ?_)
    have hd5 : Ex H1 (upd H11 l (.lst ([] ++ [.ref t]))) := (e2.trans ((((((((((Ex.refl H2).trans e3).trans e4).trans e5).trans e6).trans e7).trans e8).trans e9).trans e10).trans e11)).mut hl2
    have hl5 : upd H11 l (.lst ([] ++ [.ref t])) l = some (.lst [.ref t]) := upd_same
    have tl5 : t ≠ l := fun z => by rw [z, ((((((((((Ex.refl H2).trans e3).trans e4).trans e5).trans e6).trans e7).trans e8).trans e9).trans e10) _ _ h2)] at ht; cases ht
    have ht5 : upd H11 l (.lst ([] ++ [.ref t])) t = some (.tup _) := (upd_ne tl5).trans h11
    revert hd5 hl5 ht5
    generalize upd H11 l (.lst ([] ++ [.ref t])) = G
    intro hd5 hl5 ht5
    exact s_ret (ev_if (b := true) (et_test (ev_op (ev_lenL (ev_var rfl) (sq_of ((Ex.refl G) _ _ hl5))) ev_c (rv_eqs rfl))) (fun _ => ev_op (ev_var rfl) ev_c (rv_iL (sq_of ((Ex.refl G) _ _ hl5)) (i := 0) rfl)) (fun z => nomatch z)) (fun H12 e12 => hQ t H12 ((hd5.trans ((Ex.refl G).trans e12))) (((Ex.refl G).trans e12) _ _ ht5))
theorem ok_raise_soP (B : Bi mg) (g__law_caught : Gz P w K mg base (k + 1) "_law_caught" ["action"] (spCaughtP P w K mg base k cA)) (D : Df K mg "_law_raise_so" s__law_raise_so ["calls"]) : Gz P w K mg base (k + 2) "_law_raise_so" ["calls"] (spRaiseSoP P w K mg base k cA) := by
  have nd := sc__law_raise_so.nd
  refine D.gz sc__law_raise_so (fun s fr vs H Q h => ?_) (fun f0 cdv A outer s H vs Q hr hgd h => ?_)
  · obtain ⟨l, xs, rfl, _⟩ := h
    rfl
  have hu64 := hu64_of hr
  have hu16 : (A.deeper (envOfC "_law_raise_so" (defScope s__law_raise_so) s.heap.objs.size f0 cdv)).units + 16 < cLine := by omega
  refine ⟨_, (pss_cons (ps_for PassesOwn.never rfl (piA_seq (pv 0)) (pgK_tup (K := K) (n := 2) rfl rfl (pgs_cons (pg_name (i := 1) nd rfl (.inl rfl)) (pgs_cons (pg_name (i := 2) nd rfl (.inl rfl)) pgs_nil))) (pss_cons (ps_set (i := 3) nd rfl (.inl rfl) (pe_cz g__law_caught hr hgd rfl (pa_cons (pv 1) pa_nil)))
    (pss_one (ps_if (PW.pt (pw_or (pt_cmpR (r := rNeA K) (opA_ne hu64) (pe_slice (r := rSl K) slA (pv 3) po_none (po_some (pe_un un_neg pe_int))) (pe_slice (r := rSl K) slA (pv 2) po_none (po_some (pe_un un_neg pe_int))) (nomark _)) (pw_or1 (pt_cmpR (r := rNeA K) (opA_ne hu64) (pe_callB (r := rRepr K) (call_repr hgd hu16) rfl B.repr (by decide +kernel) (pa_cons (pe_ix (r := rIx K) ix_seq (pv 3) (pe_un un_neg pe_int) (fun _ _ => rfl)) pa_nil)) (pe_callB (r := rRepr K) (call_repr hgd hu16) rfl B.repr (by decide +kernel) (pa_cons (pe_ix (r := rIx K) ix_seq (pv 2) (pe_un un_neg pe_int) (fun _ _ => rfl)) pa_nil)) (nomark _))))) (pss_one (ps_ret pe_bl)) pss_nil))))
    (pss_one (ps_ret pe_bl))), ?_⟩
  obtain ⟨l, xs, rfl, hx, hit, hQ⟩ := h
  have hL : s.heap.get? s.heap.objs.size = none := Heap.get?_none_of_le (Nat.le_refl _)
  refine q_forLg (ev_var rfl) hx (fun i σ' H' => Ex H H' ∧ ∃ a b c, σ' = [some (.ref l), a, b, c]) (fun H1 e1 => ⟨e1, none, none, none, rfl⟩) (fun i σ' H' _ p => ex_l p.1 hx) (fun i x σ' H' hi p => ?_) (fun σ' H' p => ?_)
  · obtain ⟨e1, a0, b0, c0, rfl⟩ := p
    obtain ⟨tup, f, due, tl, c, Ψ, ys, v, es, d, rfl, h1, h2, h3, h4, h5, h6, h7, h8, h9, h10, h11⟩ := hit x (List.mem_of_getElem? hi)
    refine ⟨tup, _, rfl, ex_t e1 h1, rfl, .ref f, [.ref due], rfl, .ref due, [], rfl, rfl, ?_⟩
    refine ⟨.ref f, rfl, fun pins s1 I1 => ⟨f, tl, c, Ψ, rfl, (h2.deeper hL).move e1 (un_more I1.base hL), h3, h4 H' e1, fun fs G eG hΨ => ?_⟩⟩
    obtain ⟨v', hFo, hd'⟩ := h5 fs G (e1.trans eG) hΨ
    refine ⟨ys ++ [v'], hFo, fun t H2 e2 ht => ?_⟩
    have e12 := e1.trans (eG.trans e2)
    have hb : (!PyData.eqv (.tuple es) (.tuple es) || !decide (V.str d.shown = .str d.shown)) = false := by
      have : PyData.eqv (.tuple es) (.tuple es) = true := SeqAt.eqv_refl _ (SeqAt.canLay_of_shaped h8)
      rw [this]
      simp
    refine s_when (b := (!PyData.eqv (.tuple es) (.tuple es) || !decide (V.str d.shown = .str d.shown))) (et_or (et_test (ev_neDD (evd_init (ev_var rfl) (st_of ht) (DpAll.ext e12 h7) (eo_some (ev_neg ev_c))) (evd_init (ev_var rfl) (ex_t e12 h6) (DpAll.ext e12 h7) (eo_some (ev_neg ev_c))) h8 h8))
      (fun _ => et_test (ev_op (ev_repr (ev_last (ev_var rfl) (st_of ht) (ev_neg ev_c)) (Dp.ext e2 hd') h10 h11) (ev_repr (ev_last (ev_var rfl) (ex_t e12 h6) (ev_neg ev_c)) (Dp.ext e12 h9) h10 h11) (rv_nes rfl)))) (fun z => by rw [hb] at z; cases z) (fun _ H3 e3 => ⟨e12.trans e3, _, _, _, rfl⟩)
  · obtain ⟨e1, a0, b0, c0, rfl⟩ := p
    exact s_ret ev_c fun H2 e2 => hQ H2 (e1.trans e2)
end
section
variable {K : PySem.W.Frag} {σ : L2.St} {H : Hp} {params : Arguments} {body : Expr} {scope : Scope} {tup : Addr} {X : Cx}
theorem rsItem_ofP {pins : List (Addr × Obj)} {s1 : Shared} {k c : Nat} {cA : Nat → Addr} {Ψ : List (Str × V) → Hp → Prop} {ys : List V} {v : V} {es : List PyData} {d : PyData} {tb : XK → TE} (I : L2.Inv X pins σ H s1) (hfn : ∀ x, X.fn x = true) (hst : X.stack = X.env :: X.outer) (hfrm : X.env.frame = some X.env.locals) (L : LamS X.env.scope scope)
    (h : Itm X.K (X.env.qual ++ "<lambda>") params body scope (cloFrom X.env.cells scope.names []) (ys ++ [v]) tup H)
    (hbind : ∀ (cl : List (Str × Addr)) (pm cv ctv : Value), bindArgs (PySem.W.kla_fn "<lambda>" (X.env.qual ++ "<lambda>") params body scope cl pm cv ctv) ⟨[], []⟩ = pure [])
    (hbody : ∀ (f c' : Addr) (A : Around) (outer : List Env) (s : Shared) (H : Hp) (E : XK), Room k (A.deeper (lamEnv X scope s.heap.objs.size f c')) → PE (lamCx X A outer s H E scope f c') body (tb E))
    (hc : c < 8) (hr2 : ∀ H' (E : XK), Ex H H' → RsP E H' (cA c) Ψ → Rx (tb E) σ H') (hF : ∀ fs G, Ex H G → Ψ fs G → ∃ v', Fo c fs (ys ++ [v']) ∧ Dp X.K G v' d) (h1 : DpAll X.K H ys es) (h2 : SeqAt.shaped (.tuple es) = true) (h3 : Dp X.K H v d) (h4 : d.hasDict = false) (h5 : Sh d) :
    RsItemP X.prog X.w X.K X.mg X.base (k + 1) cA s1 (frs X.stack) H (.ref tup) := by
  obtain ⟨f, due, c', a1, a2, a3, a4⟩ := h
  exact ⟨tup, f, due, _, c, Ψ, ys, v, es, d, rfl, st_of a1, lamAt_of I hfn hst hfrm L a3 a4 hbind (fun A outer s H E hr => hbody f c' A outer s H E hr), hc, fun H' e Q E r => hr2 H' E e r H' (Ex.refl H') Q, hF, a2, h1, h2, h3, h4, h5⟩
end
end Kb
set_option Elab.async false
set_option linter.all false
set_option maxRecDepth 100000
set_option maxHeartbeats 4000000
namespace Kb
open PySem PySem.Spec PyProof.Rows L2 L2.DX LamX Evl
/-! ### tuple displays known to have no dict of their own; xs[::-1]; str(i) -/
def tTupF (t : TA) : TE := fun σ H Q => t σ H fun xs H1 => xs.length ≤ sizeLine ∧ ∀ (p : Addr) (o : Obj), H1 p = none → o.dict = none → Q (.ref p) (upd H1 p (.frz o (.tup xs)))
theorem pe_tupF {X : Cx} {es : List Expr} {t : TA} {x1} {pos : Pos} (h : PA X es t) : PE X (.Tuple es x1 pos) (tTupF t) := by
  refine ⟨fun pins s σ H Q I hq => ?_⟩
  refine wpAny_Tuple_spliced (thn (h.run pos pins s σ H _ I hq) fun us s1 ⟨xs, H1, I1, r, z, q⟩ => ⟨by rw [← r.length]; exact z, ?_⟩)
  have I2 : L2.Inv X pins σ (upd H1 s1.heap.objs.size (.frz { cls := .type "tuple", data := .seq us.toArray } (.tup xs))) { s1 with heap := s1.heap.push { cls := .type "tuple", data := .seq us.toArray } } :=
    I1.laid (t' := s1.toks) (fun b o e => Heap.get?_push_of_some _ e) (Nat.le_refl _) (show ObjOk X.prog X.w _ _ _ (.frz _ (.tup xs)) from ⟨Heap.get?_push_size _ rfl, z, us, r, IsTup.new _ _⟩)
  exact ⟨.ref s1.heap.objs.size, _, I2, rfl, q _ _ (I1.hok.fresh (Nat.le_refl _)) rfl⟩
theorem pe_revK {X : Cx} {K : PySem.W.Frag} {e : Expr} {te : TE} {k : Nat} {p1 p2 p3 pos : Pos} (hK : X.K = K) (he : PE X e te) : PE X (.Subscript e (.Slice none none (some (.UnaryOp .USub (.Constant (.int 1) k p1) p2)) p3) pos) (tRevL K te) := hK ▸ pe_revL he
/-- t + u, both with items: a new tuple with no dict of its own -/
def rCatF (K : PySem.W.Frag) : R2 := fun x y H Q => ∃ a b xs ys, x = .ref a ∧ y = .ref b ∧ SqT K H a xs ∧ SqT K H b ys ∧ xs ≠ [] ∧ ys ≠ [] ∧ xs.length + ys.length ≤ sizeLine ∧ ∀ (p : Addr) (o : Obj), H p = none → o.dict = none → Q (.ref p) (upd H p (.frz o (.tup (xs ++ ys))))
theorem op_catF {X : Cx} : OpR X (binaryOp .Add) (rCatF X.K) := by
  intro pins s σ H x y v u Q I rx ry h
  obtain ⟨a, b, xs, ys, rfl, rfl, ha, hb, hx, hy, hz, q⟩ := h
  cases rx
  cases ry
  obtain ⟨i1, r1, t1, _⟩ := I.tuple ha
  obtain ⟨i2, r2, t2, _⟩ := I.tuple hb
  have hz2 : i1.length + i2.length ≤ sizeLine := by
    rw [← r1.length, ← r2.length]
    exact hz
  refine HT.cat_tup t1 t2 (fun z => hx (r1.nil_iff.mp z)) (fun z => absurd (r2.nil_iff.mp z) hy) (fun _ => ?_) hz2
  have I2 : L2.Inv X pins σ (upd H s.heap.objs.size (.frz { cls := .type "tuple", data := .seq (i1 ++ i2).toArray } (.tup (xs ++ ys)))) { s with heap := s.heap.push { cls := .type "tuple", data := .seq (i1 ++ i2).toArray } } :=
    I.laid (t' := s.toks) (fun b o e => Heap.get?_push_of_some _ e) (Nat.le_refl _) (show ObjOk X.prog X.w _ _ _ (.frz _ (.tup (xs ++ ys))) from ⟨Heap.get?_push_size _ rfl, by rw [List.length_append]; exact hz, i1 ++ i2, r1.append r2, IsTup.new _ _⟩)
  exact ⟨.ref s.heap.objs.size, _, I2, rfl, q _ _ (I.hok.fresh (Nat.le_refl _)) rfl⟩
def rStrI : List V → Hp → VK → Prop := fun xs H Q => ∃ i : Int, xs = [.int i] ∧ i.natAbs.log2 < 1920 ∧ Q (.str (toString i)) H
theorem call_strI {X : Cx} : CallR X (.type "str") rStrI := call_str_int
section
variable {K : PySem.W.Frag} {σ : L2.St} {H H' H0 H1 H2 J J' : Hp} {te ta tb td : TE} {tr : TA} {v x y : V} {d : PyData} {ds : List PyData} {xs ys : List V} {p : Addr × Addr} {D : Ends} {tz : TS} {E : XK} {X : Cx} {T : List (Addr × Str)} {params : Arguments} {body : Expr} {scope : Scope}
theorem evd_tupF (h : EvDA tr σ H (fun vs H1 => DpAll K H1 vs ds)) (hz : ds.length ≤ 100000) : EvD (tTupF tr) σ H (fun w H1 => Pd K H1 w (.tuple ds)) := fun H1 e Q q =>
  h H1 e _ fun vs H2 e2 a => ⟨sz_of (by rw [dpAll_len a]; exact hz), fun l o hl ho => q _ _ (e2.trans (Ex.new hl)) ⟨l, vs, ds, rfl, rfl, ⟨o, ho, upd_same⟩, DpAll.ext (Ex.new hl) a⟩⟩
theorem evd_catF {ds es : List PyData} (ha : EvD ta σ H (fun w H1 => Dp K H1 w (.tuple ds))) (hb : EvD tb σ H (fun w H1 => Dp K H1 w (.tuple es))) (h1 : ds ≠ []) (h2 : es ≠ []) (hz : ds.length + es.length ≤ 100000) : EvD (tOp (rCatF K) ta tb) σ H (fun w H1 => Pd K H1 w (.tuple (ds ++ es))) := fun H1 e Q q =>
  ha H1 e _ fun w1 H2 e2 d1 => hb H2 (e.trans e2) _ fun w2 H3 e3 d2 => by
    cases Dp.ext e3 d1 with
    | @tup a xs _ x1 a1 =>
      cases d2 with
      | @tup b ys _ x2 a2 =>
        have l1 := dpAll_len a1
        have l2 := dpAll_len a2
        refine ⟨a, b, xs, ys, rfl, rfl, x1, x2, fun z => h1 (List.length_eq_zero_iff.mp (by rw [← l1, z]; rfl)), fun z => h2 (List.length_eq_zero_iff.mp (by rw [← l2, z]; rfl)), sz_of (by rw [l1, l2]; exact hz), fun m o hm ho => ?_⟩
        exact q _ _ ((e2.trans e3).trans (Ex.new hm)) ⟨m, xs ++ ys, _, rfl, rfl, ⟨o, ho, upd_same⟩, DpAll.ext (Ex.new hm) (dpAll_app a1 a2)⟩
theorem el_rev {a : Addr} (h : Ev te σ H (.ref a)) (hx : SqL K H a xs) : EvL (tRevL K te) σ H xs.reverse := fun H1 e Q q =>
  h H1 e _ fun H2 e2 => ⟨a, xs, rfl, ex_l (e.trans e2) hx, fun m hm => q m _ (fresh_back e2 hm) (e2.trans (Ex.new hm)) upd_same⟩
theorem ev_strI {i : Int} (h : Ev te σ H (.int i)) (hi : i.natAbs.log2 < 1920) : Ev (tCB rStrI (tCons te tNil)) σ H (.str (toString i)) := fun H1 e Q q => h H1 e _ fun H2 e2 => ⟨i, rfl, hi, q H2 e2⟩
/-- a call that raises, its arguments with a property -/
theorem rx_callDA {sp : Sp} {Ψ : List V → Hp → Prop} (h : EvDA tr σ H Ψ) (hs : ∀ vs H1, Ex H H1 → Ψ vs H1 → ∀ Q : VK, sp vs H1 Q E) : Rx (tCall sp [] E tr) σ H := fun H1 e Q => h H1 e _ fun vs H2 e2 a => by
    rw [List.append_nil]
    exact hs vs H2 (e.trans e2) a Q
theorem evda_cons {Φ : V → Hp → Prop} {Ψ : List V → Hp → Prop} (h : EvD te σ H Φ) (h2 : ∀ H1, Ex H H1 → EvDA tr σ H1 Ψ) (hm : ∀ x H1 H2, Ex H1 H2 → Φ x H1 → Φ x H2) : EvDA (tCons te tr) σ H (fun vs H1 => ∃ x ys, vs = x :: ys ∧ Φ x H1 ∧ Ψ ys H1) := fun H1 e Q q =>
  h H1 e _ fun x H2 e2 hx => h2 H2 (e.trans e2) H2 (Ex.refl H2) _ fun ys H3 e3 hy => q _ _ (e2.trans e3) ⟨x, ys, rfl, hm _ _ _ e3 hx, hy⟩
theorem evda_ev {vs : List V} (h : EvA tr σ H vs) : EvDA tr σ H (fun ws _ => ws = vs) := fun H1 e Q q => h H1 e _ fun H2 e2 => q _ _ e2 rfl
/-- a, b = a draw, a list -/
theorem qr_asgDL {Φ : V → Hp → Prop} {i j : Nat} (hp : Pen H p) (ha : ErD p ta σ H Φ) (hb : ∀ H1, Px p H H1 → EvL tb σ H1 ys) (hm : ∀ x H1 H2, Ex H1 H2 → Φ x H1 → Φ x H2)
    (k : ∀ x l H1, Px p H H1 → Φ x H1 → H1 l = some (.lst ys) → tz D ((σ.set i (some x)).set j (some (.ref l))) H1) : tSeq (tAsg (tTup (tCons ta (tCons tb tNil))) (gTup K 2 (gCons (gName i) (gCons (gName j) gNil)))) tz D σ H :=
  ha H (Px.refl hp) _ fun x H1 x1 hx => hb H1 x1 H1 (Ex.refl H1) _ fun l H2 _ e2 hl => ⟨sz_of (show 2 ≤ 100000 by decide), fun t ht => ⟨t, [x, .ref l], rfl, st_of upd_same, rfl, x, [.ref l], rfl, .ref l, [], rfl, rfl,
    k x l _ (x1.ex (e2.trans (Ex.new ht))) (hm _ _ _ (e2.trans (Ex.new ht)) hx) ((Ex.new ht) _ _ hl)⟩⟩
/-! ### the calls' list while it grows -/
theorem extN_mu {l : Addr} {o : HO} (e : ExtN H J) (hl : H l = none) : ExtN H (upd J l o) := fun b u hb hn => by
  rw [upd_ne (ne_of_none hb hl)]
  exact e b u hb hn
structure Fd (H2 : Hp) (p : Addr × Addr) (T : List (Addr × Str)) (lc : Addr) (ts : List V) (J : Hp) : Prop where
  x : ExtN H2 J
  t : Tabs T J
  p : Pen J p
  g : J lc = some (.lst ts)
theorem Fd.ex {lc : Addr} {ts : List V} (F : Fd H2 p T lc ts J) (e : Ex J J') : Fd H2 p T lc ts J' := ⟨F.x.trans (ExtN.of e), F.t.ext e, F.p.same e, e _ _ F.g⟩
/-- what a due's reading gives -/
def DueR (K : PySem.W.Frag) (td : TE) (σ : L2.St) (J : Hp) (Ψ : List V → Hp → Prop) : Prop := ∀ H1, ExtN J H1 → ∀ Q' : VK, (∀ ds due H2, Ex H1 H2 → Ψ ds H2 → SqT K H2 due ds → Q' (.ref due) H2) → td σ H1 Q'
theorem q_appF {lc : Addr} {ts : List V} {i : Nat} {Ψ : List V → Hp → Prop} (F : Fd H2 p T lc ts J) (hp2 : Pen H2 p) (hlc2 : H2 lc = none) (hσ : σ[i]? = some (some (.ref lc))) (hz : ts.length ≤ 1000) (hd : DueR K td σ J Ψ) (hm : ∀ ds A B, Sm A B → Ψ ds A → Ψ ds B)
    (k : ∀ ds tup J', Fd H2 p T lc (ts ++ [.ref tup]) J' → Sm J J' → Ψ ds J' → Itm K (X.env.qual ++ "<lambda>") params body scope (cloFrom X.env.cells scope.names []) ds tup J' → tz D σ J') :
    tSeq (tDrop (tBM K "list" rAppend (tVar i) (tCons (tTup (tCons (tLamT X T params body scope) (tCons td tNil))) tNil))) tz D σ J :=
  s_appG (D := { D with nx := tz D }) (ev_var hσ) (sq_of F.g) fun H1 e1 => ⟨F.t.ext e1, fun f c' A1 eN n1 t1 hf hf1 hc1 => hd A1 ((ExtN.of e1).trans eN) _ fun ds due A2 e2 hΨ h2 => ⟨sz_of (show 2 ≤ 100000 by decide), fun tup htup => by
    have e3 := Ex.new (o := .tup [.ref f, .ref due]) htup
    have x1 : ExtN J (upd A2 tup (.tup [.ref f, .ref due])) := ((ExtN.of e1).trans eN).trans (ExtN.of (e2.trans e3))
    have gm : upd A2 tup (.tup [.ref f, .ref due]) lc = some (.lst ts) := x1 _ _ F.g (fun _ z => nomatch z)
    have s1 : Sm (upd A2 tup (.tup [.ref f, .ref due])) (upd (upd A2 tup (.tup [.ref f, .ref due])) lc (.lst (ts ++ [.ref tup]))) := Sm.mu gm
    refine ⟨ts, gm, sz_lt (by omega), k ds tup _ ⟨extN_mu (F.x.trans x1) hlc2, Tabs.mu gm ((t1.ext e2).ext e3), hp2.put (F.p.extN x1) hlc2, upd_same⟩ ((Sm.extN x1).trans s1) (hm _ _ _ ((Sm.of e3).trans s1) hΨ) ?_⟩
    exact Itm.sm ⟨f, due, c', upd_same, ex_t e3 h2, e3 _ _ (e2 _ _ hf1), e3 _ _ (e2 _ _ hc1)⟩ s1⟩⟩
theorem tup3_t {tc : TE} {Q : VK} (h : ta σ H fun x H1 => tb σ H1 fun y H2 => tc σ H2 fun z H3 => [x, y, z].length ≤ sizeLine ∧ ∀ t, H3 t = none → Q (.ref t) (upd H3 t (.tup [x, y, z]))) : tTup (tCons ta (tCons tb (tCons tc tNil))) σ H Q := h
theorem due_of {vs : List V} (h : ∀ H1, EvA tr σ H1 vs) (hz : vs.length ≤ 100000) : DueR K (tTup tr) σ J (fun ds _ => ds = vs) := fun H1 _ Q' q =>
  eu_tup (h H1) hz H1 (Ex.refl H1) Q' fun due H9 _ e9 h9 => q vs due H9 e9 rfl (st_of h9)
end
/-- an item that is right whenever it is looked at -/
def GoodX (X : Cx) (k : Nat) (cA : Nat → Addr) (σF : Addr → Addr → L2.St) (H2 : Hp) (J : Hp) (x : V) : Prop := ∀ (J9 : Hp) (pins : List (Addr × Obj)) (s1 : Shared) (g wd : Addr), ExtN H2 J9 → Sm J J9 → L2.Inv X pins (σF g wd) J9 s1 → RsItemP X.prog X.w X.K X.mg X.base k cA s1 (frs X.stack) J9 x
theorem GoodX.sm {X : Cx} {k : Nat} {cA : Nat → Addr} {σF : Addr → Addr → L2.St} {H2 J J' : Hp} {x : V} (h : GoodX X k cA σF H2 J x) (s : Sm J J') : GoodX X k cA σF H2 J' x := fun J9 pins s1 g wd x9 s9 I => h J9 pins s1 g wd x9 (s.trans s9) I
theorem good_snoc {X : Cx} {k : Nat} {cA : Nat → Addr} {σF : Addr → Addr → L2.St} {H2 J J' : Hp} {ts : List V} {t : V} (h : ∀ x ∈ ts, GoodX X k cA σF H2 J x) (s : Sm J J') (ht : GoodX X k cA σF H2 J' t) : ∀ x ∈ ts ++ [t], GoodX X k cA σF H2 J' x := fun x hx => by
  rcases List.mem_append.mp hx with hx | hx
  · exact (h x hx).sm s
  · rw [List.mem_singleton.mp hx]
    exact ht
end Kb
set_option Elab.async false
set_option linter.all false
set_option maxRecDepth 100000
set_option maxHeartbeats 4000000
namespace Kb
open PySem PySem.Spec PyProof.Rows L2 L2.DX LamX Evl
/-! ### what the refusals are about: plain facts -/
def nmB (z : Str) : Bool := nameD (.str z) && (decide (z.length ≤ 40000) && PyData.canLay0 (.str z))
theorem nm_ok {z : Str} (h : nmB z = true) : NmOk z := by
  simp only [nmB, Bool.and_eq_true, decide_eq_true_eq] at h
  exact ⟨h.1, h.2.1, h.2.2⟩
def goodB (d : PyData) : Bool := !d.hasDict && shB d
theorem good_ok {d : PyData} (h : goodB d = true) : d.hasDict = false ∧ Sh d := by
  simp only [goodB, Bool.and_eq_true, Bool.not_eq_true'] at h
  exact ⟨h.1, shB_ok h.2⟩
theorem all_of {l : List PyData} {f : PyData → Bool} (h : l.all f = true) {d : PyData} (hd : d ∈ l) : f d = true := List.all_eq_true.mp h d hd
def oddU : List PyData := [.none, .str "nil", .str ".0", .str "X", .int 5]
def noneU : List PyData := [.none, .int (-1), .bool true, .int 1000001]
def zeroU : List PyData := [.none, .int 0, .int (-1), .bool true, .int 1000001]
theorem odd_u {d : PyData} (h : d ∈ oddU) : nameD d = false ∧ TxtOk d ∧ d.hasDict = false ∧ Sh d := by
  have h1 := all_of (show (oddU.all fun d => !nameD d && (txtB d && goodB d)) = true by decide +kernel) h
  simp only [Bool.and_eq_true, Bool.not_eq_true'] at h1
  exact ⟨h1.1, txtB_ok h1.2.1, good_ok h1.2.2⟩
theorem none_u {d : PyData} (h : d ∈ noneU) : valueD d = false ∧ d.hasDict = false ∧ Sh d := by
  have h1 := all_of (show (noneU.all fun d => !valueD d && goodB d) = true by decide +kernel) h
  simp only [Bool.and_eq_true, Bool.not_eq_true'] at h1
  exact ⟨h1.1, good_ok h1.2⟩
theorem zero_u {d : PyData} (h : d ∈ zeroU) : addrD d = false ∧ d.hasDict = false ∧ Sh d := by
  have h1 := all_of (show (zeroU.all fun d => !addrD d && goodB d) = true by decide +kernel) h
  simp only [Bool.and_eq_true, Bool.not_eq_true'] at h1
  exact ⟨h1.1, good_ok h1.2⟩
/-- a tuple of few small ints is within measure -/
theorem int_g {i : Int} (h : 0 ≤ i ∧ i ≤ 100) : RowG (.int i) := by
  have h1 : (((List.range (100 + 1)).map Int.ofNat).all fun i => rowGB (.int i)) = true := by decide +kernel
  exact rowGB_ok (List.all_eq_true.mp h1 i (rng_mem h))
theorem sh_ints {is : List Int} (h : ∀ i ∈ is, 0 ≤ i ∧ i ≤ 100) (hl : is.length ≤ 10) : PyData.hasDict (.tuple (is.map PyData.int)) = false ∧ Sh (.tuple (is.map PyData.int)) := by
  obtain ⟨a, b, c, e, f, g⟩ := rows_g (ds := is.map PyData.int) fun d hd => by
    obtain ⟨i, hi, rfl⟩ := List.mem_map.mp hd
    exact int_g (h i hi)
  rw [List.length_map] at e
  refine ⟨by simp only [PyData.hasDict, g], sh_of (by simp only [PyData.showable, a]) (by simp only [PyData.canLay0, b]) (by simp only [PyData.depth]; omega) (by simp only [PyData.weight]; omega) (by simp only [PyData.intsShort, f])⟩
def wrongU (as : List Int) : List PyData := [.none, .int 5, .tuple [.int 0], .tuple [.int 77], .tuple [.bool true], .tuple ((as.reverse ++ [77]).map PyData.int), .str "ab"]
theorem wrong_u {as : List Int} {cs : List (Key × Int)} (ha : ∀ x ∈ as, 1 ≤ x ∧ x ≤ 12) (hl : as.length ≤ 5) (h77 : inC cs (.int 77) = false) {d : PyData} (h : d ∈ wrongU as) :
    (tupD (asTup d) = none ∨ ∃ ds, asTup d = .tuple ds ∧ ds.length ≤ 40000 ∧ ds.all (fun d => addrD d && inC cs d) = false) ∧ d.hasDict = false ∧ Sh d := by
  simp only [wrongU, List.mem_cons, List.not_mem_nil, or_false] at h
  rcases h with rfl | rfl | rfl | rfl | rfl | rfl | rfl
  · exact ⟨.inl rfl, good_ok (by decide +kernel)⟩
  · exact ⟨.inl rfl, good_ok (by decide +kernel)⟩
  · exact ⟨.inr ⟨_, rfl, by decide, rfl⟩, good_ok (by decide +kernel)⟩
  · refine ⟨.inr ⟨_, rfl, by decide, ?_⟩, good_ok (by decide +kernel)⟩
    show ((addrD (.int 77) && inC cs (.int 77)) && true) = false
    rw [h77]
    rfl
  · exact ⟨.inr ⟨_, rfl, by decide, rfl⟩, good_ok (by decide +kernel)⟩
  · refine ⟨.inr ⟨_, rfl, by simp; omega, ?_⟩, sh_ints (fun i hi => ?_) (by simp; omega)⟩
    · rw [List.map_append, List.all_append]
      have : (List.map PyData.int [77]).all (fun d => addrD d && inC cs d) = false := by
        show ((addrD (.int 77) && inC cs (.int 77)) && true) = false
        rw [h77]
        rfl
      rw [this, Bool.and_false]
    · rcases List.mem_append.mp hi with hi | hi
      · have := ha i (List.mem_reverse.mp hi)
        omega
      · rw [List.mem_singleton.mp hi]
        decide
  · exact ⟨.inl rfl, good_ok (by decide +kernel)⟩
def p2 (a b : Int) : PyData := .tuple [.int a, .int b]
def imagesU : List PyData := [.none, .int 5, .tuple [p2 1 0], .tuple [p2 0 1], .tuple [.tuple [.int 1, .bool true]], .tuple [p2 1 2, p2 1 3], .tuple [p2 1 3, p2 2 3], .tuple [p2 2 1, p2 1 2], .tuple [.tuple [.int 1]], .tuple [.list [.int 1, .int 2]]]
theorem images_u {ns : List (Key × Int)} {cells : List (Int × Int)} {d : PyData} (h : d ∈ imagesU) : ImBad ns cells (asTup d) ∧ d.hasDict = false ∧ Sh d := by
  refine ⟨?_, good_ok (all_of (show imagesU.all goodB = true by decide +kernel) h)⟩
  simp only [imagesU, List.mem_cons, List.not_mem_nil, or_false] at h
  rcases h with rfl | rfl | rfl | rfl | rfl | rfl | rfl | rfl | rfl | rfl
  · exact .n1 rfl
  · exact .n1 rfl
  · exact .n3 _ (by decide) rfl (by decide +kernel)
  · exact .n3 _ (by decide) rfl (by decide +kernel)
  · exact .n3 _ (by decide) rfl (by decide +kernel)
  · exact .n4 [(1, 2), (1, 3)] (by decide) (by decide +kernel) (by decide +kernel)
  · refine .n4 [(1, 3), (2, 3)] (by decide) (by decide +kernel) ?_
    have e : srtI (([(1, 3), (2, 3)] : List (Int × Int)).map (·.2)) = [3, 3] := perm_le_eq (srt_perm _) (srt_le _) (by decide)
    rw [e]
    decide +kernel
  · exact .n4 [(2, 1), (1, 2)] (by decide) (by decide +kernel) (by decide +kernel)
  · exact .n2 _ (by decide) rfl
  · exact .n2 _ (by decide) rfl
/-! the great heap, the wide store -/
def greatR : List (Key × Int) := (List.range 40).map fun i : Nat => (.inl (100 + (i : Int)), 0)
def wideS (i : Nat) : Str := ("a" : Str) ++ (toString (10 + (i : Int)) : Str)
def wideR : List (Key × Int) := (List.range 60).map fun i : Nat => (.inr (wideS i), 0)
def ascB : List (Key × Int) → Bool
  | [] => true
  | x :: r => r.all (fun y => ltKy x.1 y.1) && ascB r
theorem asc_ok : ∀ {l : List (Key × Int)}, ascB l = true → AscK l
  | [], _ => .nil
  | x :: r, h => by
    simp only [ascB, Bool.and_eq_true] at h
    exact List.pairwise_cons.mpr ⟨fun y hy => List.all_eq_true.mp h.1 y hy, asc_ok h.2⟩
theorem great_g : HG greatR := by
  refine ⟨fun q hq => ?_, fun q hq => ?_, asc_ok (by decide +kernel), by decide +kernel⟩
  · obtain ⟨i, hi, rfl⟩ := List.mem_map.mp hq
    have := List.mem_range.mp hi
    exact ⟨_, rfl, by omega, by omega⟩
  · obtain ⟨i, hi, rfl⟩ := List.mem_map.mp hq
    exact ⟨Int.le_refl _, show (0 : Int) ≤ 1000000 by decide⟩
theorem wide_g : SG wideR := by
  have h1 : ((List.range 60).all fun i => nmB (wideS i)) = true := by decide +kernel
  refine ⟨fun q hq => ?_, fun q hq => ?_, asc_ok (by decide +kernel), by decide +kernel⟩
  · obtain ⟨i, hi, rfl⟩ := List.mem_map.mp hq
    exact ⟨_, rfl, nm_ok (List.all_eq_true.mp h1 i hi)⟩
  · obtain ⟨i, hi, rfl⟩ := List.mem_map.mp hq
    exact ⟨Int.le_refl _, show (0 : Int) ≤ 1000000 by decide⟩
theorem sg_nil : SG [] := ⟨fun _ h => (nomatch h), fun _ h => (nomatch h), .nil, by decide⟩
theorem hg_nil : HG [] := ⟨fun _ h => (nomatch h), fun _ h => (nomatch h), .nil, by decide⟩
theorem hg_one : HG [(.inl 1, 0)] := ⟨fun q h => by rw [List.mem_singleton.mp h]; exact ⟨1, rfl, by decide⟩, fun q h => by rw [List.mem_singleton.mp h]; decide, List.pairwise_singleton _ _, by decide⟩
theorem eqv_len {xs ys : List PyData} (h : xs.length ≠ ys.length) : PyData.eqvAll xs ys = false := by
  induction xs generalizing ys with
  | nil =>
    cases ys with
    | nil => exact absurd rfl h
    | cons y r => rfl
  | cons x r ih =>
    cases ys with
    | nil => rfl
    | cons y s =>
      rw [PyData.eqvAll, ih (fun z => h (by rw [List.length_cons, List.length_cons, z])), Bool.and_false]
theorem eqv_rows_ne {ns ms : List (Key × Int)} (h : ns.length ≠ ms.length) : PyData.eqv (rowsD ns) (rowsD ms) = false := by
  show PyData.eqv (.tuple (ns.map rowD)) (.tuple (ms.map rowD)) = false
  rw [PyData.eqv]
  exact eqv_len (by rw [List.length_map, List.length_map]; exact h)
theorem eqv_rows_self {l : List (Key × Int)} (h : ∀ q ∈ l, PyData.canLay0 (kD q.1) = true) : PyData.eqv (rowsD l) (rowsD l) = true := SeqAt.eqv_refl _ (SeqAt.canLay_of_shaped (shaped_rows h))
end Kb
set_option Elab.async false
set_option linter.all false
set_option maxRecDepth 100000
set_option maxHeartbeats 8000000
namespace Kb
open PySem PySem.Spec PyProof.Rows L2 L2.DX LamX Evl
theorem StG.sm {K : PySem.W.Frag} {H H' : Hp} {C a : Addr} {ns cs : List (Key × Int)} (h : StG K H C a ns cs) (e : Sm H H') : StG K H' C a ns cs := ⟨h.m.sm e, h.s, h.h⟩
theorem noLs_map {α : Type} {f : α → PyData} (h : ∀ x, noL (f x) = true) : ∀ l : List α, noLs (l.map f) = true
  | [] => rfl
  | x :: r => by
    show (noL (f x) && noLs (r.map f)) = true
    rw [h x, noLs_map h r]
    rfl
theorem greatD : rowsD greatR = .tuple ((List.range 40).map fun i : Nat => rowD (.inl (100 + (i : Int)), 0)) := by
  show PyData.tuple (((List.range 40).map _).map rowD) = _
  rw [List.map_map]
  rfl
theorem wideD : ((List.range 60).map fun i : Nat => rowD (.inr (wideS i), 0)) = wideR.map rowD := by
  show _ = ((List.range 60).map _).map rowD
  rw [List.map_map]
  rfl
theorem wide_l {i : Nat} (h : i < 60) : (10 + (i : Int)).natAbs.log2 < 1920 ∧ Str.length "a" + Str.length (toString (10 + (i : Int)) : Str) ≤ 100000 := by
  have h1 : ((List.range 60).all fun i : Nat => decide ((10 + (i : Int)).natAbs.log2 < 1920) && decide (Str.length "a" + Str.length (toString (10 + (i : Int)) : Str) ≤ 100000)) = true := by decide +kernel
  have h2 := List.all_eq_true.mp h1 i (List.mem_range.mpr h)
  simpa using h2
def zzR : Key × Int := (.inr "zz", 1)
def spRefB (K : PySem.W.Frag) (C : Addr) (T : List (Addr × Str)) : SpZ := fun _ _ vs H Q => ∃ (p : Addr × Addr) (a : Addr) (v : V) (ns : List (Key × Int)) (cells : List (Int × Int)), vs = [.ref p.1, .ref a, v] ∧ Pen H p ∧ Tabs T H ∧ StG K H C a ns (cells.map cI) ∧ LS K H v ns (cells.map cI) ∧
  CellsOk cells ∧ ns.length ≤ 4 ∧ ns ≠ [] ∧ SG (ns ++ [zzR]) ∧ Sh (stD ns cells) ∧ (stD ns cells).hasDict = false ∧ ∀ H', Pen H' p → Tabs T H' → Q (.bl true) H'
section
variable {K : PySem.W.Frag} {σ : L2.St} {H J : Hp} {te ta tb td : TE} {tr : TA} {d d' : PyData} {D : Ends} {tz tu : TS} {X : Cx} {T : List (Addr × Str)} {params : Arguments} {body : Expr} {scope : Scope}
theorem evd_is2 (h : EvD te σ H (fun w H1 => Dp K H1 w d)) (e : d = d') : EvD te σ H (fun w H1 => Dp K H1 w d') := by
  rw [← e]
  exact h
theorem ret_cz {sp : SpZ} (h : te σ H (fun l H1 => ∀ pins s1, L2.Inv X pins σ H1 s1 → sp s1 (frs X.stack) [l] H1 (fun v H2 => D.rt v H2))) : tRet (tCallZ X sp (tCons te tNil)) D σ H := h
theorem q_ifRest {R : Hp → Prop} {t : TT} {b : Bool} (hb : EvT t σ H b) (h1 : b = true → ∀ H1, Ex H H1 → ∀ Dk : Ends, (∀ J, R J → Dk.nx σ J) → tu Dk σ H1) (h2 : b = false → ∀ H1, Ex H H1 → R H1) (rest : ∀ J, R J → tz D σ J) : tSeq (tIfS t tu tNext) tz D σ H :=
  q_when hb (fun z H1 e1 => h1 z H1 e1 _ rest) (fun z H1 e1 => rest H1 (h2 z H1 e1))
theorem s_appF {H2 : Hp} {p : Addr × Addr} {lc : Addr} {ts : List V} {i : Nat} {Ψ : List V → Hp → Prop} (F : Fd H2 p T lc ts J) (hp2 : Pen H2 p) (hlc2 : H2 lc = none) (hσ : σ[i]? = some (some (.ref lc))) (hz : ts.length ≤ 1000) (hd : DueR K td σ J Ψ) (hm : ∀ ds A B, Sm A B → Ψ ds A → Ψ ds B)
    (k : ∀ ds tup J', Fd H2 p T lc (ts ++ [.ref tup]) J' → Sm J J' → Ψ ds J' → Itm K (X.env.qual ++ "<lambda>") params body scope (cloFrom X.env.cells scope.names []) ds tup J' → D.nx σ J') :
    tDrop (tBM K "list" rAppend (tVar i) (tCons (tTup (tCons (tLamT X T params body scope) (tCons td tNil))) tNil)) D σ J := q_appF (tz := fun _ => D.nx) F hp2 hlc2 hσ hz hd hm k
end
section
variable {P : Program} {w : World} {K : PySem.W.Frag} {mg : Str → Option Value} {base : Heap} {C BR BN TM UN : Addr} {cA : Nat → Addr} {cc tb : Addr}
theorem ok_refusals2 (B : Bi mg) (hc2 : cA 2 = BR) (hc1 : cA 1 = BN) (hc5 : cA 5 = TM) (hc6 : cA 6 = UN) (g__law_pick : Gv P w K mg base CX0 2 "_law_pick" ["pen", "some"] (spPick K)) (g__law_raise_so : Gz P w K mg base 11 "_law_raise_so" ["calls"] (spRaiseSoP P w K mg base 9 cA))
    (m_State : Mkr P w K mg base (L2.CX P w) 5 "State" C ["self", "store", "heap"] (spSInit K C BR)) (g_with_value : Gv P w K mg base (L2.CX P w) 8 "with_value" ["state", "name", "value"] (spWithValue K C BR BN TM)) (g_with_cell : Gv P w K mg base (L2.CX P w) 7 "with_cell" ["state", "address", "value"] (spWithCell K C BR BN TM))
    (g_without_cell : Gv P w K mg base (L2.CX P w) 7 "without_cell" ["state", "address"] (spWithoutCell K C BR BN UN)) (g_heap_part : Gv P w K mg base (L2.CX P w) 8 "heap_part" ["state", "addresses"] (spHeapPart K C BR)) (g_joined_states : Gv P w K mg base (L2.CX P w) 7 "joined_states" ["one", "other"] (spJoin K C BR TM UN))
    (g_moved_state : Gv P w K mg base (L2.CX P w) 8 "moved_state" ["state", "images"] (spMovedState K C BR)) (TB : TabB base mg cc tb) {T : List (Addr × Str)} (hmT : (tb, (("_law_refusals_right" : Str) ++ ".<locals>.") ++ "<lambda>") ∈ T) (huT : ∀ q ∈ T, q.1 = tb → q.2 = (("_law_refusals_right" : Str) ++ ".<locals>.") ++ "<lambda>") (D : DfT K mg "_law_refusals_right" s__law_refusals_right ["pen", "made", "state"] cc) : Gz P w K mg base 12 "_law_refusals_right" ["pen", "made", "state"] (spRefB K C T) := by
  have nd := sc__law_refusals_right.nd
  refine D.gz sc__law_refusals_right (fun s fr vs H Q h => ?_) (fun f0 A outer s H vs Q hr hgd h => ?_)
  · obtain ⟨p, a, v, ns, cells, rfl, _⟩ := h
    rfl
  have hu64 := hu64_of hr
  refine ⟨_, (pss_cons (ps_asg (pe_tup (pa_cons (pe_cg g__law_pick hr rfl pass0 (pa_cons (pv 0) (pa_cons (pe_lst (pa_cons pe_non (pa_cons (pv 2) (pa_cons pe_int pa_nil)))) pa_nil))) (pa_cons (pe_cg g__law_pick hr rfl pass0 (pa_cons (pv 0) (pa_cons (pe_lst (pa_cons pe_non (pa_cons pe_str (pa_cons pe_str (pa_cons pe_str (pa_cons pe_int pa_nil)))))) pa_nil))) (pa_cons (pe_cg g__law_pick hr rfl pass0 (pa_cons (pv 0) (pa_cons (pe_lst (pa_cons pe_non (pa_cons (pe_un un_neg pe_int) (pa_cons pe_bl (pa_cons (pe_op (r := rAdd K) opA_add (pe_op op_pow pe_int pe_int) pe_int) pa_nil))))) pa_nil))) pa_nil)))) (pgK_tup (K := K) (n := 3) rfl rfl (pgs_cons (pg_name (i := 3) nd rfl (.inr rfl)) (pgs_cons (pg_name (i := 4) nd rfl (.inr rfl)) (pgs_cons (pg_name (i := 5) nd rfl (.inr rfl)) pgs_nil)))))
    (pss_cons (ps_asg (pe_tup (pa_cons (pe_cg g__law_pick hr rfl pass0 (pa_cons (pv 0) (pa_cons (pe_lst (pa_cons pe_non (pa_cons pe_int (pa_cons (pe_un un_neg pe_int) (pa_cons pe_bl (pa_cons (pe_op (r := rAdd K) opA_add (pe_op op_pow pe_int pe_int) pe_int) pa_nil)))))) pa_nil))) (pa_cons (pe_lc (own := [("address", 13), ("value", 14)]) rfl nd (piA_seq (pe_ix (r := rIx K) ix_seq (pv 2) pe_int (fun _ _ => rfl))) (blk_ok (by kernel_rfl)) (fun _ _ _ _ _ => (pgK_tup (K := K) (n := 2) rfl rfl (pgs_cons (pg_name (i := 13) nd rfl (.inl rfl)) (pgs_cons (pg_name (i := 14) nd rfl (.inl rfl)) pgs_nil)))) (fun _ _ _ _ _ => pts_nil) (fun _ _ _ _ _ => (pv 13))) pa_nil))) (pgK_tup (K := K) (n := 2) rfl rfl (pgs_cons (pg_name (i := 6) nd rfl (.inr rfl)) (pgs_cons (pg_name (i := 7) nd rfl (.inl rfl)) pgs_nil))))
    (pss_cons (ps_set (i := 8) nd rfl (.inr rfl) (pe_cg g__law_pick hr rfl pass0 (pa_cons (pv 0) (pa_cons (pe_lst (pa_cons pe_non (pa_cons pe_int (pa_cons (pe_tup (pa_cons pe_int pa_nil)) (pa_cons (pe_tup (pa_cons pe_int pa_nil)) (pa_cons (pe_tup (pa_cons pe_bl pa_nil)) (pa_cons (pe_op (r := rAdd K) opA_add (pe_callTy (r := rTupP K) call_tupleP rfl B.tuple (by decide +kernel) (pa_cons (pe_revK (K := K) rfl (pv 7)) pa_nil)) (pe_tup (pa_cons pe_int pa_nil))) (pa_cons pe_str pa_nil)))))))) pa_nil))))
    (pss_cons (ps_set (i := 9) nd rfl (.inr rfl) (pe_cg g__law_pick hr rfl pass0 (pa_cons (pv 0) (pa_cons (pe_lst (pa_cons pe_non (pa_cons pe_int (pa_cons (pe_tup (pa_cons (pe_tup (pa_cons pe_int (pa_cons pe_int pa_nil))) pa_nil)) (pa_cons (pe_tup (pa_cons (pe_tup (pa_cons pe_int (pa_cons pe_int pa_nil))) pa_nil)) (pa_cons (pe_tup (pa_cons (pe_tup (pa_cons pe_int (pa_cons pe_bl pa_nil))) pa_nil)) (pa_cons (pe_tup (pa_cons (pe_tup (pa_cons pe_int (pa_cons pe_int pa_nil))) (pa_cons (pe_tup (pa_cons pe_int (pa_cons pe_int pa_nil))) pa_nil))) (pa_cons (pe_tup (pa_cons (pe_tup (pa_cons pe_int (pa_cons pe_int pa_nil))) (pa_cons (pe_tup (pa_cons pe_int (pa_cons pe_int pa_nil))) pa_nil))) (pa_cons (pe_tup (pa_cons (pe_tup (pa_cons pe_int (pa_cons pe_int pa_nil))) (pa_cons (pe_tup (pa_cons pe_int (pa_cons pe_int pa_nil))) pa_nil))) (pa_cons (pe_tup (pa_cons (pe_tup (pa_cons pe_int pa_nil)) pa_nil)) (pa_cons (pe_tup (pa_cons (pe_lst (pa_cons pe_int (pa_cons pe_int pa_nil))) pa_nil)) pa_nil))))))))))) pa_nil))))
    (pss_cons (ps_set (i := 10) nd rfl (.inl rfl) (pe_lst (pa_cons (pe_tup (pa_cons (pe_lamT (T := T) TB rfl hmT huT rfl (lamS_by (by kernel_rfl))) (pa_cons (pe_tup (pa_cons pe_str (pa_cons pe_str (pa_cons (pv 3) pa_nil)))) pa_nil))) pa_nil)))
    (pss_cons (ps_expr (pe_bmK (K := K) rfl PySem.F.plainAttrs_list PySem.F.slot_list_append PySem.F.type_list_append mt_append (pv 10) (pa_cons (pe_tup (pa_cons (pe_lamT (T := T) TB rfl hmT huT rfl (lamS_by (by kernel_rfl))) (pa_cons (pe_tup (pa_cons pe_str (pa_cons pe_str (pa_cons (pv 4) pa_nil)))) pa_nil))) pa_nil)))
    (pss_cons (ps_expr (pe_bmK (K := K) rfl PySem.F.plainAttrs_list PySem.F.slot_list_append PySem.F.type_list_append mt_append (pv 10) (pa_cons (pe_tup (pa_cons (pe_lamT (T := T) TB rfl hmT huT rfl (lamS_by (by kernel_rfl))) (pa_cons (pe_tup (pa_cons pe_str (pa_cons pe_str (pa_cons (pv 5) pa_nil)))) pa_nil))) pa_nil)))
    (pss_cons (ps_expr (pe_bmK (K := K) rfl PySem.F.plainAttrs_list PySem.F.slot_list_append PySem.F.type_list_append mt_append (pv 10) (pa_cons (pe_tup (pa_cons (pe_lamT (T := T) TB rfl hmT huT rfl (lamS_by (by kernel_rfl))) (pa_cons (pe_tup (pa_cons pe_str (pa_cons pe_str (pa_cons (pv 3) pa_nil)))) pa_nil))) pa_nil)))
    (pss_cons (ps_expr (pe_bmK (K := K) rfl PySem.F.plainAttrs_list PySem.F.slot_list_append PySem.F.type_list_append mt_append (pv 10) (pa_cons (pe_tup (pa_cons (pe_lamT (T := T) TB rfl hmT huT rfl (lamS_by (by kernel_rfl))) (pa_cons (pe_tup (pa_cons pe_str (pa_cons pe_str (pa_cons (pv 6) pa_nil)))) pa_nil))) pa_nil)))
    (pss_cons (ps_expr (pe_bmK (K := K) rfl PySem.F.plainAttrs_list PySem.F.slot_list_append PySem.F.type_list_append mt_append (pv 10) (pa_cons (pe_tup (pa_cons (pe_lamT (T := T) TB rfl hmT huT rfl (lamS_by (by kernel_rfl))) (pa_cons (pe_tup (pa_cons pe_str (pa_cons pe_str (pa_cons (pv 5) pa_nil)))) pa_nil))) pa_nil)))
    (pss_cons (ps_expr (pe_bmK (K := K) rfl PySem.F.plainAttrs_list PySem.F.slot_list_append PySem.F.type_list_append mt_append (pv 10) (pa_cons (pe_tup (pa_cons (pe_lamT (T := T) TB rfl hmT huT rfl (lamS_by (by kernel_rfl))) (pa_cons (pe_tup (pa_cons pe_str (pa_cons pe_str (pa_cons (pv 3) pa_nil)))) pa_nil))) pa_nil)))
    (pss_cons (ps_expr (pe_bmK (K := K) rfl PySem.F.plainAttrs_list PySem.F.slot_list_append PySem.F.type_list_append mt_append (pv 10) (pa_cons (pe_tup (pa_cons (pe_lamT (T := T) TB rfl hmT huT rfl (lamS_by (by kernel_rfl))) (pa_cons (pe_tup (pa_cons pe_str (pa_cons pe_str (pa_cons (pv 6) pa_nil)))) pa_nil))) pa_nil)))
    (pss_cons (ps_expr (pe_bmK (K := K) rfl PySem.F.plainAttrs_list PySem.F.slot_list_append PySem.F.type_list_append mt_append (pv 10) (pa_cons (pe_tup (pa_cons (pe_lamT (T := T) TB rfl hmT huT rfl (lamS_by (by kernel_rfl))) (pa_cons (pe_tup (pa_cons pe_str (pa_cons pe_str pa_nil))) pa_nil))) pa_nil)))
    (pss_cons (ps_expr (pe_bmK (K := K) rfl PySem.F.plainAttrs_list PySem.F.slot_list_append PySem.F.type_list_append mt_append (pv 10) (pa_cons (pe_tup (pa_cons (pe_lamT (T := T) TB rfl hmT huT rfl (lamS_by (by kernel_rfl))) (pa_cons (pe_tup (pa_cons pe_str (pa_cons pe_str (pa_cons (pv 3) pa_nil)))) pa_nil))) pa_nil)))
    (pss_cons (ps_expr (pe_bmK (K := K) rfl PySem.F.plainAttrs_list PySem.F.slot_list_append PySem.F.type_list_append mt_append (pv 10) (pa_cons (pe_tup (pa_cons (pe_lamT (T := T) TB rfl hmT huT rfl (lamS_by (by kernel_rfl))) (pa_cons (pe_tup (pa_cons pe_str (pa_cons pe_str (pa_cons (pv 8) pa_nil)))) pa_nil))) pa_nil)))
    (pss_cons (ps_expr (pe_bmK (K := K) rfl PySem.F.plainAttrs_list PySem.F.slot_list_append PySem.F.type_list_append mt_append (pv 10) (pa_cons (pe_tup (pa_cons (pe_lamT (T := T) TB rfl hmT huT rfl (lamS_by (by kernel_rfl))) (pa_cons (pe_tup (pa_cons pe_str (pa_cons pe_str (pa_cons (pv 3) pa_nil)))) pa_nil))) pa_nil)))
    (pss_cons (ps_expr (pe_bmK (K := K) rfl PySem.F.plainAttrs_list PySem.F.slot_list_append PySem.F.type_list_append mt_append (pv 10) (pa_cons (pe_tup (pa_cons (pe_lamT (T := T) TB rfl hmT huT rfl (lamS_by (by kernel_rfl))) (pa_cons (pe_tup (pa_cons pe_str (pa_cons pe_str (pa_cons (pv 3) pa_nil)))) pa_nil))) pa_nil)))
    (pss_cons (ps_expr (pe_bmK (K := K) rfl PySem.F.plainAttrs_list PySem.F.slot_list_append PySem.F.type_list_append mt_append (pv 10) (pa_cons (pe_tup (pa_cons (pe_lamT (T := T) TB rfl hmT huT rfl (lamS_by (by kernel_rfl))) (pa_cons (pe_tup (pa_cons pe_str (pa_cons pe_str pa_nil))) pa_nil))) pa_nil)))
    (pss_cons (ps_expr (pe_bmK (K := K) rfl PySem.F.plainAttrs_list PySem.F.slot_list_append PySem.F.type_list_append mt_append (pv 10) (pa_cons (pe_tup (pa_cons (pe_lamT (T := T) TB rfl hmT huT rfl (lamS_by (by kernel_rfl))) (pa_cons (pe_tup (pa_cons pe_str (pa_cons pe_str (pa_cons (pv 3) pa_nil)))) pa_nil))) pa_nil)))
    (pss_cons (ps_expr (pe_bmK (K := K) rfl PySem.F.plainAttrs_list PySem.F.slot_list_append PySem.F.type_list_append mt_append (pv 10) (pa_cons (pe_tup (pa_cons (pe_lamT (T := T) TB rfl hmT huT rfl (lamS_by (by kernel_rfl))) (pa_cons (pe_tup (pa_cons pe_str (pa_cons pe_str (pa_cons (pv 9) pa_nil)))) pa_nil))) pa_nil)))
    (pss_cons (ps_if (pt_cmpR (r := rNeA K) (opA_ne hu64) (pe_ix (r := rIx K) ix_seq (pv 2) pe_int (fun _ _ => rfl)) (pe_tupF pa_nil) (nomark _)) (pss_cons (ps_expr (pe_bmK (K := K) rfl PySem.F.plainAttrs_list PySem.F.slot_list_append PySem.F.type_list_append mt_append (pv 10) (pa_cons (pe_tup (pa_cons (pe_lamT (T := T) TB rfl hmT huT rfl (lamS_by (by kernel_rfl))) (pa_cons (pe_tup (pa_cons pe_str (pa_cons pe_str pa_nil))) pa_nil))) pa_nil)))
    (pss_one (ps_expr (pe_bmK (K := K) rfl PySem.F.plainAttrs_list PySem.F.slot_list_append PySem.F.type_list_append mt_append (pv 10) (pa_cons (pe_tup (pa_cons (pe_lamT (T := T) TB rfl hmT huT rfl (lamS_by (by kernel_rfl))) (pa_cons (pe_tup (pa_cons pe_str (pa_cons pe_str (pa_cons (pe_tupF pa_nil) pa_nil)))) pa_nil))) pa_nil))))) pss_nil)
    (pss_cons (ps_set (i := 11) nd rfl (.inr rfl) (pe_callTy (r := rTupP K) call_tupleP rfl B.tuple (by decide +kernel) (pa_cons (pe_lc (own := [("address", 13)]) rfl nd (pi_range2 rfl B.range (pa_cons pe_int (pa_cons pe_int pa_nil))) (blk_ok (by kernel_rfl)) (fun _ _ _ _ _ => (pg_name (i := 13) nd rfl (.inl rfl))) (fun _ _ _ _ _ => pts_nil) (fun _ _ _ _ _ => (pe_tup (pa_cons (pv 13) (pa_cons pe_int pa_nil))))) pa_nil)))
    (pss_cons (ps_expr (pe_bmK (K := K) rfl PySem.F.plainAttrs_list PySem.F.slot_list_append PySem.F.type_list_append mt_append (pv 10) (pa_cons (pe_tup (pa_cons (pe_lamT (T := T) TB rfl hmT huT rfl (lamS_by (by kernel_rfl))) (pa_cons (pe_tup (pa_cons pe_str (pa_cons pe_str (pa_cons pe_int (pa_cons pe_int pa_nil))))) pa_nil))) pa_nil)))
    (pss_cons (ps_expr (pe_bmK (K := K) rfl PySem.F.plainAttrs_list PySem.F.slot_list_append PySem.F.type_list_append mt_append (pv 10) (pa_cons (pe_tup (pa_cons (pe_lamT (T := T) TB rfl hmT huT rfl (lamS_by (by kernel_rfl))) (pa_cons (pe_tup (pa_cons pe_str (pa_cons pe_str (pa_cons pe_int (pa_cons pe_int pa_nil))))) pa_nil))) pa_nil)))
    (pss_cons (ps_set (i := 12) nd rfl (.inr rfl) (pe_mk m_State hr rfl passE0 (pa_cons (pe_lc (own := [("at", 15)]) rfl nd (pi_range2 rfl B.range (pa_cons pe_int (pa_cons pe_int pa_nil))) (blk_ok (by kernel_rfl)) (fun _ _ _ _ _ => (pg_name (i := 15) nd rfl (.inl rfl))) (fun _ _ _ _ _ => pts_nil) (fun _ _ _ _ _ => (pe_tup (pa_cons (pe_op (r := rAdd K) opA_add pe_str (pe_callTy (r := rStrI) call_strI rfl B.str (by decide +kernel) (pa_cons (pv 15) pa_nil))) (pa_cons pe_int pa_nil))))) (pa_cons (pe_tupF pa_nil) pa_nil))))
    (pss_cons (ps_expr (pe_bmK (K := K) rfl PySem.F.plainAttrs_list PySem.F.slot_list_append PySem.F.type_list_append mt_append (pv 10) (pa_cons (pe_tup (pa_cons (pe_lamT (T := T) TB rfl hmT huT rfl (lamS_by (by kernel_rfl))) (pa_cons (pe_tup (pa_cons pe_str (pa_cons pe_str (pa_cons pe_int (pa_cons pe_int pa_nil))))) pa_nil))) pa_nil)))
    (pss_one (ps_ret (pe_cz g__law_raise_so hr hgd rfl (pa_cons (pv 10) pa_nil)))))))))))))))))))))))))))))), ?_⟩
  obtain ⟨p, a, v, ns, cells, rfl, hp, hT, hS, hLS, hck, hn4, hn0, hzz, hSh, hnd, hQ⟩ := h
  have hsD : Dp K H v (stD ns cells) := hLS.dp
  obtain ⟨as, has⟩ : ∃ as : List Int, as = cells.map (·.1) := ⟨_, rfl⟩
  have asr : ∀ x ∈ as, 1 ≤ x ∧ x ≤ 12 := fun x hx => by
    rw [has] at hx
    obtain ⟨c, hc, rfl⟩ := List.mem_map.mp hx
    exact hck.rng c hc
  have asl : as.length ≤ 5 := by rw [has, List.length_map]; exact hck.len
  have h77 : inC (cells.map cI) (.int 77) = false := by
    show ((cells.map cI).any fun p => decide (p.1 = .inl 77)) = false
    rw [List.any_map, List.any_eq_false]
    intro c hc z
    have z : (Sum.inl c.1 : Key) = .inl 77 := of_decide_eq_true z
    have := Sum.inl.inj z
    have := hck.rng c hc
    omega
  have sm_none : Sh .none := shB_ok (by decide +kernel)
  refine qr_asgU3 hp (R := fun x y z H => (∃ d ∈ [.none, stD ns cells, .int 5], Dp K H x d) ∧ (∃ d ∈ oddU, Dp K H y d) ∧ ∃ d ∈ noneU, Dp K H z d) ((era_cons (er_pickLD (ds := [.none, stD ns cells, .int 5]) (fun H2 x2 => ev_var rfl) (fun H2 x2 => eld_lst (eda_d (evd_n ev_c) (eda_d (evd_c (ev_var rfl) (fun H3 e3 => Dp.ext e3 (x2.dp hp hsD))) (eda_d (evd_i ev_c) eda_d0))) (show 3 ≤ 100000 by decide)) ⟨show 0 < 3 by decide, show 3 < 1073741824 by decide⟩)
    (era_cons (er_pickLD (ds := oddU) (fun H2 x2 => ev_var rfl) (fun H2 x2 => eld_lst (by repeat' first | exact eda_d0 | apply eda_d | (refine evd_tupD ?_ (by decide)) | (refine evd_lstD ?_ (by decide)) | exact evd_i ev_c | exact evd_b ev_c | exact evd_s ev_c | exact evd_n ev_c | exact evd_i (ev_neg ev_c) | exact evd_i (ev_is (ev_op (ev_op ev_c ev_c (rv_I (by unfold CPow; decide))) ev_c rv_add) (by decide))) (by decide)) (by decide)) (era1 (er_pickLD (ds := noneU) (fun H2 x2 => ev_var rfl) (fun H2 x2 => eld_lst (by repeat' first | exact eda_d0 | apply eda_d | (refine evd_tupD ?_ (by decide)) | (refine evd_lstD ?_ (by decide)) | exact evd_i ev_c | exact evd_b ev_c | exact evd_s ev_c | exact evd_n ev_c | exact evd_i (ev_neg ev_c) | exact evd_i (ev_is (ev_op (ev_op ev_c ev_c (rv_I (by unfold CPow; decide))) ev_c rv_add) (by decide))) (by decide)) (by decide))) (fun v H2 H3 x2 x3 ⟨d, hd, h⟩ => ⟨d, hd, x3.dp x2.pen h⟩)) (fun v H2 H3 x2 x3 ⟨d, hd, h⟩ => ⟨d, hd, x3.dp x2.pen h⟩)).imp (fun vs H2 x2 ⟨b, r, e, hb, y, r2, e2, hy, z, e3, hz⟩ => ⟨b, y, z, by rw [e, e2, e3], hb, hy, hz⟩))
    (fun x y z H2 H3 e ⟨⟨d1, a1, b1⟩, ⟨d2, a2, b2⟩, ⟨d3, a3, b3⟩⟩ => ⟨⟨d1, a1, Dp.ext e b1⟩, ⟨d2, a2, Dp.ext e b2⟩, ⟨d3, a3, Dp.ext e b3⟩⟩) (fun vb vo vn Ha xa hRa => ?_)
  obtain ⟨⟨dB, hdB, hBa⟩, ⟨dO, hdO, hOa⟩, ⟨dN, hdN, hNa⟩⟩ := hRa
  have hpa := xa.pen
  have hLSa := hLS.px hp xa
  obtain ⟨t, v1, v2, rfl, hta, hd1, hd2⟩ := id hLSa
  obtain ⟨q2, xs2, ds2, rfl, e2d, hq2, ha2⟩ := id hd2
  have e2d : PyData.tuple ((cells.map cI).map rowD) = .tuple ds2 := e2d
  injection e2d with e2d
  subst e2d
  have lx2 : xs2.length ≤ 40000 := by
    rw [dpAll_len ha2, List.length_map, List.length_map]
    have := hck.len
    omega
  have fsts : ((cells.map cI).map fun p : Key × Int => (kV p.1, V.int p.2)).map Prod.fst = as.map V.int := by
    rw [has, List.map_map, List.map_map, List.map_map]
    rfl
  refine qr_asgDL (ys := as.map V.int) (Φ := fun x G => ∃ d ∈ zeroU, Dp K G x d) hpa (er_pickLD (ds := zeroU) (fun H2 x2 => ev_var rfl) (fun H2 x2 => eld_lst (by repeat' first | exact eda_d0 | apply eda_d | (refine evd_tupD ?_ (by decide)) | (refine evd_lstD ?_ (by decide)) | exact evd_i ev_c | exact evd_b ev_c | exact evd_s ev_c | exact evd_n ev_c | exact evd_i (ev_neg ev_c) | exact evd_i (ev_is (ev_op (ev_op ev_c ev_c (rv_I (by unfold CPow; decide))) ev_c rv_add) (by decide))) (by decide)) (by decide)) (fun H1 x1 => el_is (el_prt1 (ev_op (ev_var rfl) ev_c (rv_iT (x1.t hpa hta) (atI_nat (j := 1) rfl))) (x1.t hpa hq2.t) (rows_prt (x1.dps hpa ha2)) lx2 (fun _ _ => rfl) (fun _ _ => et_true fun _ _ _ q => q) (fun u H1 => ev_var rfl)) fsts)
    (fun x A B e ⟨d, hd, h⟩ => ⟨d, hd, Dp.ext e h⟩) (fun vz lq Hb xb hZb hlq => ?_)
  obtain ⟨dZ, hdZ, hZb⟩ := hZb
  have hpb := xb.pen
  refine qr_asg hpb (Φ := fun x G => ∃ d ∈ wrongU as, Dp K G x d) (er_pickLD (ds := wrongU as) (fun H2 x2 => ev_var rfl) (fun H2 x2 => eld_lst (eda_d (evd_n ev_c) (eda_d (evd_i ev_c) (eda_d (evd_tupD (eda_d (evd_i ev_c) eda_d0) (show 1 ≤ 100000 by decide)) (eda_d (evd_tupD (eda_d (evd_i ev_c) eda_d0) (show 1 ≤ 100000 by decide)) (eda_d (evd_tupD (eda_d (evd_b ev_c) eda_d0) (show 1 ≤ 100000 by decide))
    (eda_d (evd_is2 (evd_catT (ds := as.reverse.map PyData.int) (es := [.int 77]) (evd_tupL (is := as.reverse) (el_is (el_rev (ev_var rfl) (sq_of (x2.at_ hpb hlq (fun _ z => nomatch z)))) (by rw [List.map_reverse]))) (evd_tupD (eda_d (evd_i ev_c) eda_d0) (show 1 ≤ 100000 by decide)) (by simp; omega)) (by rw [List.map_append]; rfl)) (eda_d (evd_s ev_c) eda_d0))))))) (show 7 ≤ 100000 by decide)) ⟨show 0 < 7 by decide, show 7 < 1073741824 by decide⟩) (fun vw Hc xc ⟨dW, hdW, hWc⟩ => ?_)
  have hpc := xc.pen
  refine qr_asg hpc (Φ := fun x G => ∃ d ∈ imagesU, Dp K G x d) (er_pickLD (ds := imagesU) (fun H2 x2 => ev_var rfl) (fun H2 x2 => eld_lst (by repeat' first | exact eda_d0 | apply eda_d | (refine evd_tupD ?_ (by decide)) | (refine evd_lstD ?_ (by decide)) | exact evd_i ev_c | exact evd_b ev_c | exact evd_s ev_c | exact evd_n ev_c | exact evd_i (ev_neg ev_c) | exact evd_i (ev_is (ev_op (ev_op ev_c ev_c (rv_I (by unfold CPow; decide))) ev_c rv_add) (by decide))) (by decide)) (by decide)) (fun vi H2 x2 ⟨dI, hdI, hI2⟩ => ?_)
  have hp2 := x2.pen
  have X02 : Px p H H2 := ((xa.trans xb).trans xc).trans x2
  have hT2 : Tabs T H2 := Tabs.px hp X02 hT
  have hS2 := hS.sm (Sm.px hp X02)
  have hLS2 := hLS.px hp X02
  have hB2 := x2.dp hpc (xc.dp hpb (xb.dp hpa hBa))
  have hO2 := x2.dp hpc (xc.dp hpb (xb.dp hpa hOa))
  have hN2 := x2.dp hpc (xc.dp hpb (xb.dp hpa hNa))
  have hZ2 := x2.dp hpc (xc.dp hpb hZb)
  have hW2 := x2.dp hpc hWc
  have kB : dB.hasDict = false ∧ Sh dB := by
    simp only [List.mem_cons, List.not_mem_nil, or_false] at hdB
    rcases hdB with rfl | rfl | rfl
    · exact ⟨rfl, sm_none⟩
    · exact ⟨hnd, hSh⟩
    · exact ⟨rfl, shB_ok (by decide +kernel)⟩
  have kO := odd_u hdO
  have kN := none_u hdN
  have kZ := zero_u hdZ
  have kW := wrong_u asr asl h77 hdW
  have kI := images_u (ns := ns) (cells := cells) hdI
  have l64 : ns.length + 2 * cells.length < 64 := by have := hck.len; omega
  have fS : ∀ {G : Hp}, ExtN H2 G → StG K G C a ns (cells.map cI) := fun x => hS2.sm (Sm.extN x)
  have fL : ∀ {G : Hp}, ExtN H2 G → LS K G (.ref t) ns (cells.map cI) := fun x => hLS2.sm (Sm.extN x)
  have fB : ∀ {G : Hp}, ExtN H2 G → Dp K G vb dB := fun x => dp_extN x hB2
  have fO : ∀ {G : Hp}, ExtN H2 G → Dp K G vo dO := fun x => dp_extN x hO2
  have fN : ∀ {G : Hp}, ExtN H2 G → Dp K G vn dN := fun x => dp_extN x hN2
  have fZ : ∀ {G : Hp}, ExtN H2 G → Dp K G vz dZ := fun x => dp_extN x hZ2
  have fW : ∀ {G : Hp}, ExtN H2 G → Dp K G vw dW := fun x => dp_extN x hW2
  have fI : ∀ {G : Hp}, ExtN H2 G → Dp K G vi dI := fun x => dp_extN x hI2
  refine q_asgT (lst1 (rd_item (K := K) (T := T) (ds := [.str "row", .str "state"] ++ [vb]) hT2 (fun Hx ex Q' q => eu3 (x := .str "row") (y := .str "state") (z := vb) (ea_cons ev_c (ea_cons ev_c (ea_cons (ev_var rfl) ea_nil))) Hx (Ex.refl Hx) Q' fun due H9 _ e9 h9 => q due H9 e9 (st_of h9)) (fun t1 H3 xn3 i1 => ⟨show 1 ≤ sizeLine by decide, fun lc hlc => ?_⟩)))
  have hlc2 : H2 lc = none := xn3.n lc hlc
  have e4 : Ex H3 (upd H3 lc (.lst [.ref t1])) := Ex.new hlc
  have F1 : Fd H2 p T lc [.ref t1] (upd H3 lc (.lst [.ref t1])) := ⟨xn3.e.trans (ExtN.of e4), xn3.t.ext e4, hp2.extN (xn3.e.trans (ExtN.of e4)), upd_same⟩
  have i1 := i1.sm (Sm.of e4)
  revert F1 i1
  generalize upd H3 lc (.lst [.ref t1]) = J1
  intro F1 i1
  have G1 : ∀ x ∈ [V.ref t1], GoodX ((cxOf C8.CX0 P w K mg base ["pen", "made", "state", "bad", "odd", "none", "zero", "cells", "wrong", "images", "calls", "great", "wide", "address", "value", "at"] "_law_refusals_right" (defScope s__law_refusals_right) f0 (.ref cc) A outer s H C8.E0).nox) 9 cA (fun g wd => [some (.ref p.1), some (.ref a), some (.ref t), some vb, some vo, some vn, some vz, some (.ref lq), some vw, some vi, some (.ref lc), some (.ref g), some (.ref wd), none, none, none]) H2 J1 x := fun x hx => by
    rw [List.mem_singleton.mp hx]
    intro J9 pins s1 g wd x9 s9 I
    refine RsItem.p (rsItem_of (k := 8) (c := 2) (fs := [("row", vb), ("what", .str "state")]) (ys := [.str "row", .str "state"]) (v := vb) (es := [.str "row", .str "state"]) (d := dB) (tb := fun E => tCall (spWithValue K C BR BN TM) [] E (tCons (tVar 3) (tCons (tVar 4) (tCons (tVar 5) tNil)))) I (fun _ => rfl) rfl rfl (lamS_by (by kernel_rfl)) (i1.sm s9) (fun cl pm cv ctv => by rfl)
      (fun f c' A outer s H E hr' => pe_cg g_with_value hr' rfl (passes_call (takes_of rfl rfl rfl rfl) (fun _ _ _ _ h => h)) (pa_cons (pv 3) (pa_cons (pv 4) (pa_cons (pv 5) pa_nil)))) (by decide) (fun H5 E e5 hR => ?_) ⟨_, _, rfl, rfl, rfl⟩ (.cons (.str _) (.cons (.str _) .nil)) (by decide +kernel) (fB x9) kB.1 kB.2)
    rw [hc2] at hR
    refine rx_call (dvs := []) (ea_cons (ev_var rfl) (ea_cons (ev_var rfl) (ea_cons (ev_var rfl) ea_nil))) (fun H6 e6 Q => ?_)
    have x6 := (x9.trans (ExtN.of e5)).trans (ExtN.of e6)
    exact ⟨_, _, _, rfl, .inl ⟨dB, fB x6, hR.ext e6⟩⟩
  refine q_appF F1 hp2 hlc2 rfl (show 1 ≤ 1000 by decide) (due_of (vs := [.str "row", .str "name", vo]) (fun H1 => ea_cons ev_c (ea_cons ev_c (ea_cons (ev_var rfl) ea_nil))) (show 3 ≤ 100000 by decide)) (fun _ _ _ _ h => h) (fun ds t2 J2 F2 s2 hds i2 => ?_)
  subst hds
  have G2 := good_snoc G1 s2 (show GoodX ((cxOf C8.CX0 P w K mg base ["pen", "made", "state", "bad", "odd", "none", "zero", "cells", "wrong", "images", "calls", "great", "wide", "address", "value", "at"] "_law_refusals_right" (defScope s__law_refusals_right) f0 (.ref cc) A outer s H C8.E0).nox) 9 cA (fun g wd => [some (.ref p.1), some (.ref a), some (.ref t), some vb, some vo, some vn, some vz, some (.ref lq), some vw, some vi, some (.ref lc), some (.ref g), some (.ref wd), none, none, none]) H2 J2 (.ref t2) from by
      intro J9 pins s1 g wd x9 s9 I
      refine RsItem.p (rsItem_of (k := 8) (c := 2) (fs := [("row", vo), ("what", .str "name")]) (ys := [.str "row", .str "name"]) (v := vo) (es := [.str "row", .str "name"]) (d := dO) (tb := fun E => tCall (spWithValue K C BR BN TM) [] E (tCons (tVar 1) (tCons (tVar 4) (tCons (tVar 5) tNil)))) I (fun _ => rfl) rfl rfl (lamS_by (by kernel_rfl)) (i2.sm s9) (fun cl pm cv ctv => by rfl)
        (fun f c' A outer s H E hr' => pe_cg g_with_value hr' rfl (passes_call (takes_of rfl rfl rfl rfl) (fun _ _ _ _ h => h)) (pa_cons (pv 1) (pa_cons (pv 4) (pa_cons (pv 5) pa_nil)))) (by decide) (fun H5 E e5 hR => ?_) ⟨_, _, rfl, rfl, rfl⟩ (.cons (.str _) (.cons (.str _) .nil)) (by decide +kernel) (fO x9) kO.2.2.1 kO.2.2.2)
      rw [hc2] at hR
      refine rx_call (dvs := []) (ea_cons (ev_var rfl) (ea_cons (ev_var rfl) (ea_cons (ev_var rfl) ea_nil))) (fun H6 e6 Q => ?_)
      have x6 := (x9.trans (ExtN.of e5)).trans (ExtN.of e6)
      exact ⟨_, _, _, rfl, .inr ⟨a, ns, cells.map cI, dO, rfl, fS x6, fO x6, kO.2.1, .inl ⟨kO.1, hR.ext e6⟩⟩⟩)
  refine q_appF F2 hp2 hlc2 rfl (show 2 ≤ 1000 by decide) (due_of (vs := [.str "number", .str "value", vn]) (fun H1 => ea_cons ev_c (ea_cons ev_c (ea_cons (ev_var rfl) ea_nil))) (show 3 ≤ 100000 by decide)) (fun _ _ _ _ h => h) (fun ds t3 J3 F3 s3 hds i3 => ?_)
  subst hds
  have G3 := good_snoc G2 s3 (show GoodX ((cxOf C8.CX0 P w K mg base ["pen", "made", "state", "bad", "odd", "none", "zero", "cells", "wrong", "images", "calls", "great", "wide", "address", "value", "at"] "_law_refusals_right" (defScope s__law_refusals_right) f0 (.ref cc) A outer s H C8.E0).nox) 9 cA (fun g wd => [some (.ref p.1), some (.ref a), some (.ref t), some vb, some vo, some vn, some vz, some (.ref lq), some vw, some vi, some (.ref lc), some (.ref g), some (.ref wd), none, none, none]) H2 J3 (.ref t3) from by
      intro J9 pins s1 g wd x9 s9 I
      refine RsItem.p (rsItem_of (k := 8) (c := 1) (fs := [("number", vn), ("what", .str "value")]) (ys := [.str "number", .str "value"]) (v := vn) (es := [.str "number", .str "value"]) (d := dN) (tb := fun E => tCall (spWithValue K C BR BN TM) [] E (tCons (tVar 1) (tCons (tC (.str "x")) (tCons (tVar 5) tNil)))) I (fun _ => rfl) rfl rfl (lamS_by (by kernel_rfl)) (i3.sm s9) (fun cl pm cv ctv => by rfl)
        (fun f c' A outer s H E hr' => pe_cg g_with_value hr' rfl (passes_call (takes_of rfl rfl rfl rfl) (fun _ _ _ _ h => h)) (pa_cons (pv 1) (pa_cons pe_str (pa_cons (pv 5) pa_nil)))) (by decide) (fun H5 E e5 hR => ?_) ⟨_, _, rfl, rfl, rfl⟩ (.cons (.str _) (.cons (.str _) .nil)) (by decide +kernel) (fN x9) kN.2.1 kN.2.2)
      rw [hc1] at hR
      refine rx_call (dvs := []) (ea_cons (ev_var rfl) (ea_cons ev_c (ea_cons (ev_var rfl) ea_nil))) (fun H6 e6 Q => ?_)
      have x6 := (x9.trans (ExtN.of e5)).trans (ExtN.of e6)
      exact ⟨_, _, _, rfl, .inr ⟨a, ns, cells.map cI, .str "x", rfl, fS x6, .str _, (show (Str.length "x") ≤ 40000 by decide), .inr ⟨"x", dN, rfl, nm_ok (by decide +kernel), fN x6, .inl ⟨kN.1, hR.ext e6⟩⟩⟩⟩)
  refine q_appF F3 hp2 hlc2 rfl (show 3 ≤ 1000 by decide) (due_of (vs := [.str "row", .str "state", vb]) (fun H1 => ea_cons ev_c (ea_cons ev_c (ea_cons (ev_var rfl) ea_nil))) (show 3 ≤ 100000 by decide)) (fun _ _ _ _ h => h) (fun ds t4 J4 F4 s4 hds i4 => ?_)
  subst hds
  have G4 := good_snoc G3 s4 (show GoodX ((cxOf C8.CX0 P w K mg base ["pen", "made", "state", "bad", "odd", "none", "zero", "cells", "wrong", "images", "calls", "great", "wide", "address", "value", "at"] "_law_refusals_right" (defScope s__law_refusals_right) f0 (.ref cc) A outer s H C8.E0).nox) 9 cA (fun g wd => [some (.ref p.1), some (.ref a), some (.ref t), some vb, some vo, some vn, some vz, some (.ref lq), some vw, some vi, some (.ref lc), some (.ref g), some (.ref wd), none, none, none]) H2 J4 (.ref t4) from by
      intro J9 pins s1 g wd x9 s9 I
      refine RsItem.p (rsItem_of (k := 8) (c := 2) (fs := [("row", vb), ("what", .str "state")]) (ys := [.str "row", .str "state"]) (v := vb) (es := [.str "row", .str "state"]) (d := dB) (tb := fun E => tCall (spWithCell K C BR BN TM) [] E (tCons (tVar 3) (tCons (tVar 6) (tCons (tVar 5) tNil)))) I (fun _ => rfl) rfl rfl (lamS_by (by kernel_rfl)) (i4.sm s9) (fun cl pm cv ctv => by rfl)
        (fun f c' A outer s H E hr' => pe_cg g_with_cell hr' rfl (passes_call (takes_of rfl rfl rfl rfl) (fun _ _ _ _ h => h)) (pa_cons (pv 3) (pa_cons (pv 6) (pa_cons (pv 5) pa_nil)))) (by decide) (fun H5 E e5 hR => ?_) ⟨_, _, rfl, rfl, rfl⟩ (.cons (.str _) (.cons (.str _) .nil)) (by decide +kernel) (fB x9) kB.1 kB.2)
      rw [hc2] at hR
      refine rx_call (dvs := []) (ea_cons (ev_var rfl) (ea_cons (ev_var rfl) (ea_cons (ev_var rfl) ea_nil))) (fun H6 e6 Q => ?_)
      have x6 := (x9.trans (ExtN.of e5)).trans (ExtN.of e6)
      exact ⟨_, _, _, rfl, .inl ⟨dB, fB x6, hR.ext e6⟩⟩)
  refine q_appF F4 hp2 hlc2 rfl (show 4 ≤ 1000 by decide) (due_of (vs := [.str "number", .str "address", vz]) (fun H1 => ea_cons ev_c (ea_cons ev_c (ea_cons (ev_var rfl) ea_nil))) (show 3 ≤ 100000 by decide)) (fun _ _ _ _ h => h) (fun ds t5 J5 F5 s5 hds i5 => ?_)
  subst hds
  have G5 := good_snoc G4 s5 (show GoodX ((cxOf C8.CX0 P w K mg base ["pen", "made", "state", "bad", "odd", "none", "zero", "cells", "wrong", "images", "calls", "great", "wide", "address", "value", "at"] "_law_refusals_right" (defScope s__law_refusals_right) f0 (.ref cc) A outer s H C8.E0).nox) 9 cA (fun g wd => [some (.ref p.1), some (.ref a), some (.ref t), some vb, some vo, some vn, some vz, some (.ref lq), some vw, some vi, some (.ref lc), some (.ref g), some (.ref wd), none, none, none]) H2 J5 (.ref t5) from by
      intro J9 pins s1 g wd x9 s9 I
      refine RsItem.p (rsItem_of (k := 8) (c := 1) (fs := [("number", vz), ("what", .str "address")]) (ys := [.str "number", .str "address"]) (v := vz) (es := [.str "number", .str "address"]) (d := dZ) (tb := fun E => tCall (spWithCell K C BR BN TM) [] E (tCons (tVar 1) (tCons (tVar 6) (tCons (tVar 5) tNil)))) I (fun _ => rfl) rfl rfl (lamS_by (by kernel_rfl)) (i5.sm s9) (fun cl pm cv ctv => by rfl)
        (fun f c' A outer s H E hr' => pe_cg g_with_cell hr' rfl (passes_call (takes_of rfl rfl rfl rfl) (fun _ _ _ _ h => h)) (pa_cons (pv 1) (pa_cons (pv 6) (pa_cons (pv 5) pa_nil)))) (by decide) (fun H5 E e5 hR => ?_) ⟨_, _, rfl, rfl, rfl⟩ (.cons (.str _) (.cons (.str _) .nil)) (by decide +kernel) (fZ x9) kZ.2.1 kZ.2.2)
      rw [hc1] at hR
      refine rx_call (dvs := []) (ea_cons (ev_var rfl) (ea_cons (ev_var rfl) (ea_cons (ev_var rfl) ea_nil))) (fun H6 e6 Q => ?_)
      have x6 := (x9.trans (ExtN.of e5)).trans (ExtN.of e6)
      exact ⟨_, _, _, rfl, .inr ⟨a, ns, cells.map cI, dZ, rfl, fS x6, fZ x6, .inl ⟨kZ.1, hR.ext e6⟩⟩⟩)
  refine q_appF F5 hp2 hlc2 rfl (show 5 ≤ 1000 by decide) (due_of (vs := [.str "number", .str "value", vn]) (fun H1 => ea_cons ev_c (ea_cons ev_c (ea_cons (ev_var rfl) ea_nil))) (show 3 ≤ 100000 by decide)) (fun _ _ _ _ h => h) (fun ds t6 J6 F6 s6 hds i6 => ?_)
  subst hds
  have G6 := good_snoc G5 s6 (show GoodX ((cxOf C8.CX0 P w K mg base ["pen", "made", "state", "bad", "odd", "none", "zero", "cells", "wrong", "images", "calls", "great", "wide", "address", "value", "at"] "_law_refusals_right" (defScope s__law_refusals_right) f0 (.ref cc) A outer s H C8.E0).nox) 9 cA (fun g wd => [some (.ref p.1), some (.ref a), some (.ref t), some vb, some vo, some vn, some vz, some (.ref lq), some vw, some vi, some (.ref lc), some (.ref g), some (.ref wd), none, none, none]) H2 J6 (.ref t6) from by
      intro J9 pins s1 g wd x9 s9 I
      refine RsItem.p (rsItem_of (k := 8) (c := 1) (fs := [("number", vn), ("what", .str "value")]) (ys := [.str "number", .str "value"]) (v := vn) (es := [.str "number", .str "value"]) (d := dN) (tb := fun E => tCall (spWithCell K C BR BN TM) [] E (tCons (tVar 1) (tCons (tC (.int 1)) (tCons (tVar 5) tNil)))) I (fun _ => rfl) rfl rfl (lamS_by (by kernel_rfl)) (i6.sm s9) (fun cl pm cv ctv => by rfl)
        (fun f c' A outer s H E hr' => pe_cg g_with_cell hr' rfl (passes_call (takes_of rfl rfl rfl rfl) (fun _ _ _ _ h => h)) (pa_cons (pv 1) (pa_cons pe_int (pa_cons (pv 5) pa_nil)))) (by decide) (fun H5 E e5 hR => ?_) ⟨_, _, rfl, rfl, rfl⟩ (.cons (.str _) (.cons (.str _) .nil)) (by decide +kernel) (fN x9) kN.2.1 kN.2.2)
      rw [hc1] at hR
      refine rx_call (dvs := []) (ea_cons (ev_var rfl) (ea_cons ev_c (ea_cons (ev_var rfl) ea_nil))) (fun H6 e6 Q => ?_)
      have x6 := (x9.trans (ExtN.of e5)).trans (ExtN.of e6)
      exact ⟨_, _, _, rfl, .inr ⟨a, ns, cells.map cI, .int 1, rfl, fS x6, .int 1, .inr ⟨1, dN, rfl, rfl, fN x6, .inl ⟨kN.1, hR.ext e6⟩⟩⟩⟩)
  refine q_appF F6 hp2 hlc2 rfl (show 6 ≤ 1000 by decide) (due_of (vs := [.str "row", .str "state", vb]) (fun H1 => ea_cons ev_c (ea_cons ev_c (ea_cons (ev_var rfl) ea_nil))) (show 3 ≤ 100000 by decide)) (fun _ _ _ _ h => h) (fun ds t7 J7 F7 s7 hds i7 => ?_)
  subst hds
  have G7 := good_snoc G6 s7 (show GoodX ((cxOf C8.CX0 P w K mg base ["pen", "made", "state", "bad", "odd", "none", "zero", "cells", "wrong", "images", "calls", "great", "wide", "address", "value", "at"] "_law_refusals_right" (defScope s__law_refusals_right) f0 (.ref cc) A outer s H C8.E0).nox) 9 cA (fun g wd => [some (.ref p.1), some (.ref a), some (.ref t), some vb, some vo, some vn, some vz, some (.ref lq), some vw, some vi, some (.ref lc), some (.ref g), some (.ref wd), none, none, none]) H2 J7 (.ref t7) from by
      intro J9 pins s1 g wd x9 s9 I
      refine RsItem.p (rsItem_of (k := 8) (c := 2) (fs := [("row", vb), ("what", .str "state")]) (ys := [.str "row", .str "state"]) (v := vb) (es := [.str "row", .str "state"]) (d := dB) (tb := fun E => tCall (spWithoutCell K C BR BN UN) [] E (tCons (tVar 3) (tCons (tVar 6) tNil))) I (fun _ => rfl) rfl rfl (lamS_by (by kernel_rfl)) (i7.sm s9) (fun cl pm cv ctv => by rfl)
        (fun f c' A outer s H E hr' => pe_cg g_without_cell hr' rfl (passes_call (takes_of rfl rfl rfl rfl) (fun _ _ _ _ h => h)) (pa_cons (pv 3) (pa_cons (pv 6) pa_nil))) (by decide) (fun H5 E e5 hR => ?_) ⟨_, _, rfl, rfl, rfl⟩ (.cons (.str _) (.cons (.str _) .nil)) (by decide +kernel) (fB x9) kB.1 kB.2)
      rw [hc2] at hR
      refine rx_call (dvs := []) (ea_cons (ev_var rfl) (ea_cons (ev_var rfl) ea_nil)) (fun H6 e6 Q => ?_)
      have x6 := (x9.trans (ExtN.of e5)).trans (ExtN.of e6)
      exact ⟨_, _, rfl, .inl ⟨dB, fB x6, hR.ext e6⟩⟩)
  refine q_appF F7 hp2 hlc2 rfl (show 7 ≤ 1000 by decide) (due_of (vs := [.str "number", .str "address", vz]) (fun H1 => ea_cons ev_c (ea_cons ev_c (ea_cons (ev_var rfl) ea_nil))) (show 3 ≤ 100000 by decide)) (fun _ _ _ _ h => h) (fun ds t8 J8 F8 s8 hds i8 => ?_)
  subst hds
  have G8 := good_snoc G7 s8 (show GoodX ((cxOf C8.CX0 P w K mg base ["pen", "made", "state", "bad", "odd", "none", "zero", "cells", "wrong", "images", "calls", "great", "wide", "address", "value", "at"] "_law_refusals_right" (defScope s__law_refusals_right) f0 (.ref cc) A outer s H C8.E0).nox) 9 cA (fun g wd => [some (.ref p.1), some (.ref a), some (.ref t), some vb, some vo, some vn, some vz, some (.ref lq), some vw, some vi, some (.ref lc), some (.ref g), some (.ref wd), none, none, none]) H2 J8 (.ref t8) from by
      intro J9 pins s1 g wd x9 s9 I
      refine RsItem.p (rsItem_of (k := 8) (c := 1) (fs := [("number", vz), ("what", .str "address")]) (ys := [.str "number", .str "address"]) (v := vz) (es := [.str "number", .str "address"]) (d := dZ) (tb := fun E => tCall (spWithoutCell K C BR BN UN) [] E (tCons (tVar 1) (tCons (tVar 6) tNil))) I (fun _ => rfl) rfl rfl (lamS_by (by kernel_rfl)) (i8.sm s9) (fun cl pm cv ctv => by rfl)
        (fun f c' A outer s H E hr' => pe_cg g_without_cell hr' rfl (passes_call (takes_of rfl rfl rfl rfl) (fun _ _ _ _ h => h)) (pa_cons (pv 1) (pa_cons (pv 6) pa_nil))) (by decide) (fun H5 E e5 hR => ?_) ⟨_, _, rfl, rfl, rfl⟩ (.cons (.str _) (.cons (.str _) .nil)) (by decide +kernel) (fZ x9) kZ.2.1 kZ.2.2)
      rw [hc1] at hR
      refine rx_call (dvs := []) (ea_cons (ev_var rfl) (ea_cons (ev_var rfl) ea_nil)) (fun H6 e6 Q => ?_)
      have x6 := (x9.trans (ExtN.of e5)).trans (ExtN.of e6)
      exact ⟨_, _, rfl, .inr ⟨a, ns, cells.map cI, dZ, rfl, fS x6, fZ x6, .inl ⟨kZ.1, hR.ext e6⟩⟩⟩)
  refine q_appF F8 hp2 hlc2 rfl (show 8 ≤ 1000 by decide) (due_of (vs := [.str "unlike", .str "address"]) (fun H1 => ea_cons ev_c (ea_cons ev_c ea_nil)) (show 2 ≤ 100000 by decide)) (fun _ _ _ _ h => h) (fun ds t9 J9 F9 s9 hds i9 => ?_)
  subst hds
  have G9 := good_snoc G8 s9 (show GoodX ((cxOf C8.CX0 P w K mg base ["pen", "made", "state", "bad", "odd", "none", "zero", "cells", "wrong", "images", "calls", "great", "wide", "address", "value", "at"] "_law_refusals_right" (defScope s__law_refusals_right) f0 (.ref cc) A outer s H C8.E0).nox) 9 cA (fun g wd => [some (.ref p.1), some (.ref a), some (.ref t), some vb, some vo, some vn, some vz, some (.ref lq), some vw, some vi, some (.ref lc), some (.ref g), some (.ref wd), none, none, none]) H2 J9 (.ref t9) from by
      intro J9 pins s1 g wd x9 s9 I
      refine RsItem.p (rsItem_of (k := 8) (c := 6) (fs := [("what", .str "address")]) (ys := [.str "unlike"]) (v := (.str "address")) (es := [.str "unlike"]) (d := (.str "address")) (tb := fun E => tCall (spWithoutCell K C BR BN UN) [] E (tCons (tVar 1) (tCons (tC (.int 77)) tNil))) I (fun _ => rfl) rfl rfl (lamS_by (by kernel_rfl)) (i9.sm s9) (fun cl pm cv ctv => by rfl)
        (fun f c' A outer s H E hr' => pe_cg g_without_cell hr' rfl (passes_call (takes_of rfl rfl rfl rfl) (fun _ _ _ _ h => h)) (pa_cons (pv 1) (pa_cons pe_int pa_nil))) (by decide) (fun H5 E e5 hR => ?_) ⟨_, rfl, rfl⟩ (.cons (.str _) .nil) (by decide +kernel) (.str _) rfl (shB_ok (by decide +kernel)))
      rw [hc6] at hR
      refine rx_call (dvs := []) (ea_cons (ev_var rfl) (ea_cons ev_c ea_nil)) (fun H6 e6 Q => ?_)
      have x6 := (x9.trans (ExtN.of e5)).trans (ExtN.of e6)
      exact ⟨_, _, rfl, .inr ⟨a, ns, cells.map cI, .int 77, rfl, fS x6, .int 77, .inr ⟨77, rfl, rfl, .inl ⟨h77, hR.ext e6⟩⟩⟩⟩)
  refine q_appF F9 hp2 hlc2 rfl (show 9 ≤ 1000 by decide) (due_of (vs := [.str "row", .str "state", vb]) (fun H1 => ea_cons ev_c (ea_cons ev_c (ea_cons (ev_var rfl) ea_nil))) (show 3 ≤ 100000 by decide)) (fun _ _ _ _ h => h) (fun ds t10 J10 F10 s10 hds i10 => ?_)
  subst hds
  have G10 := good_snoc G9 s10 (show GoodX ((cxOf C8.CX0 P w K mg base ["pen", "made", "state", "bad", "odd", "none", "zero", "cells", "wrong", "images", "calls", "great", "wide", "address", "value", "at"] "_law_refusals_right" (defScope s__law_refusals_right) f0 (.ref cc) A outer s H C8.E0).nox) 9 cA (fun g wd => [some (.ref p.1), some (.ref a), some (.ref t), some vb, some vo, some vn, some vz, some (.ref lq), some vw, some vi, some (.ref lc), some (.ref g), some (.ref wd), none, none, none]) H2 J10 (.ref t10) from by
      intro J9 pins s1 g wd x9 s9 I
      refine RsItem.p (rsItem_of (k := 8) (c := 2) (fs := [("row", vb), ("what", .str "state")]) (ys := [.str "row", .str "state"]) (v := vb) (es := [.str "row", .str "state"]) (d := dB) (tb := fun E => tCall (spHeapPart K C BR) [] E (tCons (tVar 3) (tCons (tVar 8) tNil))) I (fun _ => rfl) rfl rfl (lamS_by (by kernel_rfl)) (i10.sm s9) (fun cl pm cv ctv => by rfl)
        (fun f c' A outer s H E hr' => pe_cg g_heap_part hr' rfl (passes_call (takes_of rfl rfl rfl rfl) (fun _ _ _ _ h => h)) (pa_cons (pv 3) (pa_cons (pv 8) pa_nil))) (by decide) (fun H5 E e5 hR => ?_) ⟨_, _, rfl, rfl, rfl⟩ (.cons (.str _) (.cons (.str _) .nil)) (by decide +kernel) (fB x9) kB.1 kB.2)
      rw [hc2] at hR
      refine rx_call (dvs := []) (ea_cons (ev_var rfl) (ea_cons (ev_var rfl) ea_nil)) (fun H6 e6 Q => ?_)
      have x6 := (x9.trans (ExtN.of e5)).trans (ExtN.of e6)
      exact ⟨_, _, rfl, .inl ⟨dB, fB x6, hR.ext e6⟩⟩)
  refine q_appF F10 hp2 hlc2 rfl (show 10 ≤ 1000 by decide) (due_of (vs := [.str "row", .str "addresses", vw]) (fun H1 => ea_cons ev_c (ea_cons ev_c (ea_cons (ev_var rfl) ea_nil))) (show 3 ≤ 100000 by decide)) (fun _ _ _ _ h => h) (fun ds t11 J11 F11 s11 hds i11 => ?_)
  subst hds
  have G11 := good_snoc G10 s11 (show GoodX ((cxOf C8.CX0 P w K mg base ["pen", "made", "state", "bad", "odd", "none", "zero", "cells", "wrong", "images", "calls", "great", "wide", "address", "value", "at"] "_law_refusals_right" (defScope s__law_refusals_right) f0 (.ref cc) A outer s H C8.E0).nox) 9 cA (fun g wd => [some (.ref p.1), some (.ref a), some (.ref t), some vb, some vo, some vn, some vz, some (.ref lq), some vw, some vi, some (.ref lc), some (.ref g), some (.ref wd), none, none, none]) H2 J11 (.ref t11) from by
      intro J9 pins s1 g wd x9 s9 I
      refine RsItem.p (rsItem_of (k := 8) (c := 2) (fs := [("row", vw), ("what", .str "addresses")]) (ys := [.str "row", .str "addresses"]) (v := vw) (es := [.str "row", .str "addresses"]) (d := dW) (tb := fun E => tCall (spHeapPart K C BR) [] E (tCons (tVar 1) (tCons (tVar 8) tNil))) I (fun _ => rfl) rfl rfl (lamS_by (by kernel_rfl)) (i11.sm s9) (fun cl pm cv ctv => by rfl)
        (fun f c' A outer s H E hr' => pe_cg g_heap_part hr' rfl (passes_call (takes_of rfl rfl rfl rfl) (fun _ _ _ _ h => h)) (pa_cons (pv 1) (pa_cons (pv 8) pa_nil))) (by decide) (fun H5 E e5 hR => ?_) ⟨_, _, rfl, rfl, rfl⟩ (.cons (.str _) (.cons (.str _) .nil)) (by decide +kernel) (fW x9) kW.2.1 kW.2.2)
      rw [hc2] at hR
      refine rx_call (dvs := []) (ea_cons (ev_var rfl) (ea_cons (ev_var rfl) ea_nil)) (fun H6 e6 Q => ?_)
      have x6 := (x9.trans (ExtN.of e5)).trans (ExtN.of e6)
      exact ⟨_, _, rfl, .inr ⟨a, ns, cells.map cI, dW, rfl, fS x6, fW x6, .inl ⟨kW.1, hR.ext e6⟩⟩⟩)
  refine q_appF F11 hp2 hlc2 rfl (show 11 ≤ 1000 by decide) (due_of (vs := [.str "row", .str "one", vb]) (fun H1 => ea_cons ev_c (ea_cons ev_c (ea_cons (ev_var rfl) ea_nil))) (show 3 ≤ 100000 by decide)) (fun _ _ _ _ h => h) (fun ds t12 J12 F12 s12 hds i12 => ?_)
  subst hds
  have G12 := good_snoc G11 s12 (show GoodX ((cxOf C8.CX0 P w K mg base ["pen", "made", "state", "bad", "odd", "none", "zero", "cells", "wrong", "images", "calls", "great", "wide", "address", "value", "at"] "_law_refusals_right" (defScope s__law_refusals_right) f0 (.ref cc) A outer s H C8.E0).nox) 9 cA (fun g wd => [some (.ref p.1), some (.ref a), some (.ref t), some vb, some vo, some vn, some vz, some (.ref lq), some vw, some vi, some (.ref lc), some (.ref g), some (.ref wd), none, none, none]) H2 J12 (.ref t12) from by
      intro J9 pins s1 g wd x9 s9 I
      refine RsItem.p (rsItem_of (k := 8) (c := 2) (fs := [("row", vb), ("what", .str "one")]) (ys := [.str "row", .str "one"]) (v := vb) (es := [.str "row", .str "one"]) (d := dB) (tb := fun E => tCall (spJoin K C BR TM UN) [] E (tCons (tVar 3) (tCons (tVar 3) tNil))) I (fun _ => rfl) rfl rfl (lamS_by (by kernel_rfl)) (i12.sm s9) (fun cl pm cv ctv => by rfl)
        (fun f c' A outer s H E hr' => pe_cg g_joined_states hr' rfl (passes_call (takes_of rfl rfl rfl rfl) (fun _ _ _ _ h => h)) (pa_cons (pv 3) (pa_cons (pv 3) pa_nil))) (by decide) (fun H5 E e5 hR => ?_) ⟨_, _, rfl, rfl, rfl⟩ (.cons (.str _) (.cons (.str _) .nil)) (by decide +kernel) (fB x9) kB.1 kB.2)
      rw [hc2] at hR
      refine rx_call (dvs := []) (ea_cons (ev_var rfl) (ea_cons (ev_var rfl) ea_nil)) (fun H6 e6 Q => ?_)
      have x6 := (x9.trans (ExtN.of e5)).trans (ExtN.of e6)
      exact ⟨_, _, rfl, .inl ⟨dB, fB x6, hR.ext e6⟩⟩)
  refine q_appF F12 hp2 hlc2 rfl (show 12 ≤ 1000 by decide) (due_of (vs := [.str "row", .str "other", vb]) (fun H1 => ea_cons ev_c (ea_cons ev_c (ea_cons (ev_var rfl) ea_nil))) (show 3 ≤ 100000 by decide)) (fun _ _ _ _ h => h) (fun ds t13 J13 F13 s13 hds i13 => ?_)
  subst hds
  have G13 := good_snoc G12 s13 (show GoodX ((cxOf C8.CX0 P w K mg base ["pen", "made", "state", "bad", "odd", "none", "zero", "cells", "wrong", "images", "calls", "great", "wide", "address", "value", "at"] "_law_refusals_right" (defScope s__law_refusals_right) f0 (.ref cc) A outer s H C8.E0).nox) 9 cA (fun g wd => [some (.ref p.1), some (.ref a), some (.ref t), some vb, some vo, some vn, some vz, some (.ref lq), some vw, some vi, some (.ref lc), some (.ref g), some (.ref wd), none, none, none]) H2 J13 (.ref t13) from by
      intro J9 pins s1 g wd x9 s9 I
      refine RsItem.p (rsItem_of (k := 8) (c := 2) (fs := [("row", vb), ("what", .str "other")]) (ys := [.str "row", .str "other"]) (v := vb) (es := [.str "row", .str "other"]) (d := dB) (tb := fun E => tCall (spJoin K C BR TM UN) [] E (tCons (tVar 1) (tCons (tVar 3) tNil))) I (fun _ => rfl) rfl rfl (lamS_by (by kernel_rfl)) (i13.sm s9) (fun cl pm cv ctv => by rfl)
        (fun f c' A outer s H E hr' => pe_cg g_joined_states hr' rfl (passes_call (takes_of rfl rfl rfl rfl) (fun _ _ _ _ h => h)) (pa_cons (pv 1) (pa_cons (pv 3) pa_nil))) (by decide) (fun H5 E e5 hR => ?_) ⟨_, _, rfl, rfl, rfl⟩ (.cons (.str _) (.cons (.str _) .nil)) (by decide +kernel) (fB x9) kB.1 kB.2)
      rw [hc2] at hR
      refine rx_call (dvs := []) (ea_cons (ev_var rfl) (ea_cons (ev_var rfl) ea_nil)) (fun H6 e6 Q => ?_)
      have x6 := (x9.trans (ExtN.of e5)).trans (ExtN.of e6)
      exact ⟨_, _, rfl, .inr ⟨a, ns, cells.map cI, rfl, fS x6, .inl ⟨dB, fB x6, hR.ext e6⟩⟩⟩)
  refine q_appF F13 hp2 hlc2 rfl (show 13 ≤ 1000 by decide) (due_of (vs := [.str "unlike", .str "store"]) (fun H1 => ea_cons ev_c (ea_cons ev_c ea_nil)) (show 2 ≤ 100000 by decide)) (fun _ _ _ _ h => h) (fun ds t14 J14 F14 s14 hds i14 => ?_)
  subst hds
  have G14 := good_snoc G13 s14 (show GoodX ((cxOf C8.CX0 P w K mg base ["pen", "made", "state", "bad", "odd", "none", "zero", "cells", "wrong", "images", "calls", "great", "wide", "address", "value", "at"] "_law_refusals_right" (defScope s__law_refusals_right) f0 (.ref cc) A outer s H C8.E0).nox) 9 cA (fun g wd => [some (.ref p.1), some (.ref a), some (.ref t), some vb, some vo, some vn, some vz, some (.ref lq), some vw, some vi, some (.ref lc), some (.ref g), some (.ref wd), none, none, none]) H2 J14 (.ref t14) from by
      intro J9 pins s1 g wd x9 s9 I
      refine RsItem.p (rsItem_of (k := 8) (c := 6) (fs := [("what", .str "store")]) (ys := [.str "unlike"]) (v := (.str "store")) (es := [.str "unlike"]) (d := (.str "store")) (tb := fun E => tCall (spJoin K C BR TM UN) [] E (tCons (tVar 1) (tCons (tMake C (spSInit K C BR) [] E (tCons (tOp (rCatF K) (tOp (rIx K) (tVar 2) (tC (.int 0))) (tTup (tCons (tTup (tCons (tC (.str "zz")) (tCons (tC (.int 1)) tNil))) tNil))) (tCons (tOp (rIx K) (tVar 2) (tC (.int 1))) tNil))) tNil))) I (fun _ => rfl) rfl rfl (lamS_by (by kernel_rfl)) (i14.sm s9) (fun cl pm cv ctv => by rfl)
        (fun f c' A outer s H E hr' => pe_cg g_joined_states hr' rfl (passes_call (takes_of rfl rfl rfl rfl) (fun _ _ _ _ h => h)) (pa_cons (pv 1) (pa_cons (pe_mk m_State hr' rfl (passes_call (takes_of rfl rfl rfl rfl) (fun _ _ _ _ h => h)) (pa_cons (pe_op (r := rCatF K) op_catF (pe_ix (r := rIx K) ix_seq (pv 2) pe_int (fun _ _ => rfl)) (pe_tup (pa_cons (pe_tup (pa_cons pe_str (pa_cons pe_int pa_nil))) pa_nil))) (pa_cons (pe_ix (r := rIx K) ix_seq (pv 2) pe_int (fun _ _ => rfl)) pa_nil))) pa_nil))) (by decide) (fun H5 E e5 hR => ?_) ⟨_, rfl, rfl⟩ (.cons (.str _) .nil) (by decide +kernel) (.str _) rfl (shB_ok (by decide +kernel)))
      rw [hc6] at hR
      have x5 := x9.trans (ExtN.of e5)
      obtain ⟨t', u1, u2, et, ht5, hu1, hu2⟩ := fL x5
      cases et
      refine rx_callDA (evda_cons (Φ := fun w _ => w = .ref a) (ev_EvD (ev_var rfl) fun _ _ => rfl) (fun H6 e6 => evda_cons (Φ := fun w G => ∃ b, w = .ref b ∧ StG K G C b (ns ++ [zzR]) (cells.map cI)) (evd_mkG hzz (fS x5).h ?_ (rad_ev (ev_op (ev_var rfl) ev_c (rv_iT (ex_t e6 ht5) (atI_nat (j := 1) rfl))) (hu2.ext e6))) (fun H7 e7 => evda_ev ea_nil) (fun _ _ _ e ⟨b, hb, h⟩ => ⟨b, hb, h.ext e⟩)) (fun _ _ _ _ h => h)) (fun vs H6 e6 ⟨x, ys, e, hx, y, zs, e', ⟨b, hb, hst⟩, e''⟩ Q => ?_)
      · have hcat := evd_catF (K := K) (ds := ns.map rowD) (es := [rowD zzR]) (evd_c (ev_op (ev_var (σ := [some (.ref p.1), some (.ref a), some (.ref t), some vb, some vo, some vn, some vz, some (.ref lq), some vw, some vi, some (.ref lc), some (.ref g), some (.ref wd), none, none, none]) (i := 2) rfl) ev_c (rv_iT (ex_t e6 ht5) (atI_nat (j := 0) rfl))) (fun H7 e7 => ((hu1.ext e6).ext e7).dp)) (evd_tupD (eda_d (evd_tupD (ds := [.str "zz", .int 1]) (eda_d (evd_s ev_c) (eda_d (evd_i ev_c) eda_d0)) (show 2 ≤ 100000 by decide)) eda_d0) (show 1 ≤ 100000 by decide)) (fun z => hn0 (List.map_eq_nil_iff.mp z)) (by simp) (by simp; omega)
        refine hcat.imp fun w G eG h => ra_pd ?_
        have e : rowsD (ns ++ [zzR]) = .tuple (ns.map rowD ++ [rowD zzR]) := by
          show PyData.tuple ((ns ++ [zzR]).map rowD) = _
          rw [List.map_append]
          rfl
        rw [e]
        exact h
      · subst e hx e' hb e''
        exact ⟨_, _, rfl, .inr ⟨a, ns, cells.map cI, rfl, fS (x5.trans (ExtN.of e6)), .inr ⟨b, _, _, rfl, hst, .inl ⟨eqv_rows_ne (by simp), hR.ext e6⟩⟩⟩⟩)
  refine q_appF F14 hp2 hlc2 rfl (show 14 ≤ 1000 by decide) (due_of (vs := [.str "row", .str "state", vb]) (fun H1 => ea_cons ev_c (ea_cons ev_c (ea_cons (ev_var rfl) ea_nil))) (show 3 ≤ 100000 by decide)) (fun _ _ _ _ h => h) (fun ds t15 J15 F15 s15 hds i15 => ?_)
  subst hds
  have G15 := good_snoc G14 s15 (show GoodX ((cxOf C8.CX0 P w K mg base ["pen", "made", "state", "bad", "odd", "none", "zero", "cells", "wrong", "images", "calls", "great", "wide", "address", "value", "at"] "_law_refusals_right" (defScope s__law_refusals_right) f0 (.ref cc) A outer s H C8.E0).nox) 9 cA (fun g wd => [some (.ref p.1), some (.ref a), some (.ref t), some vb, some vo, some vn, some vz, some (.ref lq), some vw, some vi, some (.ref lc), some (.ref g), some (.ref wd), none, none, none]) H2 J15 (.ref t15) from by
      intro J9 pins s1 g wd x9 s9 I
      refine RsItem.p (rsItem_of (k := 8) (c := 2) (fs := [("row", vb), ("what", .str "state")]) (ys := [.str "row", .str "state"]) (v := vb) (es := [.str "row", .str "state"]) (d := dB) (tb := fun E => tCall (spMovedState K C BR) [] E (tCons (tVar 3) (tCons (tVar 9) tNil))) I (fun _ => rfl) rfl rfl (lamS_by (by kernel_rfl)) (i15.sm s9) (fun cl pm cv ctv => by rfl)
        (fun f c' A outer s H E hr' => pe_cg g_moved_state hr' rfl (passes_call (takes_of rfl rfl rfl rfl) (fun _ _ _ _ h => h)) (pa_cons (pv 3) (pa_cons (pv 9) pa_nil))) (by decide) (fun H5 E e5 hR => ?_) ⟨_, _, rfl, rfl, rfl⟩ (.cons (.str _) (.cons (.str _) .nil)) (by decide +kernel) (fB x9) kB.1 kB.2)
      rw [hc2] at hR
      refine rx_call (dvs := []) (ea_cons (ev_var rfl) (ea_cons (ev_var rfl) ea_nil)) (fun H6 e6 Q => ?_)
      have x6 := (x9.trans (ExtN.of e5)).trans (ExtN.of e6)
      exact ⟨_, _, rfl, .inl ⟨dB, fB x6, hR.ext e6⟩⟩)
  refine q_appF F15 hp2 hlc2 rfl (show 15 ≤ 1000 by decide) (due_of (vs := [.str "row", .str "images", vi]) (fun H1 => ea_cons ev_c (ea_cons ev_c (ea_cons (ev_var rfl) ea_nil))) (show 3 ≤ 100000 by decide)) (fun _ _ _ _ h => h) (fun ds t16 J16 F16 s16 hds i16 => ?_)
  subst hds
  have G16 := good_snoc G15 s16 (show GoodX ((cxOf C8.CX0 P w K mg base ["pen", "made", "state", "bad", "odd", "none", "zero", "cells", "wrong", "images", "calls", "great", "wide", "address", "value", "at"] "_law_refusals_right" (defScope s__law_refusals_right) f0 (.ref cc) A outer s H C8.E0).nox) 9 cA (fun g wd => [some (.ref p.1), some (.ref a), some (.ref t), some vb, some vo, some vn, some vz, some (.ref lq), some vw, some vi, some (.ref lc), some (.ref g), some (.ref wd), none, none, none]) H2 J16 (.ref t16) from by
      intro J9 pins s1 g wd x9 s9 I
      refine RsItem.p (rsItem_of (k := 8) (c := 2) (fs := [("row", vi), ("what", .str "images")]) (ys := [.str "row", .str "images"]) (v := vi) (es := [.str "row", .str "images"]) (d := dI) (tb := fun E => tCall (spMovedState K C BR) [] E (tCons (tVar 1) (tCons (tVar 9) tNil))) I (fun _ => rfl) rfl rfl (lamS_by (by kernel_rfl)) (i16.sm s9) (fun cl pm cv ctv => by rfl)
        (fun f c' A outer s H E hr' => pe_cg g_moved_state hr' rfl (passes_call (takes_of rfl rfl rfl rfl) (fun _ _ _ _ h => h)) (pa_cons (pv 1) (pa_cons (pv 9) pa_nil))) (by decide) (fun H5 E e5 hR => ?_) ⟨_, _, rfl, rfl, rfl⟩ (.cons (.str _) (.cons (.str _) .nil)) (by decide +kernel) (fI x9) kI.2.1 kI.2.2)
      rw [hc2] at hR
      refine rx_call (dvs := []) (ea_cons (ev_var rfl) (ea_cons (ev_var rfl) ea_nil)) (fun H6 e6 Q => ?_)
      have x6 := (x9.trans (ExtN.of e5)).trans (ExtN.of e6)
      exact ⟨_, _, rfl, .inr ⟨a, ns, cells, dI, rfl, fS x6, l64, fI x6, .inl ⟨.inl kI.1, hR.ext e6⟩⟩⟩)
  clear G1 G2 G3 G4 G5 G6 G7 G8 G9 G10 G11 G12 G13 G14 G15
  refine q_ifRest (b := !decide (cells = [])) (R := fun J => ∃ ts, Fd H2 p T lc ts J ∧ ts.length ≤ 18 ∧ ∀ x ∈ ts, GoodX ((cxOf C8.CX0 P w K mg base ["pen", "made", "state", "bad", "odd", "none", "zero", "cells", "wrong", "images", "calls", "great", "wide", "address", "value", "at"] "_law_refusals_right" (defScope s__law_refusals_right) f0 (.ref cc) A outer s H C8.E0).nox) 9 cA (fun g wd => [some (.ref p.1), some (.ref a), some (.ref t), some vb, some vo, some vn, some vz, some (.ref lq), some vw, some vi, some (.ref lc), some (.ref g), some (.ref wd), none, none, none]) H2 J x) ?_ (fun b H1 e1 Dk hk => ?_) (fun b H1 e1 => ⟨_, F16.ex e1, show 16 ≤ 18 by decide, fun x hx => (G16 x hx).sm (Sm.of e1)⟩) (fun J0 ⟨ts, F0, hl0, G0⟩ => ?_)
  · obtain ⟨t', u1, u2, et, ht5, hu1, hu2⟩ := fL F16.x
    cases et
    have hne : PyData.eqv (rowsD (cells.map cI)) (.tuple []) = decide (cells = []) := by
      cases cells with
      | nil => rfl
      | cons c r => rfl
    exact et_test (ev_is (ev_opD (ev_op (ev_var rfl) ev_c (rv_iT ht5 (atI_nat (j := 1) rfl))) (evd_tupF eda_d0 (by decide)) (fun y H6 e6 hy => rv_neD (hu2.ext e6).dp hy.dp (shaped_rows (fS F16.x).h.lay) (by decide +kernel))) (by rw [hne]))
  · have hcn : cells ≠ [] := by simpa using b
    have hmeet : meetR (cells.map cI) (cells.map cI) = true := by
      obtain ⟨c, r, rfl⟩ : ∃ c r, cells = c :: r := by
        cases cells with
        | nil => exact absurd rfl hcn
        | cons c r => exact ⟨c, r, rfl⟩
      exact List.any_eq_true.mpr ⟨cI c, List.mem_cons_self, List.any_eq_true.mpr ⟨cI c, List.mem_cons_self, decide_eq_true rfl⟩⟩
    have hcov : covB [] (valsI (intsOf ns cells)) = false := by
      obtain ⟨c, r, rfl⟩ : ∃ c r, cells = c :: r := by
        cases cells with
        | nil => exact absurd rfl hcn
        | cons c r => exact ⟨c, r, rfl⟩
      have hm : c.1 ∈ valsI (intsOf ns (c :: r)) := (vals_mem _ _).mpr ⟨List.mem_append_right _ (List.mem_flatMap.mpr ⟨c, List.mem_cons_self, by simp⟩), by have := (hck.rng c List.mem_cons_self).1; omega⟩
      cases hv : covB [] (valsI (intsOf ns (c :: r))) with
      | false => rfl
      | true =>
        have := List.all_eq_true.mp hv _ hm
        simp at this
    have F16' := F16.ex e1
    have G16' : ∀ x ∈ _, _ := fun x hx => (G16 x hx).sm (Sm.of e1)
    refine q_appF F16' hp2 hlc2 rfl (show 16 ≤ 1000 by decide) (due_of (vs := [.str "unlike", .str "heap"]) (fun H1 => ea_cons ev_c (ea_cons ev_c ea_nil)) (show 2 ≤ 100000 by decide)) (fun _ _ _ _ h => h) (fun ds t17 J17 F17 s17 hds i17 => ?_)
    subst hds
    have G17 := good_snoc G16' s17 (show GoodX ((cxOf C8.CX0 P w K mg base ["pen", "made", "state", "bad", "odd", "none", "zero", "cells", "wrong", "images", "calls", "great", "wide", "address", "value", "at"] "_law_refusals_right" (defScope s__law_refusals_right) f0 (.ref cc) A outer s H C8.E0).nox) 9 cA (fun g wd => [some (.ref p.1), some (.ref a), some (.ref t), some vb, some vo, some vn, some vz, some (.ref lq), some vw, some vi, some (.ref lc), some (.ref g), some (.ref wd), none, none, none]) H2 J17 (.ref t17) from by
      intro J9 pins s1 g wd x9 s9 I
      refine RsItem.p (rsItem_of (k := 8) (c := 6) (fs := [("what", .str "heap")]) (ys := [.str "unlike"]) (v := (.str "heap")) (es := [.str "unlike"]) (d := (.str "heap")) (tb := fun E => tCall (spJoin K C BR TM UN) [] E (tCons (tVar 1) (tCons (tVar 1) tNil))) I (fun _ => rfl) rfl rfl (lamS_by (by kernel_rfl)) (i17.sm s9) (fun cl pm cv ctv => by rfl)
        (fun f c' A outer s H E hr' => pe_cg g_joined_states hr' rfl (passes_call (takes_of rfl rfl rfl rfl) (fun _ _ _ _ h => h)) (pa_cons (pv 1) (pa_cons (pv 1) pa_nil))) (by decide) (fun H5 E e5 hR => ?_) ⟨_, rfl, rfl⟩ (.cons (.str _) .nil) (by decide +kernel) (.str _) rfl (shB_ok (by decide +kernel)))
      rw [hc6] at hR
      refine rx_call (dvs := []) (ea_cons (ev_var rfl) (ea_cons (ev_var rfl) ea_nil)) (fun H6 e6 Q => ?_)
      have x6 := (x9.trans (ExtN.of e5)).trans (ExtN.of e6)
      exact ⟨_, _, rfl, .inr ⟨a, ns, cells.map cI, rfl, fS x6, .inr ⟨a, ns, cells.map cI, rfl, fS x6, .inr ⟨eqv_rows_self (fS x6).s.lay, .inl ⟨hmeet, hR.ext e6⟩⟩⟩⟩⟩)
    refine s_appF (Ψ := fun ds G => ∃ u : Addr, ds = [.str "row", .str "images", .ref u] ∧ SqT K G u []) F17 hp2 hlc2 rfl (show 17 ≤ 1000 by decide) (fun H6 x6 Q' q => ?_) (fun ds A B s ⟨u, e, h⟩ => ⟨u, e, s.t h⟩) (fun ds t18 J18 F18 s18 hds i18 => ?_)
    · refine tup3_t ?_
      refine ev_c (v := .str "row") H6 (Ex.refl H6) _ fun H7 e7 => ?_
      refine ev_c (v := .str "images") H7 (Ex.refl H7) _ fun H8 e8 => ?_
      refine ⟨sz_of (show 0 ≤ 100000 by decide), fun u o hu ho => ⟨sz_of (show 3 ≤ 100000 by decide), fun due hdue => ?_⟩⟩
      have z1 : SqP (upd H8 u (.frz o (.tup []))) u [] := ⟨o, ho, upd_same⟩
      exact q _ due _ ((e7.trans e8).trans ((Ex.new hu).trans (Ex.new hdue))) ⟨u, rfl, (z1.ext (Ex.new hdue)).t⟩ (st_of upd_same)
    · obtain ⟨u, rfl, hu⟩ := hds
      refine hk J18 ⟨_, F18, show 18 ≤ 18 by decide, good_snoc G17 s18 ?_⟩
      intro J9 pins s1 g wd x9 s9 I
      refine rsItem_ofP (k := 8) (c := 2) (Ψ := fun fs G => ∃ u' : Addr, fs = [(("row" : Str), V.ref u'), (("what" : Str), V.str "images")] ∧ SqT K G u' []) (ys := [.str "row", .str "images"]) (v := .ref u) (es := [.str "row", .str "images"]) (d := .tuple []) (tb := fun E => tCall (spMovedState K C BR) [] E (tCons (tVar 1) (tCons (tTupF tNil) tNil))) I (fun _ => rfl) rfl rfl (lamS_by (by kernel_rfl)) (i18.sm s9) (fun cl pm cv ctv => by rfl)
        (fun f c' A outer s H E hr' => pe_cg g_moved_state hr' rfl (passes_call (takes_of rfl rfl rfl rfl) (fun _ _ _ _ h => h)) (pa_cons (pv 1) (pa_cons (pe_tupF pa_nil) pa_nil))) (by decide) (fun H5 E e5 hR => ?_) (fun fs G eG ⟨u', hfs, hu'⟩ => ?_) (.cons (.str _) (.cons (.str _) .nil)) (by decide +kernel) (.tup (s9.t hu) .nil) rfl (shB_ok (by decide +kernel))
      · rw [hc2] at hR
        refine rx_callDA (evda_cons (Φ := fun w _ => w = .ref a) (ev_EvD (ev_var rfl) fun _ _ => rfl) (fun H6 e6 => evda_cons (Φ := fun w G => Pd K G w (.tuple [])) (evd_tupF eda_d0 (by decide)) (fun H7 e7 => evda_ev ea_nil) (fun _ _ _ e h => h.ext e)) (fun _ _ _ _ h => h)) (fun vs H6 e6 ⟨x, ys, e, hx, y, zs, e', hPd, e''⟩ Q => ?_)
        subst e hx e' e''
        obtain ⟨u', uxs, uds, rfl, ed, hq, hqd⟩ := id hPd
        injection ed with ed
        subst ed
        cases hqd
        have x6 := (x9.trans (ExtN.of e5)).trans (ExtN.of e6)
        exact ⟨_, _, rfl, .inr ⟨a, ns, cells, .tuple [], rfl, fS x6, l64, hPd.dp, .inl ⟨.inr ⟨[], rfl, fun _ => hPd, ⟨fun q h => (nomatch h), .nil, .nil, by decide⟩, hcov⟩, fun d H7 hd e7 hx => hR _ d H7 (fresh_back e6 hd) (e6.trans e7) ⟨u', rfl, (hq.ext e7).t⟩ hx⟩⟩⟩
      · subst hfs
        exact ⟨.ref u', ⟨_, _, rfl, rfl, rfl⟩, .tup hu' .nil⟩
  · refine qd_asg (Φ := fun w G => Pd K G w (rowsD greatR)) (EvD.imp (evd_tupLD (eld_lcR2 (n := 40) (lo := 100) (fun i => rowD (.inl (100 + (i : Int)), 0)) (ea_cons ev_c (ea_cons ev_c ea_nil)) (by decide) (by decide) (fun _ => rfl) (fun _ _ => et_true fun _ _ _ q => q) (fun m => noLs_map (fun _ => rfl) _) (fun i H5 e5 hi => evd_tupD (eda_d (evd_i (ev_var rfl)) (eda_d (evd_i ev_c) eda_d0)) (show 2 ≤ 100000 by decide)))) (fun w G _ h => by rw [greatD]; exact h)) (fun vg Jg eg hg => ?_)
    obtain ⟨g, gxs, gds, rfl, _, _, _⟩ := id hg
    have Fg := F0.ex eg
    have Gg : ∀ x ∈ ts, GoodX ((cxOf C8.CX0 P w K mg base ["pen", "made", "state", "bad", "odd", "none", "zero", "cells", "wrong", "images", "calls", "great", "wide", "address", "value", "at"] "_law_refusals_right" (defScope s__law_refusals_right) f0 (.ref cc) A outer s H C8.E0).nox) 9 cA (fun _ wd => [some (.ref p.1), some (.ref a), some (.ref t), some vb, some vo, some vn, some vz, some (.ref lq), some vw, some vi, some (.ref lc), some (.ref g), some (.ref wd), none, none, none]) H2 Jg x := fun x hx J9 pins s1 _ wd x9 s9 I => ((G0 x hx).sm (Sm.of eg)) J9 pins s1 g wd x9 s9 I
    refine q_appF Fg hp2 hlc2 rfl (show ts.length ≤ 1000 by omega) (due_of (vs := [.str "many", .str "cells", .int 41, .int 40]) (fun H1 => ea_cons ev_c (ea_cons ev_c (ea_cons ev_c (ea_cons ev_c ea_nil)))) (show 4 ≤ 100000 by decide)) (fun _ _ _ _ h => h) (fun ds t19 J19 F19 s19 hds i19 => ?_)
    subst hds
    have G19 := good_snoc Gg s19 (show GoodX ((cxOf C8.CX0 P w K mg base ["pen", "made", "state", "bad", "odd", "none", "zero", "cells", "wrong", "images", "calls", "great", "wide", "address", "value", "at"] "_law_refusals_right" (defScope s__law_refusals_right) f0 (.ref cc) A outer s H C8.E0).nox) 9 cA (fun _ wd => [some (.ref p.1), some (.ref a), some (.ref t), some vb, some vo, some vn, some vz, some (.ref lq), some vw, some vi, some (.ref lc), some (.ref g), some (.ref wd), none, none, none]) H2 J19 (.ref t19) from by
      intro J9 pins s1 g' wd x9 s9 I
      refine RsItem.p (rsItem_of (k := 8) (c := 5) (fs := [("limit", .int 40), ("many", .int 41), ("what", .str "cells")]) (ys := [.str "many", .str "cells", .int 41]) (v := .int 40) (es := [.str "many", .str "cells", .int 41]) (d := .int 40) (tb := fun E => tCall (spWithCell K C BR BN TM) [] E (tCons (tMake C (spSInit K C BR) [] E (tCons (tTupF tNil) (tCons (tVar 11) tNil))) (tCons (tC (.int 1)) (tCons (tC (.int 0)) tNil)))) I (fun _ => rfl) rfl rfl (lamS_by (by kernel_rfl)) (i19.sm s9) (fun cl pm cv ctv => by rfl)
        (fun f c' A outer s H E hr' => pe_cg g_with_cell hr' rfl (passes_call (takes_of rfl rfl rfl rfl) (fun _ _ _ _ h => h)) (pa_cons (pe_mk m_State hr' rfl (passes_call (takes_of rfl rfl rfl rfl) (fun _ _ _ _ h => h)) (pa_cons (pe_tupF pa_nil) (pa_cons (pv 11) pa_nil))) (pa_cons pe_int (pa_cons pe_int pa_nil)))) (by decide) (fun H5 E e5 hR => ?_) ⟨_, _, _, rfl, rfl, rfl, rfl⟩ (.cons (.str _) (.cons (.str _) (.cons (.int _) .nil))) (by decide +kernel) (.int _) rfl (shB_ok (by decide +kernel)))
      rw [hc5] at hR
      have hg5 : Pd K H5 (.ref g) (rowsD greatR) := ((s19.trans s9).pd hg (noL_rows _)).ext e5
      refine rx_callDA (evda_cons (Φ := fun w G => ∃ b, w = .ref b ∧ StG K G C b [] greatR) (evd_mkG sg_nil great_g (EvD.imp (evd_tupF eda_d0 (by decide)) (fun w G _ h => ra_pd h)) (rad_ev (ev_var rfl) hg5)) (fun H7 e7 => evda_ev (ea_cons ev_c (ea_cons ev_c ea_nil))) (fun _ _ _ e ⟨b, hb, h⟩ => ⟨b, hb, h.ext e⟩)) (fun vs H6 e6 ⟨x, ys, e, ⟨b, hx, hst⟩, e'⟩ Q => ?_)
      subst e hx e'
      have hl : (putR greatR (.inl 1) 0).length = 41 := by decide +kernel
      exact ⟨_, _, _, rfl, .inr ⟨b, [], greatR, .int 1, rfl, hst, .int 1, .inr ⟨1, .int 0, rfl, rfl, .int 0, .inr ⟨0, rfl, rfl, .inl ⟨by rw [hl]; decide, by rw [hl]; exact hR.ext e6⟩⟩⟩⟩⟩)
    refine q_appF F19 hp2 hlc2 rfl (show (ts ++ [V.ref t19]).length ≤ 1000 by rw [List.length_append]; show ts.length + 1 ≤ 1000; omega) (due_of (vs := [.str "many", .str "cells", .int 41, .int 40]) (fun H1 => ea_cons ev_c (ea_cons ev_c (ea_cons ev_c (ea_cons ev_c ea_nil)))) (show 4 ≤ 100000 by decide)) (fun _ _ _ _ h => h) (fun ds t20 J20 F20 s20 hds i20 => ?_)
    subst hds
    have G20 := good_snoc G19 s20 (show GoodX ((cxOf C8.CX0 P w K mg base ["pen", "made", "state", "bad", "odd", "none", "zero", "cells", "wrong", "images", "calls", "great", "wide", "address", "value", "at"] "_law_refusals_right" (defScope s__law_refusals_right) f0 (.ref cc) A outer s H C8.E0).nox) 9 cA (fun _ wd => [some (.ref p.1), some (.ref a), some (.ref t), some vb, some vo, some vn, some vz, some (.ref lq), some vw, some vi, some (.ref lc), some (.ref g), some (.ref wd), none, none, none]) H2 J20 (.ref t20) from by
      intro J9 pins s1 g' wd x9 s9 I
      refine RsItem.p (rsItem_of (k := 8) (c := 5) (fs := [("limit", .int 40), ("many", .int 41), ("what", .str "cells")]) (ys := [.str "many", .str "cells", .int 41]) (v := .int 40) (es := [.str "many", .str "cells", .int 41]) (d := .int 40) (tb := fun E => tCall (spJoin K C BR TM UN) [] E (tCons (tMake C (spSInit K C BR) [] E (tCons (tTupF tNil) (tCons (tVar 11) tNil))) (tCons (tMake C (spSInit K C BR) [] E (tCons (tTupF tNil) (tCons (tTupF (tCons (tTup (tCons (tC (.int 1)) (tCons (tC (.int 0)) tNil))) tNil)) tNil))) tNil))) I (fun _ => rfl) rfl rfl (lamS_by (by kernel_rfl)) (i20.sm s9) (fun cl pm cv ctv => by rfl)
        (fun f c' A outer s H E hr' => pe_cg g_joined_states hr' rfl (passes_call (takes_of rfl rfl rfl rfl) (fun _ _ _ _ h => h)) (pa_cons (pe_mk m_State hr' rfl (passes_call (takes_of rfl rfl rfl rfl) (fun _ _ _ _ h => h)) (pa_cons (pe_tupF pa_nil) (pa_cons (pv 11) pa_nil))) (pa_cons (pe_mk m_State hr' rfl (passes_call (takes_of rfl rfl rfl rfl) (fun _ _ _ _ h => h)) (pa_cons (pe_tupF pa_nil) (pa_cons (pe_tupF (pa_cons (pe_tup (pa_cons pe_int (pa_cons pe_int pa_nil))) pa_nil)) pa_nil))) pa_nil))) (by decide) (fun H5 E e5 hR => ?_) ⟨_, _, _, rfl, rfl, rfl, rfl⟩ (.cons (.str _) (.cons (.str _) (.cons (.int _) .nil))) (by decide +kernel) (.int _) rfl (shB_ok (by decide +kernel)))
      rw [hc5] at hR
      have hg5 : Pd K H5 (.ref g) (rowsD greatR) := (((s19.trans s20).trans s9).pd hg (noL_rows _)).ext e5
      refine rx_callDA (evda_cons (Φ := fun w G => ∃ b, w = .ref b ∧ StG K G C b [] greatR) (evd_mkG sg_nil great_g (EvD.imp (evd_tupF eda_d0 (by decide)) (fun w G _ h => ra_pd h)) (rad_ev (ev_var rfl) hg5)) (fun H7 e7 => evda_cons (Φ := fun w G => ∃ b, w = .ref b ∧ StG K G C b [] [(.inl 1, 0)]) (evd_mkG sg_nil hg_one (EvD.imp (evd_tupF eda_d0 (by decide)) (fun w G _ h => ra_pd h)) (EvD.imp (evd_tupF (ds := [rowD (.inl 1, 0)]) (eda_d (evd_tupD (eda_d (evd_i ev_c) (eda_d (evd_i ev_c) eda_d0)) (show 2 ≤ 100000 by decide)) eda_d0) (by decide)) (fun w G _ h => ra_pd h))) (fun H8 e8 => evda_ev ea_nil) (fun _ _ _ e ⟨b, hb, h⟩ => ⟨b, hb, h.ext e⟩)) (fun _ _ _ e ⟨b, hb, h⟩ => ⟨b, hb, h.ext e⟩)) (fun vs H6 e6 ⟨x, ys, e, ⟨b, hx, hst⟩, y, zs, e', ⟨b2, hx2, hst2⟩, e''⟩ Q => ?_)
      subst e hx e' hx2 e''
      exact ⟨_, _, rfl, .inr ⟨b, [], greatR, rfl, hst, .inr ⟨b2, [], [(.inl 1, 0)], rfl, hst2, .inr ⟨by decide +kernel, .inr ⟨by decide +kernel, .inl ⟨by decide +kernel, hR.ext e6⟩⟩⟩⟩⟩⟩)
    refine qd_asg (Φ := fun w G => ∃ a, w = .ref a ∧ StG K G C a wideR []) (evd_mkG wide_g hg_nil (rad_l (wideD ▸ eld_lcR2 (n := 60) (lo := 10) (fun i => rowD (.inr (wideS i), 0)) (ea_cons ev_c (ea_cons ev_c ea_nil)) (by decide) (by decide) (fun _ => rfl) (fun _ _ => et_true fun _ _ _ q => q) (fun m => noLs_map (fun _ => rfl) _) (fun i H5 e5 hi => evd_tupD (eda_d (evd_s (ev_op ev_c (ev_strI (ev_var rfl) (wide_l hi).1) (rv_addS (wide_l hi).2))) (eda_d (evd_i ev_c) eda_d0)) (show 2 ≤ 100000 by decide)))) (EvD.imp (evd_tupF eda_d0 (by decide)) (fun w G _ h => ra_pd h))) (fun vwd Jw ew ⟨wd, ewd, hwd⟩ => ?_)
    subst ewd
    have Fw := F20.ex ew
    have Gw : ∀ x ∈ ts ++ [V.ref t19] ++ [V.ref t20], GoodX ((cxOf C8.CX0 P w K mg base ["pen", "made", "state", "bad", "odd", "none", "zero", "cells", "wrong", "images", "calls", "great", "wide", "address", "value", "at"] "_law_refusals_right" (defScope s__law_refusals_right) f0 (.ref cc) A outer s H C8.E0).nox) 9 cA (fun _ _ => [some (.ref p.1), some (.ref a), some (.ref t), some vb, some vo, some vn, some vz, some (.ref lq), some vw, some vi, some (.ref lc), some (.ref g), some (.ref wd), none, none, none]) H2 Jw x := fun x hx J9 pins s1 _ _ x9 s9 I => ((G20 x hx).sm (Sm.of ew)) J9 pins s1 g wd x9 s9 I
    refine q_appF Fw hp2 hlc2 rfl (show (ts ++ [V.ref t19] ++ [V.ref t20]).length ≤ 1000 by rw [List.length_append, List.length_append]; show ts.length + 1 + 1 ≤ 1000; omega) (due_of (vs := [.str "many", .str "names", .int 61, .int 60]) (fun H1 => ea_cons ev_c (ea_cons ev_c (ea_cons ev_c (ea_cons ev_c ea_nil)))) (show 4 ≤ 100000 by decide)) (fun _ _ _ _ h => h) (fun ds t21 J21 F21 s21 hds i21 => ?_)
    subst hds
    have G21 := good_snoc Gw s21 (show GoodX ((cxOf C8.CX0 P w K mg base ["pen", "made", "state", "bad", "odd", "none", "zero", "cells", "wrong", "images", "calls", "great", "wide", "address", "value", "at"] "_law_refusals_right" (defScope s__law_refusals_right) f0 (.ref cc) A outer s H C8.E0).nox) 9 cA (fun _ _ => [some (.ref p.1), some (.ref a), some (.ref t), some vb, some vo, some vn, some vz, some (.ref lq), some vw, some vi, some (.ref lc), some (.ref g), some (.ref wd), none, none, none]) H2 J21 (.ref t21) from by
      intro J9 pins s1 g' wd' x9 s9 I
      refine RsItem.p (rsItem_of (k := 8) (c := 5) (fs := [("limit", .int 60), ("many", .int 61), ("what", .str "names")]) (ys := [.str "many", .str "names", .int 61]) (v := .int 60) (es := [.str "many", .str "names", .int 61]) (d := .int 60) (tb := fun E => tCall (spWithValue K C BR BN TM) [] E (tCons (tVar 12) (tCons (tC (.str "b")) (tCons (tC (.int 0)) tNil)))) I (fun _ => rfl) rfl rfl (lamS_by (by kernel_rfl)) (i21.sm s9) (fun cl pm cv ctv => by rfl)
        (fun f c' A outer s H E hr' => pe_cg g_with_value hr' rfl (passes_call (takes_of rfl rfl rfl rfl) (fun _ _ _ _ h => h)) (pa_cons (pv 12) (pa_cons pe_str (pa_cons pe_int pa_nil)))) (by decide) (fun H5 E e5 hR => ?_) ⟨_, _, _, rfl, rfl, rfl, rfl⟩ (.cons (.str _) (.cons (.str _) (.cons (.int _) .nil))) (by decide +kernel) (.int _) rfl (shB_ok (by decide +kernel)))
      rw [hc5] at hR
      refine rx_call (dvs := []) (ea_cons (ev_var rfl) (ea_cons ev_c (ea_cons ev_c ea_nil))) (fun H6 e6 Q => ?_)
      have hst := ((hwd.sm (s21.trans s9)).ext e5).ext e6
      exact ⟨_, _, _, rfl, .inr ⟨wd, wideR, [], .str "b", rfl, hst, .str _, (show (Str.length "b") ≤ 40000 by decide), .inr ⟨"b", .int 0, rfl, nm_ok (by decide +kernel), .int 0, .inr ⟨0, rfl, rfl, .inl ⟨by decide +kernel, by decide +kernel, hR.ext e6⟩⟩⟩⟩⟩)
    refine ret_cz (sp := spRaiseSoP P w K mg base 9 cA) ((ev_var rfl) J21 (Ex.refl J21) _ fun H1 e1 pins s1 I => ?_)
    exact ⟨lc, _, rfl, sq_of (e1 _ _ F21.g), fun x hx => G21 x hx H1 pins s1 g wd (F21.x.trans (ExtN.of e1)) (Sm.of e1) I, fun H2' e2 => hQ H2' ((F21.p.same e1).same e2) ((F21.t.ext e1).ext e2)⟩
end
end Kb
set_option Elab.async false
set_option linter.all false
set_option maxRecDepth 100000
set_option maxHeartbeats 4000000
namespace Kb
open PySem PySem.Spec PyProof.Rows L2 LamX Evl
/-! ### a lambda with parameters, called by its maker -/
/-- the same words as a nested def has -/
abbrev LF.nf (F : LF) : NdefX.NF := ⟨"<lambda>", F.q, F.params, [], F.scope, F.cl, F.c⟩
abbrev lamF (X : Cx) (params : Arguments) (body : Expr) (scope : Scope) (c' : Addr) : LF := ⟨X.env.qual ++ "<lambda>", params, body, scope, cloFrom X.env.cells scope.names [], c'⟩
/-- its scope: one parameter, which a block within captures; the captured names -/
structure LCell (N : List Str) (a : Str) (fr : List Str) (sc : Scope) : Prop where
  kind : sc.kind = .function
  co : sc.isCoroutine = false
  gen : sc.isGenerator = false
  nd : N.Nodup
  pre : N.take (1 + fr.length) = a :: fr
  par : sc.names.lookup a = some .cell
  one : ∀ y ∈ sc.names, y.2 = .cell → y.1 = a
  nol : ∀ y ∈ sc.names, y.2 ≠ .local
  free : ∀ y ∈ sc.names, y.2 = .free → y.1 ∈ fr
  frk : ∀ x ∈ fr, sc.names.lookup x = some .free
def lcellB (N : List Str) (a : Str) (fr : List Str) (sc : Scope) : Bool :=
  decide (sc.kind = .function) && !sc.isCoroutine && !sc.isGenerator && decide N.Nodup && decide (N.take (1 + fr.length) = a :: fr) && decide (sc.names.lookup a = some .cell) && sc.names.all (fun y => !decide (y.2 = .cell) || decide (y.1 = a)) && sc.names.all (fun y => !decide (y.2 = .local)) && sc.names.all (fun y => !decide (y.2 = .free) || decide (y.1 ∈ fr)) && fr.all (fun x => decide (sc.names.lookup x = some .free))
theorem lcell_by {N fr : List Str} {a : Str} {sc : Scope} (h : lcellB N a fr sc = true) : LCell N a fr sc := by
  unfold lcellB at h
  simp only [Bool.and_eq_true, Bool.not_eq_true', decide_eq_true_eq, List.all_eq_true, Bool.or_eq_true, decide_eq_false_iff_not] at h
  obtain ⟨⟨⟨⟨⟨⟨⟨⟨⟨h1, h2⟩, h3⟩, h4⟩, h5⟩, h6⟩, h7⟩, h8⟩, h9⟩, h10⟩ := h
  exact ⟨h1, h2, h3, h4, h5, h6, fun y hy e => (h7 y hy).elim (fun z => absurd e z) id, h8, fun y hy e => (h9 y hy).elim (fun z => absurd e z) id, h10⟩
/-- its environment: the frame, the parameter's cell, the captured ones -/
theorem newEnv_lam {M : Model} {A : Around} {E : Value → Shared → Prop} {s : Shared} {scope : Scope} {globals : Addr} {cl : List (Str × Addr)} {a : Str} {u : Value} {qual : Str} {func : Option Addr} {code : Value} {builtins : Addr} {Q : Env → Shared → Prop} (hk : scope.kind = .function)
    (hp : scope.names.lookup a = some .cell) (hn : ∀ c, (a, c) ∉ cl)
    (hQ : ∀ (c : Addr) (h' : Heap), (cellsFrom (s.heap.objs.size + 1) scope.names cl).lookup a = some c → s.heap.objs.size + 1 ≤ c → h'.Ns s.heap.objs.size (fun _ => none) → h'.IsCell c (some u) → Heap.SameBut c (pushCells (s.heap.push { cls := .type "frame", data := .dict #[] }) scope.names) h' →
      Q (newEnv scope s.heap.objs.size globals (cellsFrom (s.heap.objs.size + 1) scope.names cl) qual func code none builtins) { s with heap := h' }) : wpAny M A (newFunctionEnv scope globals cl [(a, u)] qual func code none builtins) Q E s := by
  have sz : (s.heap.push { cls := .type "frame", data := .dict #[] }).objs.size = s.heap.objs.size + 1 := Heap.size_push ..
  obtain ⟨c0, hm⟩ := cells_has (n := (s.heap.push { cls := .type "frame", data := .dict #[] }).objs.size) (acc := cl) (PySem.mem_of_lookup hp)
  obtain ⟨c, hc⟩ := mem_lookup hm
  have hcell : s.heap.objs.size + 1 ≤ c ∧ (pushCells (s.heap.push { cls := .type "frame", data := .dict #[] }) scope.names).IsCell c none := by
    rcases cells_mem (PySem.mem_of_lookup hc) with z | ⟨_, z1, z2⟩
    · exact absurd z (hn c)
    · exact ⟨by rw [← sz]; exact z1, z2⟩
  unfold newFunctionEnv
  refine wpAny_bind (wpAny_alloc (wpAny_bind (wpAny_layCells _ (fun name kind cells => by cases hkc : kind == NameKind.cell <;> simp [hkc]) _ _ _ _ ?_)))
  refine wpAny_bind ?_
  rw [List.forIn_cons]
  refine wpAny_bind (wpAny_bind (wpAny_storeName_cell (c := c) hk hp hc hcell.2 fun h' h1 h2 => ?_))
  refine wpAny_pure ?_
  dsimp only
  rw [List.forIn_nil]
  refine wpAny_pure (wpAny_pure ?_)
  have hL : h'.Ns s.heap.objs.size fun _ => none := by
    have n0 : (pushCells (s.heap.push { cls := .type "frame", data := .dict #[] }) scope.names).Ns s.heap.objs.size fun _ => none := (Heap.Ns.new s.heap (.type "frame")).keeps (pushCells_keeps _ _)
    exact n0.sameBut h2 (Nat.ne_of_lt hcell.1)
  have fin := hQ c h' (by rw [← sz]; exact hc) hcell.1 hL h1 h2
  rw [← sz] at fin
  exact fin
/-- ws: what its captured cells hold -/
def tLamW (mk : Addr → LF) (N : List Str) (i : Nat) (ws : L2.St → List (Option V)) (tb : TE) (t : TA) : TE := fun σ H Q => ∃ f c', σ[i]? = some (some (.ref f)) ∧ H f = some (LamO f (mk c')) ∧
  t σ H fun vs H1 => H1 f = some (LamO f (mk c')) ∧ H1 c' = some (CodeO c' (mk c').q) ∧ vs.length = 1 ∧ tb (NdefX.startF N vs (ws σ)) H1 Q
/-- its words where it runs: L its frame -/
abbrev LF.at (F : LF) (L : Addr) : NdefX.NF := ⟨"<lambda>", F.q, F.params, [], F.scope, cellsFrom (L + 1) F.scope.names F.cl, F.c⟩
section
variable {P : Program} {w : World} {K : PySem.W.Frag} {mg : Str → Option Value} {base : Heap} {N fr : List Str} {a : Str} {F : LF} {f c : Addr} {A : Around} {outer : List Env} {s : Shared} {H : Hp} {v : V} {u : Value} {ws : List (Option V)} {h' : Heap}
theorem lam_starts (S : LCell N a fr F.scope) (hn : ∀ c, (a, c) ∉ F.cl) (hcu : ∀ y b, (y, b) ∈ F.cl → F.cl.lookup y = some b) (hd : A.handled = none) (e0 : Env0 P w K mg base A outer s H) (r : RelV v u) (C : NdefX.CellsAt F.cl fr ws s.heap H)
    (hc : (cellsFrom (s.heap.objs.size + 1) F.scope.names F.cl).lookup a = some c) (hc1 : s.heap.objs.size + 1 ≤ c) (hns : h'.Ns s.heap.objs.size (fun _ => none)) (hcv : h'.IsCell c (some u)) (sb : Heap.SameBut c (pushCells (s.heap.push { cls := .type "frame", data := .dict #[] }) F.scope.names) h') :
    L2.Inv (NdefX.ncx C8.CX0 P w K mg base N (F.at s.heap.objs.size) f A outer s H C8.E0) [] (NdefX.startF N [v] ws) H { s with heap := h' } := by
  have sz : (s.heap.push { cls := .type "frame", data := .dict #[] }).objs.size = s.heap.objs.size + 1 := Heap.size_push ..
  have kp : ∀ b o, s.heap.get? b = some o → h'.get? b = some o := fun b o e => by
    rw [sb.2 b (Nat.ne_of_lt (Nat.lt_of_lt_of_le (Nat.lt_succ_of_lt (Heap.lt_size e)) hc1))]
    exact pushCells_keeps _ _ _ _ (Heap.get?_push_of_some _ e)
  have lt0 : ∀ {y b}, (y, b) ∈ F.cl → b < s.heap.objs.size := fun {y b} m => by
    obtain ⟨_, _, z⟩ := C.all y b (hcu y b m)
    exact z.lt
  have noA : ∀ b : Addr, b ∉ (NdefX.ncx C8.CX0 P w K mg base N (F.at s.heap.objs.size) f A outer s H C8.E0).ex := fun b z => absurd (show b ∈ ([] : List Addr) from z) (by simp)
  have cellK : ∀ {b : Addr} {z : Option Value}, s.heap.IsCell b z → h'.IsCell b z := fun {b z} ⟨o, ho, hd⟩ => ⟨o, kp _ _ ho, hd⟩
  -- the parameter's cell or a captured one
  have two : ∀ {y b}, (cellsFrom (s.heap.objs.size + 1) F.scope.names F.cl).lookup y = some b → (y = a ∧ b = c) ∨ ((y, b) ∈ F.cl ∧ y ≠ a) := fun {y b} e => by
    by_cases hy : y = a
    · subst hy
      rw [hc] at e
      cases e
      exact .inl ⟨rfl, rfl⟩
    · rw [← sz] at e
      rcases cells_mem (PySem.mem_of_lookup e) with z | ⟨z, _, _⟩
      · exact .inr ⟨z, hy⟩
      · exact absurd (S.one _ z rfl) hy
  have anf : a ∉ fr := fun z => by
    have q := S.nd.sublist (List.take_sublist (1 + fr.length) N)
    rw [S.pre] at q
    exact (List.nodup_cons.mp q).1 z
  have look : ∀ {y b}, F.cl.lookup y = some b → y ≠ a → (cellsFrom (s.heap.objs.size + 1) F.scope.names F.cl).lookup y = some b := fun {y b} e ne => by
    obtain ⟨b', h1⟩ := mem_lookup (cells_acc (names := F.scope.names) (n := s.heap.objs.size + 1) (PySem.mem_of_lookup e))
    rcases two h1 with ⟨z, _⟩ | ⟨z, _⟩
    · exact absurd z ne
    · have := hcu y b' z
      rw [e] at this
      cases this
      exact h1
  have caught : ∀ {y : Str}, F.scope.names.lookup y = some .free → ∃ b, F.cl.lookup y = some b ∧ y ≠ a := fun {y} hy => by
    have hy2 := S.free _ (PySem.mem_of_lookup hy) rfl
    obtain ⟨i, hi⟩ := List.mem_iff_getElem?.mp hy2
    obtain ⟨b, hb, _⟩ := C.has i y hi
    exact ⟨b, hb, fun z => anf (z ▸ hy2)⟩
  refine ⟨⟨e0.mod, S.kind, rfl, rfl, Nat.le_refl _, fun x y b e1 e2 => ?_, fun y hy => ?_, fun y b z _ => ?_, fun _ => hd, Around.frames_deeper e0.frames, .inr ⟨rfl, rfl⟩, fun b z => absurd z (noA b), e0.bs, e0.bsz, fun b _ _ => noA b,
      fun b z => absurd z (noA b), e0.funs, e0.frf⟩,
    rfl, e0.bare, Un.kept kp, ⟨_, hns, fun i y z e1 e2 e3 => ?_⟩, fun y b e => ?_, e0.hok.fresh (Nat.le_refl _), fun y b e => ?_, fun q hq => absurd (show q ∈ ([] : List (Addr × Obj)) ++ [] from hq) (by simp), e0.hok.kept kp, ?_⟩
  · rcases two e1 with ⟨z1, z2⟩ | ⟨z1, _⟩ <;> rcases two e2 with ⟨y1, y2⟩ | ⟨y1, _⟩
    · rw [z1, y1]
    · rw [z2] at y1
      exact absurd (lt0 y1) (Nat.not_lt.mpr (Nat.le_of_succ_le hc1))
    · rw [y2] at z1
      exact absurd (lt0 z1) (Nat.not_lt.mpr (Nat.le_of_succ_le hc1))
    · exact C.inj x y b (hcu _ _ z1) (hcu _ _ y1)
  · have hy : F.scope.names.lookup y = some .cell ∨ F.scope.names.lookup y = some .free := hy
    rcases hy with hy | hy
    · have := S.one _ (PySem.mem_of_lookup hy) rfl
      have this : y = a := this
      rw [this]
      exact ⟨c, hc⟩
    · obtain ⟨b, hb, ne⟩ := caught hy
      exact ⟨b, look hb ne⟩
  · have z : false = true := z
    cases z
  · have e1 : N[i]? = some y := e1
    have hpre : ∀ j, j < 1 + fr.length → N[j]? = (a :: fr)[j]? := fun j hj => by
      rw [← S.pre, List.getElem?_take_of_lt hj]
    have clen := C.len
    unfold NdefX.startF at e2
    cases i with
    | zero =>
      rw [hpre 0 (by omega)] at e1
      have e1 : some a = some y := e1
      cases e1
      have e2 : some (some v) = some (some z) := e2
      cases e2
      exact ⟨u, r, .inr ⟨.inl S.par, c, hc, hcv⟩⟩
    | succ i =>
      have e2 : (ws ++ List.replicate (N.length - 1 - ws.length) none)[i]? = some (some z) := by simpa using e2
      by_cases h2 : i < fr.length
      · rw [hpre (i + 1) (by omega), List.getElem?_cons_succ] at e1
        rw [List.getElem?_append_left (by omega)] at e2
        obtain ⟨b, hb, hv⟩ := C.has i y e1
        obtain ⟨u', ru, hu⟩ := hv z e2
        have ne : y ≠ a := fun q => anf (q ▸ List.mem_of_getElem? e1)
        exact ⟨u', ru, .inr ⟨.inr (S.frk y (List.mem_of_getElem? e1)), b, look hb ne, cellK hu⟩⟩
      · rw [List.getElem?_append_right (by omega), List.getElem?_replicate] at e2
        split at e2 <;> cases e2
  · rcases two e with ⟨_, z⟩ | ⟨z, _⟩
    · rw [z]
      exact ⟨_, hcv⟩
    · obtain ⟨_, x, q⟩ := C.all y b (hcu _ _ z)
      exact ⟨x, cellK q⟩
  · rcases two e with ⟨_, z⟩ | ⟨z, _⟩
    · rw [z]
      exact e0.hok.fresh (Nat.le_of_succ_le hc1)
    · exact (C.all y b (hcu _ _ z)).1
  · have clen := C.len
    have q := congrArg List.length S.pre
    rw [List.length_take, List.length_cons] at q
    unfold NdefX.startF
    show _ = N.length
    rw [List.length_append, List.length_append, List.length_map, List.length_replicate]
    simp only [List.length_cons, List.length_nil]
    omega
end
section
variable {X : Cx} {q a : Str} {params : Arguments} {body : Expr} {scope : Scope} {N fr : List Str} {cells : List (Str × Addr)} {ws : L2.St → List (Option V)} {js : List Nat} {i j k : Nat} {x : Str} {t : TA} {tb : TE} {e : Expr} {es : List Expr} {p pos : Pos}
theorem pe_lamW (hC : ∀ (pins : List (Addr × Obj)) (σ : L2.St) (H : Hp) (s : Shared), L2.Inv X pins σ H s → NdefX.CellsAt (cloFrom cells scope.names []) fr (ws σ) s.heap H) (S : LCell N a fr scope)
    (hb : ∀ (cl : List (Str × Addr)) (pm cv ctv u : Value), bindArgs (PySem.W.kla_fn "<lambda>" q params body scope cl pm cv ctv) ⟨[u], []⟩ = pure [(a, u)]) (hr : Room j X.A) (hk : k + 1 ≤ j)
    (hbody : ∀ (f L : Addr) (c' : Addr) (A : Around) (outer : List Env) (s : Shared) (H : Hp), Room k (A.deeper (NdefX.envF (LF.at ⟨q, params, body, scope, cloFrom cells scope.names [], c'⟩ s.heap.objs.size) f s.heap.objs.size)) → PE (NdefX.ncx C8.CX0 X.prog X.w X.K X.mg X.base N (LF.at ⟨q, params, body, scope, cloFrom cells scope.names [], c'⟩ s.heap.objs.size) f A outer s H C8.E0).nox body tb)
    (hN : X.N[i]? = some x) (hv : Vis X.env.scope x) (ha : PA X (e :: es) t) (hd : (x == ("__debug__" : Str)) = false := by decide) (hcd : (x == ("__classdict__" : Str)) = false := by decide)
    (he : starEach (e :: es) X.env = (false, eval e X.env) :: starEach es X.env := by rfl) (hpl : (backTo pos (starEach es X.env)).any (·.1) = false := by rfl) :
    PE X (.Call (.Name x p) (e :: es) [] pos) (tLamW (fun c' => ⟨q, params, body, scope, cloFrom cells scope.names [], c'⟩) N i ws tb t) := by
  refine ⟨fun pins s σ H Q I h => ?_⟩
  obtain ⟨f, c', hs, hfo, ht⟩ := h
  refine wpAny_Call_Name_kw (thn ((pe_var (pos := p) hN hv hd hcd).run pins s σ H (fun v H1 => v = .ref f ∧ H1 = H) I ⟨.ref f, hs, rfl, rfl⟩) fun u s1 ⟨v, H1, I1, r1, q1⟩ => ?_)
  obtain ⟨ev, eH⟩ := q1
  subst ev
  rw [eH] at I1
  obtain rfl : u = Value.ref f := r1
  have fnAt : ∀ {σ : L2.St} {H : Hp} {s : Shared}, L2.Inv X pins σ H s → H f = some (LamO f ⟨q, params, body, scope, cloFrom cells scope.names [], c'⟩) → PySem.W.FnAt f s.heap := fun I e => by
    obtain ⟨pm, ctv, of1⟩ := lamO_at I.hok e
    exact ⟨_, _, _, _, of1⟩
  refine PySem.W.callWith_F (first := []) (fnAt I1 hfo) (thn (ha.run pos pins s1 σ H _ I1 ht) fun us s2 ⟨vs, H2, I2, r, h1, h2, hl, q2⟩ => ⟨fnAt I2 h1, ?_⟩) he hpl
  show wpAny _ _ (call (.ref f) us) _ _ _
  have C := hC pins σ H2 s2 I2
  have hr' := hr.mono hk
  have e0 := I2.env0
  obtain ⟨pm, ctv, of1⟩ := lamO_at I2.hok h1
  obtain ⟨⟨oc, cvs, tc, hoc, hdc, hvc⟩, _, _⟩ := I2.hok c' _ h2
  have lim : s2.heap.NoLimit := e0.mod.nolimit.keeps fun b o e => (e0.bs b o e).1
  obtain ⟨v1, rfl⟩ : ∃ v1, vs = [v1] := by
    match vs, hl with
    | [v1], _ => exact ⟨v1, rfl⟩
  obtain ⟨u1, rfl, r1⟩ : ∃ u1, us = [u1] ∧ RelV v1 u1 := by
    cases r with
    | cons a b =>
      cases b
      exact ⟨_, rfl, a⟩
  have hmem : ∀ y b, (y, b) ∈ cloFrom cells scope.names [] → (y, NameKind.free) ∈ scope.names ∧ b = (cells.lookup y).getD 0 := fun y b m => (cloFrom_mem m).elim (fun z => by cases z) id
  have hcu : ∀ y b, (y, b) ∈ cloFrom cells scope.names [] → (cloFrom cells scope.names []).lookup y = some b := fun y b m => by
    obtain ⟨b', hb'⟩ := mem_lookup m
    rw [hb', (hmem y b m).2, (hmem y b' (PySem.mem_of_lookup hb')).2]
  have hn : ∀ c, (a, c) ∉ cloFrom cells scope.names [] := fun c m => by
    have h1 := S.free _ (hmem a c m).1 rfl
    have h2 := S.nd.sublist (List.take_sublist (1 + fr.length) N)
    rw [S.pre] at h2
    exact (List.nodup_cons.mp h2).1 h1
  refine wpAny_call (codeAny_mono (R := CR C8.CX0 X.stack X.prog X.w H2 s2 Q C8.E0) ?_ fun r' s' hq => ?_)
  · refine PySem.W.kla_callFunE hr'.depth of1 rfl S.co S.gen rfl ⟨c', oc, cvs, tc, rfl, hoc, hdc, hvc⟩ ?_
    rw [hb]
    refine wpAny_pure (newEnv_lam S.kind S.par hn fun c h' hc hc1 hns hcu' sb => ?_)
    have J := lam_starts (f := f) (F := ⟨q, params, body, scope, cloFrom cells scope.names [], c'⟩) (outer := X.stack) S hn hcu hr'.hd e0 r1 C hc hc1 hns hcu' sb
    have kp : ∀ b o, s2.heap.get? b = some o → h'.get? b = some o := fun b o e => by
      rw [sb.2 b (Nat.ne_of_lt (Nat.lt_of_lt_of_le (Nat.lt_succ_of_lt (Heap.lt_size e)) hc1))]
      exact pushCells_keeps _ _ _ _ (Heap.get?_push_of_some _ e)
    refine ⟨lim.keeps kp, PySem.W.kla_codeExpr (wpAny_mono ((hbody f 0 c' X.A X.stack s2 H2 (hr'.deeper _)).nox.run [] _ _ H2 Q J q2) (fun v s' hq => ?_) fun e s' hq => hq)⟩
    obtain ⟨w', H', J', rv, q⟩ := hq
    exact ⟨w', H', J'.os, J'.bare, J'.base, J'.hok, rv, q⟩
  · cases r' with
    | error e => exact False.elim hq
    | ok fl =>
      cases fl with
      | ret u => exact I2.after hq
      | next => exact False.elim hq
      | brk => exact False.elim hq
      | cont => exact False.elim hq
/-- what the maker's cells hold, in a block of the maker's -/
theorem blk_cells {s : Shared} {H : Hp} {C : Addr} {bs : Scope} {bl : List (Str × Addr)} {fp : List Addr} {pins : List (Addr × Obj)} {σ : L2.St} (I : L2.Inv X pins σ H s) (hfn : ∀ x, X.fn x = true) (hst : X.stack = X.env :: X.outer) (hfrm : X.env.frame = some X.env.locals)
    (hf : NdefX.ndefB X.env.scope scope fr = true) (hjs : js.map (fun j => X.N[j]?) = fr.map some) (hfp : ∀ b ∈ fp, ∀ y c, X.env.cells.lookup y = some c → c ≠ b) {pins' : List (Addr × Obj)} {σ' : L2.St} {H' : Hp} {s' : Shared}
    (J : L2.Inv (X.blk s H bs (compEnvC bs bl C X.env) fp) pins' σ' H' s') : NdefX.CellsAt (cloFrom X.env.cells scope.names []) fr (js.map (NdefX.slotAt σ)) s'.heap H' := by
  have cp := NdefX.Caps.made I.ok (NdefX.ndef_free hf) (NdefX.ndef_fr hf) hjs
  refine NdefX.CellsAt.later (X := X.blk s H bs (compEnvC bs bl C X.env) fp) (NdefX.cells_of I cp) (fun y c e z => ?_) (fun y c e z => hfp c z y c (cp.sub y c e) rfl) J
  have e' := cp.sub y c e
  have z : c ∈ frs X.stack := z
  rw [hst] at z
  unfold frs at z
  rw [List.filterMap_cons, hfrm] at z
  rcases List.mem_cons.mp z with z | z
  · exact I.cne y c e' z
  · obtain ⟨_, o2, ho2, _⟩ := I.ok.funs.mem z
    exact absurd (Nat.lt_of_lt_of_le (Heap.lt_size ho2) (I.ok.cab y c (hfn _) e')) (Nat.lt_irrefl _)
end
end Kb
set_option Elab.async false
set_option linter.all false
set_option maxRecDepth 100000
set_option maxHeartbeats 4000000
namespace Kb
open PySem PySem.Spec PyProof.Rows L2 LamX Evl
/-! ### a list comprehension whose elements may lean on what the def's own cells hold -/
section
variable {B : Cx} {elt tg iter : Expr} {scope : Scope} {pos : Pos} {J : It} {fp : List Addr} {it D : Addr} {tn : Nat → Heap → Prop} {g : TG} {te : TE} {σw : L2.St} {vs : List Nat} {W : Nat → Nat → Hp → Prop} {Fin : Hp → Prop} {post : Result → Shared → Prop}
/-- the turns, told by the block's context alone -/
theorem blk_turns (hx : B.xe = fun _ _ => False) (hc : B.calm = true) (hp : B.pn = []) (T : Turn B.prog B.w B.K tg J fp it tn) (pg : PG B tg g) (pe : PE B elt te) (own : ∀ b ∈ fp, b ∈ B.ex)
    (hw : ∀ i m H, W i m H → (J.stop i H ∧ Fin H) ∨ (J.go i H ∧ ∃ Nx : Hp → Prop, (∀ H', Nx H' → ∃ m', m' < m ∧ W (i + 1) m' H') ∧ ∀ x H', J.yld i H x H' → g x σw H' fun σ2 H2 => wipe σ2 vs = σw ∧ te σ2 H2 fun y H4 => ∃ acc, H4 D = some (.lst acc) ∧ acc.length < sizeLine ∧ Nx (upd H4 D (.lst (acc ++ [y])))))
    (hpost : ∀ s' H', L2.Inv B [] σw H' s' → Fin H' → post (.ok .next) s') {s : Shared} {H : Hp} {m : Nat} (I : L2.Inv B [] σw H s) (t0 : tn 0 s.heap) (n0 : ∀ b ∈ fp, H b = none) (w0 : W 0 m H) :
    codeAny (model B.prog B.w) B.A (.compLoop (.ListComp elt [⟨tg, iter, [], 0⟩] scope pos) 0 (.ref it) (.ref D) B.env) post s := by
  have free : ∀ {H' : Hp}, (∀ b ∈ fp, H' b = none) → ∀ b ∈ fp, FpOk B [] H' b := fun hn b hb => ⟨hn b hb, (I.ok.exf b (own b hb)).1, I.ok.exfs b (own b hb), .inl (own b hb), (I.ok.exf b (own b hb)).2, fun p hq => by rw [hp] at hq; cases hq⟩
  refine compLoop_any (fun n s' => ∃ i H', L2.Inv B [] σw H' s' ∧ tn i s'.heap ∧ (∀ b ∈ fp, H' b = none) ∧ W i n H') (fun n s1 ⟨i, H1, I1, t1, n1, w1⟩ => ?_) m ⟨0, H, I, t0, n0, w0⟩
  cases hw i n H1 w1 with
  | inl e =>
    refine thnF (T.done B rfl rfl rfl hc i [] s1 σw H1 _ I1 (free n1) t1 e.1) fun r s2 ⟨er, I2⟩ => ?_
    rw [er]
    exact hpost s2 H1 I2 e.2
  | inr e =>
    obtain ⟨go, Nx, hN, step⟩ := e
    refine thnF (T.item B rfl rfl rfl hc i [] s1 σw H1 _ I1 (free n1) t1 go) fun r s2 ⟨u, er, h2⟩ => ?_
    rw [er]
    refine thnF h2 fun _ s3 ⟨x, H3, I3, rx, y3, t3, n3⟩ => ?_
    have a := pg.run _ s3 _ H3 x u _ (I3.pinned (free n3) (T.obj _ _ t3)) rx (step x H3 y3)
    rw [hx] at a
    refine thnF a fun _ s4 ⟨σ4, H4, I4, hw4, q4⟩ => wpAny_tests_nil ?_
    have c := pe.run _ s4 σ4 H4 _ I4 q4
    rw [hx] at c
    rw [if_pos rfl]
    refine thnF c fun z s5 ⟨y, H5, I5, ry, acc, hD, hz, nx⟩ => app_ok (X := B) I5 hD hz ry fun s6 I6 => ?_
    obtain ⟨m', hm, w'⟩ := hN _ nx
    have kept : ∀ b ∈ fp, ∀ o, s3.heap.get? b = some o → s6.heap.get? b = some o ∧ upd H5 D (.lst (acc ++ [y])) b = none := fun b hb o e =>
      ⟨(I6.pin (b, o) (List.mem_append_right _ (List.mem_append_right _ (mem_pinsAt hb e)))).1, (I6.pin (b, o) (List.mem_append_right _ (List.mem_append_right _ (mem_pinsAt hb e)))).2.1⟩
    have J6 := I6.unpinned.weak (σ' := σw) (by rw [← hw4, wipe_length]) (fun j v e => (wipe_some (by rw [hw4]; exact e)).1)
    exact ⟨m', hm, i + 1, _, J6, T.keep _ _ _ t3 fun b hb o e => (kept b hb o e).1, fun b hb => by
      obtain ⟨o, e, _⟩ := T.obj _ _ t3 b hb
      exact (kept b hb o e).2, w'⟩
end
section
variable {X : Cx} {elt tg iter : Expr} {scope : Scope} {own : List (Str × Nat)} {pos : Pos} {wi : TI} {g : TG} {te : L2.St → TE}
def tLcB (wi : TI) (g : TG) (te : L2.St → TE) (vs : List Nat) : TE := fun σ => tLc wi g tYes (te σ) vs σ
theorem pe_lcB (hc : X.calm = true) (hN : X.N.Nodup) (hi : PI X tg iter wi) (ok : BlkOk X.N X.env.scope scope own)
    (hg : ∀ (s : Shared) (H : Hp) (C : Addr) (cl : List (Str × Addr)) (fp : List Addr), PG (X.blk s H scope (compEnvC scope cl C X.env) fp) tg g)
    (he : ∀ (s : Shared) (H : Hp) (C : Addr) (cl : List (Str × Addr)) (fp : List Addr) (pins : List (Addr × Obj)) (σ : L2.St), L2.Inv X pins σ H s → (∀ b ∈ fp, ∀ y c, X.env.cells.lookup y = some c → c ≠ b) → PE (X.blk s H scope (compEnvC scope cl C X.env) fp) elt (te σ))
    (hs : ∀ x, foldedSetIterable iter X.env x = pure x := by intro _; rfl) :
    PE X (.ListComp elt [⟨tg, iter, [], 0⟩] scope pos) (tLcB wi g te (own.map (·.2))) := by
  refine ⟨fun pins s σ H Q I h => ?_⟩
  rw [eval_ListComp]
  have caught : ∀ y ∈ scope.names, y.2 = .free → ∃ c, X.env.cells.lookup y.1 = some c := fun y hy e => (ok.free y hy e).elim (fun k => I.ok.has _ (.inl k)) fun k => I.ok.has _ (.inr k)
  refine wpAny_comprehension_free (use := none) rfl hs (closure_ok caught) ok.kind (fun y hy e => by rw [ok.uniq y hy, e]) (thn (hi.run pins s σ H _ I h) fun xv s1 h1 => thn h1 fun itv s2 ⟨it, fp, tn, J, H2, eit, I2, T, t2, f2, q⟩ => ?_)
  subst eit
  refine wpAny_newObj_type (newEnv_comp ?_) (Nat.zero_le _)
  have hDn := I2.hok.fresh (Nat.le_refl s2.heap.objs.size)
  obtain ⟨W, ⟨m0, w0⟩, turn⟩ := q _ hDn
  -- the list stands; then the block begins
  have I3 : L2.Inv X pins σ (upd H2 s2.heap.objs.size (.lst [])) { s2 with heap := s2.heap.push { cls := .type "list", data := .seq ([] : List Value).toArray } } :=
    I2.laid (t' := s2.toks) (fun b o e => Heap.get?_push_of_some _ e) (Nat.le_refl _) ⟨Nat.zero_le _, [], 0, .nil, Heap.get?_push_size _ rfl⟩
  have t3 : tn 0 (s2.heap.push { cls := .type "list", data := .seq ([] : List Value).toArray }) := T.keep _ _ _ t2 fun b _ o e => Heap.get?_push_of_some _ e
  have old : ∀ b ∈ fp, b < s2.heap.objs.size := fun b hb => by
    obtain ⟨o, e, _⟩ := T.obj _ _ t2 b hb
    exact Heap.lt_size e
  have f3 : ∀ b ∈ fp, FpOk X pins (upd H2 s2.heap.objs.size (.lst [])) b := fun b hb => ⟨by rw [upd_ne (Nat.ne_of_lt (old b hb))]; exact (f2 b hb).1, (f2 b hb).2⟩
  revert I3 t3 f3 w0 turn
  generalize hs3 : ({ s2 with heap := s2.heap.push { cls := .type "list", data := .seq ([] : List Value).toArray } } : Shared) = s3
  generalize hH3 : upd H2 s2.heap.objs.size (.lst []) = H3
  generalize hD : s2.heap.objs.size = D
  intro turn w0 I3 t3 f3
  have sz3 : ∀ b ∈ fp, b < s3.heap.objs.size := fun b hb => by
    rw [← hs3]
    show b < (s2.heap.push _).objs.size
    rw [Heap.size_push]
    exact Nat.lt_succ_of_lt (old b hb)
  have I4 := block_start I3 ok hN fun b hb => ⟨f3 b hb, sz3 b hb⟩
  have t4 : tn 0 (pushCells (s3.heap.push { cls := .type "dict", data := .dict #[] }) scope.names) := T.keep _ _ _ (by rw [← hs3]; exact t3) fun b _ o e => pushCells_keeps _ _ _ _ (Heap.get?_push_of_some _ e)
  have pe := he s3 H3 s3.heap.objs.size (cellsFrom (s3.heap.objs.size + 1) scope.names (cloFrom X.env.cells scope.names [])) fp pins σ I3 fun b hb y c e => (f3 b hb).2.2.2.2.1 y c e
  have pg := hg s3 H3 s3.heap.objs.size (cellsFrom (s3.heap.objs.size + 1) scope.names (cloFrom X.env.cells scope.names [])) fp
  have loop := blk_turns (B := X.blk s3 H3 scope (compEnvC scope (cellsFrom (s3.heap.objs.size + 1) scope.names (cloFrom X.env.cells scope.names [])) s3.heap.objs.size X.env) fp) (iter := iter) (scope := scope) (pos := pos) (D := D) (post := compPost (model X.prog X.w) X.A X.xe none (EP X pins σ Q) (.ref D) s3.heap.objs.size) (Fin := fun H' => Q (.ref D) H') rfl hc rfl T pg pe (fun b hb => hb) (fun i m H w => turn i m H w) (fun s' H' I' fin => ?_) I4 t4 (fun b hb => (f3 b hb).1) w0
  · exact codeAny_compStart_list loop (T.self X.A 0 _ _ _ t4 loop)
  · -- back in the def's context
    have I5 : L2.Inv X pins σ H' s' := I3.call' (ch := fp) I'.os I'.base I'.hok I'.bare fun b hb => ⟨(f3 b hb).2.2.2.1, (f3 b hb).2.1, (f3 b hb).2.2.2.2.1, (f3 b hb).2.2.2.2.2⟩
    obtain ⟨m, hn, _⟩ := I'.loc
    obtain ⟨z0, z1, z2, z3, z4, z5⟩ := I3.fpOk (Nat.le_refl _) (show H' s3.heap.objs.size = none from I'.free)
    exact ⟨m, hn, fun h'' sb => ⟨.ref D, H', I5.turned (t' := s'.toks) (fun b o hb e => (sb.2 b hb).trans e) z0 z1 z3 z4 z5, rfl, fin⟩⟩
end
end Kb
set_option Elab.async false
set_option linter.all false
set_option maxRecDepth 100000
set_option maxHeartbeats 8000000
namespace Kb
open PySem PySem.Spec PyProof.Rows L2 L2.DX LamX Evl
/-! ### led: the law's own lambda -/
def lamStmt : Stmt → Option (Arguments × Expr × Scope)
  | .Assign _ (.Lambda p b sc _) _ => some (p, b, sc)
  | _ => none
def lamIn : Stmt → Option (Arguments × Expr × Scope)
  | .For _ _ body _ _ => body.findSome? lamStmt
  | _ => none
def ledL : Arguments × Expr × Scope := ((defBody s_law).findSome? lamIn).getD (⟨[], [], none, [], [], none, []⟩, .Constant .none 0 ⟨0, 0, 0, 0⟩, default)
theorem ledL_f : NdefX.ndefB (defScope s_law) ledL.2.2 ["table"] = true := by kernel_rfl
theorem ledL_s : LCell ["own", "table", "one", "other"] "own" ["table"] ledL.2.2 := lcell_by (by kernel_rfl)
theorem ledL_b {q : Str} {cl : List (Str × Addr)} {pm cv ctv u : Value} : bindArgs (PySem.W.kla_fn "<lambda>" q ledL.1 ledL.2.1 ledL.2.2 cl pm cv ctv) ⟨[u], []⟩ = pure [(("own" : Str), u)] := by rfl
theorem pe_lamTN {X : Cx} {T : List (Addr × Str)} {c P : Addr} {params : Arguments} {body : Expr} {scope : Scope} {pos : Pos} {fr : List Str} (TB : TabB X.base X.mg c P) (hcode : X.env.code = .ref c) (hm : (P, X.env.qual ++ "<lambda>") ∈ T) (hu : ∀ p ∈ T, p.1 = P → p.2 = X.env.qual ++ "<lambda>")
    (hdef : defaultsOf params X.env = ([], [])) (hf : NdefX.ndefB X.env.scope scope fr = true) : PE X (.Lambda params body scope pos) (tLamT X T params body scope) := by
  refine ⟨fun pins s σ H Q I h => ?_⟩
  obtain ⟨hT, h⟩ := h
  exact lam_makeT I TB hcode hm hu hT hdef (fun y hy e => (NdefX.ndef_free hf y hy e).elim (fun z => I.ok.has _ (.inl z)) fun z => I.ok.has _ (.inr z)) fun f c' H1 s' I1 e1 e2 e3 e4 e5 e6 => ⟨.ref f, H1, I1, rfl, h f c' H1 e1 e2 e3 e4 e5 e6⟩
def tLed (K : PySem.W.Frag) : TE := tOp (rIx K) (tLc (iSeq K (tVar 1)) (gTup K 2 (gCons (gName 2) (gCons (gName 3) gNil))) (tTest (tOp (rEqA K) (tVar 2) (tVar 0))) (tVar 3) [2, 3]) (tC (.int 0))
theorem ledL_e {P : Program} {w : World} {K : PySem.W.Frag} {mg : Str → Option Value} {base : Heap} {q : Str} {cl : List (Str × Addr)} {c' f : Addr} {A : Around} {outer : List Env} {s : Shared} {H : Hp} {k : Nat}
    (hr : Room k (A.deeper (NdefX.envF (LF.at ⟨q, ledL.1, ledL.2.1, ledL.2.2, cl, c'⟩ s.heap.objs.size) f s.heap.objs.size))) : PE (NdefX.ncx C8.CX0 P w K mg base ["own", "table", "one", "other"] (LF.at ⟨q, ledL.1, ledL.2.1, ledL.2.2, cl, c'⟩ s.heap.objs.size) f A outer s H C8.E0).nox ledL.2.1 (tLed K) := by
  have nd := ledL_s.nd
  have hu64 := hu64_of hr
  exact (pe_ix (r := rIx K) ix_seq (pe_lc (own := [("one", 2), ("other", 3)]) rfl nd (piA_seq (pv 1)) (blk_ok (by kernel_rfl)) (fun _ _ _ _ _ => (pgK_tup (K := K) (n := 2) rfl rfl (pgs_cons (pg_name (i := 2) nd rfl (.inl rfl)) (pgs_cons (pg_name (i := 3) nd rfl (.inl rfl)) pgs_nil)))) (fun _ _ _ _ _ => (pts_one (pt_cmpR (r := rEqA K) (opA_eq hu64) (pv 2) (pv 0) (nomark _)))) (fun _ _ _ _ _ => (pv 3))) pe_int (fun _ _ => rfl))
section
variable {K : PySem.W.Frag} {σ : L2.St} {H : Hp} {ta tl te : TE} {xs : List V} {ds : List PyData} {im : List (Int × Int)} {x : Int} {l f c' : Addr}
/-- over a held list of pairs -/
theorem el_prtQ {a : Addr} {us : List (V × V)} {tt : TT} {ws : List Nat} {i1 i2 : Nat} (f : Nat → Bool) (g : Nat → V) (h : Ev tl σ H (.ref a)) (hx : SqL K H a xs) (hd : Prt K H xs us ds) (hz : xs.length ≤ 40000)
    (hw : ∀ x y, wipe (((wipe σ ws).set i1 (some x)).set i2 (some y)) ws = wipe σ ws)
    (ht : ∀ (i : Nat) (u : V × V) H1, Ex H H1 → us[i]? = some u → EvT tt (((wipe σ ws).set i1 (some u.1)).set i2 (some u.2)) H1 (f i))
    (he : ∀ (i : Nat) (u : V × V) H1, Ex H H1 → us[i]? = some u → f i = true → Ev te (((wipe σ ws).set i1 (some u.1)).set i2 (some u.2)) H1 (g i)) :
    EvL (tLc (iSeq K tl) (gTup K 2 (gCons (gName i1) (gCons (gName i2) gNil))) tt te ws) σ H (given us.length f g) := by
  have up : ∀ {i : Nat} {x : V}, xs[i]? = some x → ∃ u, us[i]? = some u := fun {i x} hi => by
    have : i < us.length := by
      rw [← hd.len]
      exact (List.getElem?_eq_some_iff.mp hi).1
    exact ⟨_, List.getElem?_eq_getElem this⟩
  rw [← hd.len]
  refine el_lcQ (fun i => ((wipe σ ws).set i1 (some (us.getD i (.non, .non)).1)).set i2 (some (us.getD i (.non, .non)).2)) f g h hx hz (fun i _ => hw _ _) (fun i x H1 e hi k q => ?_) (fun i x H1 e hi => ?_) (fun i x H1 e hi hf => ?_)
  · obtain ⟨u, hu⟩ := up hi
    obtain ⟨b, rfl, hb⟩ := hd.at_ i x u hi hu
    rw [getD_some hu] at q
    exact ⟨b, _, rfl, ex_t e hb, rfl, u.1, [u.2], rfl, u.2, [], rfl, rfl, q⟩
  · obtain ⟨u, hu⟩ := up hi
    rw [getD_some hu]
    exact ht i u H1 e hu
  · obtain ⟨u, hu⟩ := up hi
    rw [getD_some hu]
    exact he i u H1 e hu hf
theorem ev_led0 {o2 o3 : Option V} (hl : SqL K H l xs) (hd : DpAll K H xs ((tabI im).map rowD)) (hz : im.length ≤ 1000) (hk : Kn im x) : Ev (tLed K) [some (.int x), some (.ref l), o2, o3] H (.int (led im x)) := by
  have hp := rows_prt hd
  have hxl : xs.length ≤ 40000 := by
    rw [hp.len, List.length_map]
    show (((0, 0) :: im).map cI).length ≤ 40000
    rw [List.length_map, List.length_cons]
    omega
  have look : ∀ {j : Nat} {u : V × V}, ((tabI im).map fun p => (kV p.1, V.int p.2))[j]? = some u → u = (kV ((tabI im).getD j (.inl 0, 0)).1, V.int ((tabI im).getD j (.inl 0, 0)).2) := fun {j u} hu => by
    rw [List.getElem?_map] at hu
    cases hc : (tabI im)[j]? with
    | none => rw [hc] at hu; cases hu
    | some c =>
      rw [hc] at hu
      cases hu
      rw [getD_some hc]
  obtain ⟨zs, hzs⟩ : ∃ zs : List Int, zs = ((tabI im).filter fun p => decide (p.1 = .inl x)).map (·.2) := ⟨_, rfl⟩
  have h0 : zs.head? = some (led im x) := by rw [hzs, ← look_filter]; exact led_some hk
  refine ev_opL1 (xs := zs.map V.int) (el_is (el_prtQ (fun j => decide (((tabI im).getD j (.inl 0, 0)).1 = .inl x)) (fun j => V.int ((tabI im).getD j (.inl 0, 0)).2) (ev_var rfl) hl hp hxl (fun _ _ => rfl) (fun j u H1 e hu => et_test (ev_is (ev_op (y := .int x) (ev_var rfl) (ev_var rfl) (rv_eqs (by rw [look hu]; exact key_scal _ (.inl x)))) (by rw [look hu]; exact congrArg V.bl (key_dec _ (.inl x))))) (fun j u H1 e hu _ => ev_is (ev_var rfl) (by rw [look hu])))
    (by rw [hzs, List.map_map]; exact given_key (tabI im) fun k => decide (k = .inl x))) (fun H1 e1 => ev_c) (fun pp H1 hp1 e1 => rv_iL (sq_of hp1) (atI_nat (j := 0) ?_))
  cases zs with
  | nil => cases h0
  | cons z r =>
    cases h0
    rfl
theorem ev_ledW {mk : Addr → LF} {i : Nat} {ws : L2.St → List (Option V)} (ha : Ev ta σ H (.int x)) (hσ : σ[i]? = some (some (.ref f))) (hf : H f = some (LamO f (mk c'))) (hc : H c' = some (CodeO c' (mk c').q)) (hws : ws σ = [some (.ref l)])
    (hl : SqL K H l xs) (hd : DpAll K H xs ((tabI im).map rowD)) (hz : im.length ≤ 1000) (hk : Kn im x) : Ev (tLamW mk ["own", "table", "one", "other"] i ws (tLed K) (tCons ta tNil)) σ H (.int (led im x)) := fun H1 e Q q =>
  ⟨f, c', hσ, e _ _ hf, ha H1 e _ fun H2 e2 => ⟨e2 _ _ (e _ _ hf), e2 _ _ (e _ _ hc), rfl, by
    rw [hws]
    exact (ev_led0 (ex_l (e.trans e2) hl) (DpAll.ext (e.trans e2) hd) hz hk) H2 (Ex.refl H2) Q fun H3 e3 => q H3 (e2.trans e3)⟩⟩
end
end Kb
set_option Elab.async false
set_option linter.all false
set_option maxRecDepth 100000
set_option maxHeartbeats 4000000
namespace Kb
open PySem PySem.Spec PyProof.Rows L2 L2.DX LamX Evl
/-! ### plain facts for the law of k02 -/
theorem oth_part {cs : List (Key × Int)} {k : Key} {v : Int} (hn : (cs.map (·.1)).Nodup) (h : lookI cs k = some v) : cs.Perm (othR cs k ++ [(k, v)]) := by
  induction cs with
  | nil => cases h
  | cons c r ih =>
    have hn' := List.nodup_cons.mp hn
    by_cases hc : c.1 = k
    · have hv : v = c.2 := by
        unfold lookI at h
        rw [List.find?_cons_of_pos (by simpa using hc)] at h
        cases h
        rfl
      have ho : othR (c :: r) k = r := by
        unfold othR
        rw [List.filter_cons_of_neg (by simpa using hc), List.filter_eq_self]
        intro p hp
        have : p.1 ≠ k := fun e => hn'.1 (List.mem_map.mpr ⟨p, hp, e.trans hc.symm⟩)
        simpa using this
      rw [ho, hv, ← hc]
      exact List.perm_append_comm (l₁ := [c]) (l₂ := r)
    · have h2 : lookI r k = some v := by
        unfold lookI at h ⊢
        rwa [List.find?_cons_of_neg (by simpa using hc)] at h
      have ho : othR (c :: r) k = c :: othR r k := by
        unfold othR
        rw [List.filter_cons_of_pos (by simpa using hc)]
      rw [ho]
      exact List.Perm.cons c (ih hn'.2 h2)
theorem oth_oth (cs : List (Key × Int)) (k : Key) : othR (othR cs k) k = othR cs k := by
  unfold othR
  rw [List.filter_filter]
  simp
theorem oth_sub (cs : List (Key × Int)) (k : Key) : (othR cs k).Sublist cs := List.filter_sublist
theorem put_due {cs : List (Key × Int)} (k : Key) (v : Int) (hn : (cs.map (·.1)).Nodup) : srtR (putR cs k v) = srtR (othR cs k ++ [(k, v)]) := srtR_of_perm (putR_perm cs k v hn)
theorem put_back {cs : List (Key × Int)} {k : Key} {v : Int} (ha : AscK cs) (h : lookI cs k = some v) : srtR (putR (othR cs k) k v) = cs := by
  have hn : ((othR cs k).map (·.1)).Nodup := List.Nodup.sublist ((oth_sub cs k).map _) ha.nodup
  rw [put_due k v hn, oth_oth]
  exact (srtR_uniq (oth_part ha.nodup h) ha.srt).symm
theorem put_len {cs : List (Key × Int)} (k : Key) (v : Int) : (putR cs k v).length ≤ cs.length + 1 := by
  unfold putR
  split
  · rw [List.length_map]
    omega
  · rw [List.length_append]
    exact Nat.le_refl _
theorem join_back {cs : List (Key × Int)} (f : Key × Int → Bool) (ha : AscK cs) : srtR (cs.filter f ++ cs.filter fun p => !f p) = cs ∧ srtR ((cs.filter fun p => !f p) ++ cs.filter f) = cs :=
  ⟨(srtR_uniq (List.filter_append_perm f cs).symm ha.srt).symm, (srtR_uniq ((List.filter_append_perm f cs).symm.trans List.perm_append_comm) ha.srt).symm⟩
theorem key_once {cs : List (Key × Int)} (hn : (cs.map (·.1)).Nodup) {p q : Key × Int} (hp : p ∈ cs) (hq : q ∈ cs) (e : p.1 = q.1) : p = q := by
  induction cs with
  | nil => cases hp
  | cons c r ih =>
    have hn' := List.nodup_cons.mp hn
    rcases List.mem_cons.mp hp with e1 | h1 <;> rcases List.mem_cons.mp hq with e2 | h2
    · rw [e1, e2]
    · rw [e1] at e
      exact absurd (show c.1 ∈ r.map (·.1) from List.mem_map.mpr ⟨q, h2, e.symm⟩) hn'.1
    · rw [e2] at e
      exact absurd (show c.1 ∈ r.map (·.1) from List.mem_map.mpr ⟨p, h1, e⟩) hn'.1
    · exact ih hn'.2 h1 h2
theorem meet_not {cs : List (Key × Int)} (f : Key × Int → Bool) (hn : (cs.map (·.1)).Nodup) : meetR (cs.filter f) (cs.filter fun p => !f p) = false ∧ meetR (cs.filter fun p => !f p) (cs.filter f) = false := by
  have key : ∀ p ∈ cs.filter f, ∀ q ∈ cs.filter fun p => !f p, p.1 ≠ q.1 := fun p hp q hq e => by
    obtain ⟨h1, h2⟩ := List.mem_filter.mp hp
    obtain ⟨h3, h4⟩ := List.mem_filter.mp hq
    rw [key_once hn h1 h3 e] at h2
    rw [h2] at h4
    cases h4
  constructor
  · unfold meetR
    rw [List.any_eq_false]
    intro q hq z
    obtain ⟨p, hp, e⟩ := List.any_eq_true.mp z
    exact key p hp q hq (of_decide_eq_true e)
  · unfold meetR
    rw [List.any_eq_false]
    intro q hq z
    obtain ⟨p, hp, e⟩ := List.any_eq_true.mp z
    exact key q hq p hp (of_decide_eq_true e).symm
/-! rows by ints -/
def rI (r : Key × Int) : Int × Int := (kx r.1, r.2)
theorem rI_cI : ∀ {l : List (Key × Int)}, (∀ r ∈ l, ∃ a, r.1 = .inl a) → (l.map rI).map cI = l
  | [], _ => rfl
  | (k, v) :: r, h => by
    obtain ⟨a, ha⟩ := h _ List.mem_cons_self
    have ha : k = .inl a := ha
    rw [ha, List.map_cons, List.map_cons, rI_cI fun r hr => h r (List.mem_cons_of_mem _ hr)]
    rfl
def swI (q : Int × Int) : Key × Int := (.inl q.2, q.1)
def invI (im : List (Int × Int)) : List (Int × Int) := (srtR (im.map swI)).map rI
theorem inv_cI (im : List (Int × Int)) : (invI im).map cI = srtR (im.map swI) := rI_cI fun r hr => by
  obtain ⟨q, _, rfl⟩ := List.mem_map.mp ((srtR_perm _).mem_iff.mp hr)
  exact ⟨_, rfl⟩
theorem inv_perm (im : List (Int × Int)) : (invI im).Perm (im.map fun q => (q.2, q.1)) := by
  have := (srtR_perm (im.map swI)).map rI
  rw [List.map_map] at this
  exact this
theorem inv_mem {im : List (Int × Int)} {a b : Int} : (a, b) ∈ invI im ↔ (b, a) ∈ im := by
  rw [(inv_perm im).mem_iff, List.mem_map]
  constructor
  · rintro ⟨q, hq, e⟩
    cases e
    exact hq
  · intro h
    exact ⟨_, h, rfl⟩
theorem inv_fst (im : List (Int × Int)) : ((invI im).map (·.1)).Perm (im.map (·.2)) := by
  have := (inv_perm im).map (·.1)
  rw [List.map_map] at this
  exact this
theorem inv_snd (im : List (Int × Int)) : ((invI im).map (·.2)).Perm (im.map (·.1)) := by
  have := (inv_perm im).map (·.2)
  rw [List.map_map] at this
  exact this
theorem ImOk.inv {im : List (Int × Int)} (h : ImOk im) : ImOk (invI im) := by
  refine ⟨fun q hq => ?_, ?_, ?_, ?_⟩
  · have := h.rng _ (inv_mem.mp hq)
    exact ⟨this.2, this.1⟩
  · have hn : ((im.map swI).map (·.1)).Nodup := by
      rw [List.map_map]
      refine List.pairwise_map.mpr ((List.pairwise_map.mp h.inj).imp fun {a b} z e => z ?_)
      have e : (Sum.inl a.2 : Key) = .inl b.2 := e
      exact Sum.inl.inj e
    have ha := srtR_ascK hn
    rw [← inv_cI] at ha
    unfold AscK at ha
    rw [List.pairwise_map] at ha
    refine List.pairwise_map.mpr (ha.imp fun {a b} z => ?_)
    have z : decide (a.1 < b.1) = true := z
    exact of_decide_eq_true z
  · exact (inv_snd im).nodup_iff.mpr (h.asc.imp fun {a b} z => by omega)
  · have := (inv_perm im).length_eq
    rw [List.length_map] at this
    rw [this]
    exact h.len
theorem led_back {im : List (Int × Int)} (h : ImOk im) {x : Int} (hx : Kn im x) : led (invI im) (led im x) = x := by
  rcases hx with rfl | hx
  · rw [led_zero, led_zero]
  · obtain ⟨q, hq, rfl⟩ := List.mem_map.mp hx
    rw [led_mem h hq]
    exact led_mem h.inv (q := (q.2, q.1)) (inv_mem.mpr hq)
theorem led_kn {im : List (Int × Int)} (h : ImOk im) {x : Int} (hx : Kn im x) : Kn (invI im) (led im x) := by
  rcases hx with rfl | hx
  · exact .inl (led_zero im)
  · exact .inr ((inv_fst im).mem_iff.mpr (led_dom h hx).2.2)
/-- a state turned by images and back -/
theorem back_st {im : List (Int × Int)} {ns : List (Key × Int)} {cells : List (Int × Int)} (h : ImOk im) (hs : SG ns) (hh : HG (cells.map cI)) (hk : (∀ q ∈ ns, Kn im q.2) ∧ ∀ q ∈ cells.map cI, Kn im (kx q.1) ∧ Kn im q.2) :
    (ns.map (gN im)).map (gN (invI im)) = ns ∧ srtR ((srtR ((cells.map cI).map (gH im))).map (gH (invI im))) = cells.map cI := by
  constructor
  · rw [List.map_map]
    refine (List.map_congr_left fun q hq => ?_).trans (List.map_id _)
    show (q.1, led (invI im) (led im q.2)) = id q
    rw [led_back h (hk.1 q hq)]
    rfl
  · have e : ((cells.map cI).map (gH im)).map (gH (invI im)) = cells.map cI := by
      rw [List.map_map]
      refine (List.map_congr_left fun q hq => ?_).trans (List.map_id _)
      obtain ⟨a, ha, _⟩ := hh.ad q hq
      show (Sum.inl (led (invI im) (led im (kx q.1))), led (invI im) (led im q.2)) = id q
      rw [led_back h (hk.2 q hq).1, led_back h (hk.2 q hq).2]
      obtain ⟨k, v⟩ := q
      have ha : k = .inl a := ha
      rw [ha]
      rfl
    have p := (srtR_perm ((cells.map cI).map (gH im))).map (gH (invI im))
    rw [e] at p
    rw [srtR_of_perm p]
    exact srtR_self hh.asc.srt
theorem back_cov {im : List (Int × Int)} {ns : List (Key × Int)} {cells cells2 : List (Int × Int)} (h : ImOk im) (hk : (∀ q ∈ ns, Kn im q.2) ∧ ∀ q ∈ cells.map cI, Kn im (kx q.1) ∧ Kn im q.2) (e : cells2.map cI = srtR ((cells.map cI).map (gH im))) :
    covB (invI im) (valsI (intsOf (ns.map (gN im)) cells2)) = true := by
  unfold covB
  rw [List.all_eq_true]
  intro x hx
  obtain ⟨hm, hp⟩ := (vals_mem _ x).mp hx
  refine decide_eq_true ?_
  have key : ∃ y, Kn im y ∧ x = led im y := by
    rcases List.mem_append.mp hm with hm | hm
    · rw [List.map_map] at hm
      obtain ⟨q, hq, rfl⟩ := List.mem_map.mp hm
      exact ⟨_, hk.1 q hq, rfl⟩
    · obtain ⟨c, hc, hm⟩ := List.mem_flatMap.mp hm
      have hc2 : cI c ∈ srtR ((cells.map cI).map (gH im)) := by
        rw [← e]
        exact List.mem_map.mpr ⟨c, hc, rfl⟩
      obtain ⟨q, hq, eq⟩ := List.mem_map.mp ((srtR_perm _).mem_iff.mp hc2)
      have e1 : c.1 = led im (kx q.1) := by
        have z := congrArg Prod.fst eq
        have z : (Sum.inl (led im (kx q.1)) : Key) = .inl c.1 := z
        exact (Sum.inl.inj z).symm
      have e2 : c.2 = led im q.2 := (congrArg Prod.snd eq).symm
      simp only [List.mem_cons, List.not_mem_nil, or_false] at hm
      rcases hm with rfl | rfl
      · exact ⟨_, (hk.2 q hq).1, e1⟩
      · exact ⟨_, (hk.2 q hq).2, e2⟩
  obtain ⟨y, hy, rfl⟩ := key
  rcases led_kn h hy with z | z
  · rw [z] at hp
    exact absurd hp (by decide)
  · exact z
/-- the cells of a State that was turned -/
theorem moved_cells (im cells : List (Int × Int)) : ∃ cells2 : List (Int × Int), cells2.map cI = srtR ((cells.map cI).map (gH im)) ∧ cells2.length = cells.length := by
  refine ⟨(srtR ((cells.map cI).map (gH im))).map rI, rI_cI fun r hr => ?_, ?_⟩
  · obtain ⟨q, _, rfl⟩ := List.mem_map.mp ((srtR_perm _).mem_iff.mp hr)
    exact ⟨_, rfl⟩
  · rw [List.length_map, (srtR_perm _).length_eq, List.length_map, List.length_map]
end Kb
set_option Elab.async false
set_option linter.all false
set_option maxRecDepth 100000
set_option maxHeartbeats 4000000
namespace Kb
open PySem PySem.Spec PyProof.Rows L2 L2.DX LamX Evl
/-! ### readings for the law -/
/-- a State with these rows -/
theorem StG.sm2 {K : PySem.W.Frag} {H H' : Hp} {C a : Addr} {ns cs : List (Key × Int)} (h : StG K H C a ns cs) (e : Sm H H') : StG K H' C a ns cs := ⟨h.m.sm e, h.s, h.h⟩
def SV (K : PySem.W.Frag) (C : Addr) (ns cs : List (Key × Int)) : V → Hp → Prop := fun w H => ∃ b, w = .ref b ∧ StG K H C b ns cs
def rrD (ns cs : List (Key × Int)) : PyData := .tuple [rowsD ns, rowsD cs]
theorem lawD_rr (ns cs : List (Key × Int)) (h1 : ns.length ≤ 1000) (h2 : cs.length ≤ 1000) : lawD 3 (rrD ns cs) = true := by
  have key : ∀ l : List (Key × Int), l.length ≤ 1000 → lawD 2 (rowsD l) = true := fun l hl => by
    show (decide ((l.map rowD).length ≤ 1000) && (l.map rowD).all (lawD 1)) = true
    rw [decide_eq_true (by rw [List.length_map]; exact hl), Bool.true_and, List.all_map, List.all_eq_true]
    intro p _
    obtain ⟨k, i⟩ := p
    cases k <;> rfl
  show (decide (2 ≤ 1000) && (lawD 2 (rowsD ns) && (lawD 2 (rowsD cs) && true))) = true
  rw [key ns h1, key cs h2]
  rfl
section
variable {K : PySem.W.Frag} {σ : L2.St} {H H' : Hp} {te ta tb tl tc : TE} {tr : TA} {tt : TT} {v x y : V} {d : PyData} {ds es : List PyData} {xs ys : List V} {p : Addr × Addr} {D : Ends} {tz tu : TS} {E : XK} {C BR BN TM UN : Addr} {ns cs ms es2 rs : List (Key × Int)} {Φ Ψ : V → Hp → Prop}
theorem SV.mono (w : V) (H1 H2 : Hp) (e : Ex H1 H2) (h : SV K C ns cs w H1) : SV K C ns cs w H2 := let ⟨b, hb, q⟩ := h; ⟨b, hb, q.ext e⟩
theorem SV.px (w : V) (H1 H2 : Hp) (hp : Pen H1 p) (x : Px p H1 H2) (h : SV K C ns cs w H1) : SV K C ns cs w H2 := let ⟨b, hb, q⟩ := h; ⟨b, hb, q.sm2 (Sm.px hp x)⟩
/-- those of a list for which a draw says so -/
theorem erl_lot {j : Nat} {ws : List Nat} {a : Addr} (hH : Pen H p) (hl : ∀ H1, Px p H H1 → Ev tl σ H1 (.ref a)) (hx : SqL K H a xs) (hz : xs.length ≤ 40000) (hw : ∀ x, wipe ((wipe σ ws).set j (some x)) ws = wipe σ ws) (hj : ∀ x : V, ((wipe σ ws).set j (some x))[j]? = some (some x))
    (ht : ∀ x, ErT p tt ((wipe σ ws).set j (some x)) H (fun _ _ => True)) : ErL p (tLc (iSeq K tl) (gName j) tt (tVar j) ws) σ H (fun ys _ => ys.Sublist xs) := fun H0 x0 Q q =>
  .inl (hl H0 x0 H0 (Ex.refl H0) _ fun H1 e1 => ⟨a, rfl, ⟨xs, (x0.ex e1).l hH hx⟩, fun Dl hD =>
    lc_it (walk_list (xs := xs)) (fun i H' => Px p H1 H' ∧ ∃ ys, ys.Sublist (xs.take i) ∧ H' Dl = some (.lst ys)) ⟨Px.of (x0.ex e1).pen (Ex.new hD), [], List.nil_sublist _, upd_same⟩ (fun i H' _ a => ((x0.ex e1).trans a.1).l hH hx) (fun i x H' H'' hi a y => by
      obtain ⟨rfl, hxi⟩ := y
      obtain ⟨xa, ys, hs, hd⟩ := a
      have tk : xs.take (i + 1) = xs.take i ++ [x] := by rw [List.take_succ, hxi]; rfl
      have hly : ys.length ≤ i := by
        have := hs.length_le
        rw [List.length_take] at this
        omega
      refine ⟨hw _, ht x _ ((x0.ex e1).trans xa) _ fun b H3 x3 _ => ?_⟩
      have hd3 : H3 Dl = some (.lst ys) := x3.at_ xa.pen hd (fun _ z => nomatch z)
      cases b with
      | true =>
        rw [if_pos rfl]
        refine ⟨x, hj x, ys, hd3, sz_lt (by omega), Px.put (x0.ex e1).pen (xa.trans x3) hD, ys ++ [x], by rw [tk]; exact hs.append (List.Sublist.refl _), upd_same⟩
      | false => exact ⟨xa.trans x3, ys, by rw [tk]; exact hs.trans (List.sublist_append_left _ _), hd3⟩)
      (fun H' a => by
        obtain ⟨xa, ys, hs, hd⟩ := a
        rw [List.take_length] at hs
        exact q Dl ys H' (fresh_back e1 hD) ((Px.of x0.pen e1).trans xa) hd hs)⟩)
/-- a call whose arguments draw, with a property -/
theorem er_callA {sp : Sp} {Ψ : List V → Hp → Prop} (ha : ErA p tr σ H Ψ) (hs : ∀ vs H1, Px p H H1 → Ψ vs H1 → ∀ Q : VK, (∀ v H2, Px p H1 H2 → Φ v H2 → Q v H2) → sp vs H1 Q E) : ErD p (tCall sp [] E tr) σ H Φ := fun H1 x1 Q q =>
  ha H1 x1 _ fun vs H2 x2 a => by
    rw [List.append_nil]
    exact hs vs H2 (x1.trans x2) a Q fun v H3 x3 => q v H3 (x2.trans x3)
theorem qr_parD {i j : Nat} (hp : Pen H p) (ha : ErD p ta σ H Φ) (hb : ∀ H1, Px p H H1 → EvD tb σ H1 Ψ) (hm : ∀ x H1 H2, Ex H1 H2 → Φ x H1 → Φ x H2)
    (k : ∀ x y H1, Px p H H1 → Φ x H1 → Ψ y H1 → tz D ((σ.set i (some x)).set j (some y)) H1) : tSeq (tPar i j (tCons ta (tCons tb tNil))) tz D σ H :=
  ha H (Px.refl hp) _ fun x H1 x1 hx => hb H1 x1 H1 (Ex.refl H1) _ fun y H2 e2 hy => ⟨_, _, rfl, k x y H2 (x1.ex e2) (hm _ _ _ e2 hx) hy⟩
theorem q_parDL {i j : Nat} (ha : EvD ta σ H Φ) (hb : ∀ H1, Ex H H1 → EvL tb σ H1 ys) (hm : ∀ x H1 H2, Ex H1 H2 → Φ x H1 → Φ x H2)
    (k : ∀ x l H1, Ex H H1 → Φ x H1 → H1 l = some (.lst ys) → tz D ((σ.set i (some x)).set j (some (.ref l))) H1) : tSeq (tPar i j (tCons ta (tCons tb tNil))) tz D σ H :=
  ha H (Ex.refl H) _ fun x H1 e1 hx => hb H1 e1 H1 (Ex.refl H1) _ fun l H2 _ e2 hl => ⟨_, _, rfl, k x l H2 (e1.trans e2) (hm _ _ _ e2 hx) hl⟩
theorem eld_cat (ha : EvLD K ta σ H ds) (hb : EvLD K tb σ H es) (hz : ds.length + es.length ≤ 100000) : EvLD K (tOp (rAdd K) ta tb) σ H (ds ++ es) := fun H1 e Q q =>
  ha H1 e _ fun l xs H2 hl e2 h2 d2 => hb H2 (e.trans e2) _ fun m ys H3 hm e3 h3 d3 => .inr (.inr (.inl ⟨l, m, xs, ys, rfl, rfl, e3 _ _ h2, h3, sz_of (by rw [dpAll_len d2, dpAll_len d3]; exact hz), fun r hr => q r _ _ (fresh_back (e2.trans e3) hr) ((e2.trans e3).trans (Ex.new hr)) upd_same
    (dpAll_app (DpAll.ext (e3.trans (Ex.new hr)) d2) (DpAll.ext (Ex.new hr) d3))⟩))
theorem ev_opE {r : R2} {z : V} (ha : EvD ta σ H Φ) (hb : ∀ H1, Ex H H1 → Ev tb σ H1 y) (hr : ∀ w H1, Ex H H1 → Φ w H1 → ∀ H2, Ex H1 H2 → RV r w y H2 z) : Ev (tOp r ta tb) σ H z := fun H1 e Q q =>
  ha H1 e _ fun w H2 e2 hw => hb H2 (e.trans e2) H2 (Ex.refl H2) _ fun H3 e3 => hr w H2 (e.trans e2) hw H3 e3 H3 (Ex.refl H3) Q fun H4 e4 => q H4 ((e2.trans e3).trans e4)
/-- the law's word for a State -/
theorem evd_plainS (h : EvD te σ H (SV K C ns cs)) : EvD (tCall (spLPlain K C) [] E (tCons te tNil)) σ H (fun w H1 => Dp K H1 w (rrD ns cs)) := fun H1 e Q q =>
  h H1 e _ fun w H2 e2 ⟨b, hb, hst⟩ => by
    subst hb
    exact ⟨b, _, _, rfl, hst.m.at_, fun v H3 e3 hd => q v H3 (e2.trans e3) hd⟩
theorem evd_S {b : Addr} (h : Ev te σ H (.ref b)) (hst : StG K H C b ns cs) : EvD te σ H (SV K C ns cs) := ev_EvD h fun H1 e => ⟨b, rfl, hst.ext e⟩
/-- two States that are alike -/
theorem ev_neS {b : Addr} (T : Kl K mg "State" C SF) (ha : EvD ta σ H (SV K C ns cs)) (hb : ∀ H1, Ex H H1 → Ev tb σ H1 (.ref b)) (hst : StG K H C b ns cs) : Ev (tOp (rNeO K C (spSNe K C)) ta tb) σ H (.bl false) :=
  ev_opE ha hb fun w H1 e1 ⟨c, hc, hq⟩ H2 e2 => by
    subst hc
    have sh := shaped_st hst.s hst.h
    have := rv_neSS T (hq.m.at_.ext e2) (hst.m.at_.ext (e1.trans e2)) sh sh
    rw [SeqAt.eqv_refl _ (SeqAt.canLay_of_shaped sh)] at this
    exact this
/-- over the rows of a tuple, by the law's own lambda -/
theorem eld_pB {te : L2.St → TE} {ws : List Nat} {i1 i2 : Nat} (g : Key × Int → Key × Int) (h : Ev tl σ H v) (hp : Pd K H v (rowsD rs)) (hz : rs.length ≤ 40000) (hw : ∀ x y, wipe (((wipe σ ws).set i1 (some x)).set i2 (some y)) ws = wipe σ ws)
    (he : ∀ r H1, Ex H H1 → r ∈ rs → EvD (te σ) (((wipe σ ws).set i1 (some (kV r.1))).set i2 (some (.int r.2))) H1 (fun w H2 => Dp K H2 w (rowD (g r)))) :
    EvLD K (tLcB (iSeq K tl) (gTup K 2 (gCons (gName i1) (gCons (gName i2) gNil))) te ws) σ H ((rs.map g).map rowD) :=
  fun H1 e Q q => (eld_lcP (te := te σ) (tt := tYes) g h hp hz hw (fun _ _ => et_true fun _ _ _ q => q) he) H1 e Q q
/-- the rows without a key, and one more, sorted -/
theorem eld_due {ws : List Nat} {j : Nat} {k : Key} {i : Int} {b : Bool} (h : Ev tl σ H v) (hp : Pd K H v (rowsD rs)) (hz : rs.length ≤ 1000) (hw : ∀ x, wipe ((wipe σ ws).set j (some x)) ws = wipe σ ws) (hj : ∀ x : V, ((wipe σ ws).set j (some x))[j]? = some (some x))
    (ht : ∀ (q : Addr) (r : Key × Int) H1, Ex H H1 → r ∈ rs → SqT K H1 q [kV r.1, .int r.2] → EvT tt ((wipe σ ws).set j (some (.ref q))) H1 (!decide (r.1 = k))) (h2 : EvD (tTup tr) σ H (fun w H1 => Dp K H1 w (rowD (k, i)))) (h1 : ∀ r ∈ rs, r.1.isLeft = b) (hk : k.isLeft = b) :
    EvD (tCB (rTupP K) (tCons (tCB (rSortB K) (tCons (tOp (rAdd K) (tLc (iSeq K tl) (gName j) tt (tVar j) ws) (tLst (tCons (tTup tr) tNil))) tNil)) tNil)) σ H (fun w H1 => Pd K H1 w (rowsD (srtR (othR rs k ++ [(k, i)])))) := by
  have e1 := eld_flt (f := fun r => !decide (r.1 = k)) h hp (by omega) hw hj ht
  have e2 : EvLD K (tLst (tCons (tTup tr) tNil)) σ H ([(k, i)].map rowD) := eld_lst (eda_d h2 eda_d0) (show 1 ≤ 100000 by decide)
  have e3 := eld_cat e1 e2 (by
    have := List.length_filter_le (fun r : Key × Int => !decide (r.1 = k)) rs
    rw [List.length_map, List.length_map]
    simp only [List.length_cons, List.length_nil]
    omega)
  rw [← List.map_append] at e3
  refine evd_tupLD (eld_sortR (b := b) e3 fun r hr => ?_)
  rcases List.mem_append.mp hr with hr | hr
  · exact h1 r (List.mem_filter.mp hr).1
  · rw [List.mem_singleton.mp hr]
    exact hk
end
/-! ### _law_state, told more -/
def spLStateG (K : PySem.W.Frag) (C : Addr) : Sp := fun vs H Q _ => ∃ t ns cs, vs = [.ref t] ∧ LS K H (.ref t) ns cs ∧ SG ns ∧ HG cs ∧ GivesS K C Q H ns cs
section
variable {P : Program} {w : World} {K : PySem.W.Frag} {mg : Str → Option Value} {base : Heap} {C BR : Addr}
theorem ok_law_stateG (B : Bi mg) (m_State : Mkr P w K mg base (L2.CX P w) 5 "State" C ["self", "store", "heap"] (spSInit K C BR)) (D : Df K mg "_law_state" s__law_state ["state"]) : Gv P w K mg base CX0 7 "_law_state" ["state"] (spLStateG K C) := by
  refine D.gv sc__law_state (fun vs H Q E h => ?_) (fun f cdv A outer s H vs Q E hr h => ⟨_, (pss_one (ps_ret (pe_mk m_State hr rfl passE0 (pa_cons (pe_ix (r := rIx K) ix_seq (pv 0) pe_int (fun _ _ => rfl)) (pa_cons (pe_ix (r := rIx K) ix_seq (pv 0) pe_int (fun _ _ => rfl)) pa_nil))))), ?_⟩)
  · obtain ⟨t, ns, cs, rfl, _⟩ := h
    rfl
  obtain ⟨t, ns, cs, rfl, hL, hs, hh, hQ⟩ := h
  obtain ⟨t', v1, v2, et, ht, h1, h2⟩ := hL
  cases et
  exact isS (evd_mkG hs hh (rad_ev (ev_op (ev_var rfl) ev_c (rv_iT ht (atI_nat (j := 0) rfl))) h1) (rad_ev (ev_op (ev_var rfl) ev_c (rv_iT ht (atI_nat (j := 1) rfl))) h2)) (Ex.refl H) hQ
end
end Kb
set_option Elab.async false
set_option linter.all false
set_option maxRecDepth 100000
set_option maxHeartbeats 8000000
namespace Kb
open PySem PySem.Spec PyProof.Rows L2 L2.DX LamX Evl
/-! ### the law of k02 -/
def spLaw2 (K : PySem.W.Frag) (T : List (Addr × Str)) : SpZ := fun _ _ vs H Q => ∃ (a : Addr) (ns : List Int), vs = [.ref a] ∧ SqL K H a (ns.map V.int) ∧ ns.length ≤ 63 ∧ Tabs T H ∧ ∀ H', Q (.bl true) H'
/-- what the law holds while a lap runs -/
structure LB (K : PySem.W.Frag) (C : Addr) (p : Addr × Addr) (T : List (Addr × Str)) (tn t am l6 : Addr) (zs : List Str) (ns cs : List (Key × Int)) (as : List Int) (H : Hp) : Prop where
  pen : Pen H p
  tab : Tabs T H
  nm : SqT K H tn (zs.map V.str)
  ls : LS K H (.ref t) ns cs
  st : StG K H C am ns cs
  cl : H l6 = some (.lst (as.map V.int))
section
variable {K : PySem.W.Frag} {C : Addr} {p : Addr × Addr} {T : List (Addr × Str)} {tn t am l6 : Addr} {zs : List Str} {ns cs : List (Key × Int)} {as : List Int} {cells : List (Int × Int)} {H H' : Hp}
theorem LB.px (h : LB K C p T tn t am l6 zs ns cs as H) (x : Px p H H') : LB K C p T tn t am l6 zs ns cs as H' :=
  ⟨x.pen, Tabs.px h.pen x h.tab, x.t h.pen h.nm, h.ls.px h.pen x, h.st.sm2 (Sm.px h.pen x), x.at_ h.pen h.cl (fun _ z => nomatch z)⟩
theorem LB.ext (h : LB K C p T tn t am l6 zs ns cs as H) (e : Ex H H') : LB K C p T tn t am l6 zs ns cs as H' := ⟨h.pen.same e, h.tab.ext e, ex_t e h.nm, h.ls.ext e, h.st.ext e, e _ _ h.cl⟩
theorem LB.extN (h : LB K C p T tn t am l6 zs ns cs as H) (e : ExtN H H') (t' : Tabs T H') : LB K C p T tn t am l6 zs ns cs as H' := ⟨h.pen.extN e, t', (Sm.extN e).t h.nm, h.ls.sm (Sm.extN e), h.st.sm2 (Sm.extN e), e _ _ h.cl (fun _ z => nomatch z)⟩
theorem nm6 {z : Str} (h : z ∈ base6 ++ (["w"] : List Str)) : NmOk z := nm_ok (List.all_eq_true.mp (show ((base6 ++ (["w"] : List Str)).all nmB) = true by decide +kernel) z h)
theorem sg_of (h : NsG ns zs) : SG ns := by
  refine ⟨fun q hq => ?_, fun q hq => ?_, ?_, ?_⟩
  · have : q.1 ∈ zs.map Sum.inr := by rw [← h.keys]; exact List.mem_map.mpr ⟨q, hq, rfl⟩
    obtain ⟨z, hz, e⟩ := List.mem_map.mp this
    exact ⟨z, e.symm, nm6 (List.mem_append_left _ (h.mem z hz))⟩
  · have := h.vals q hq
    omega
  · have : (ns.map (·.1)).Pairwise fun a b => ltKy a b = true := by
      rw [h.keys]
      refine List.pairwise_map.mpr (h.asc.imp fun {a b} z => ?_)
      refine decide_eq_true ?_
      apply Decidable.byContradiction
      intro n
      exact z.2 (leS_anti a b z.1 n)
    exact List.pairwise_map.mp this
  · have := congrArg List.length h.keys
    rw [List.length_map, List.length_map] at this
    have := h.len
    omega
theorem hg_of (h : CellsOk cells) : HG (cells.map cI) := by
  refine ⟨fun q hq => ?_, fun q hq => ?_, ?_, ?_⟩
  · obtain ⟨c, hc, rfl⟩ := List.mem_map.mp hq
    have := h.rng c hc
    exact ⟨c.1, rfl, by omega, by omega⟩
  · obtain ⟨c, hc, rfl⟩ := List.mem_map.mp hq
    have := h.vals c hc
    show 0 ≤ c.2 ∧ c.2 ≤ 1000000
    omega
  · refine List.pairwise_map.mpr ((List.pairwise_map.mp h.asc).imp fun {a b} z => ?_)
    exact decide_eq_true z
  · rw [List.length_map]
    have := h.len
    omega
theorem kx_rows : (cells.map cI).map (fun r => kx r.1) = cells.map (·.1) := by
  rw [List.map_map]
  rfl
end
section
variable {K : PySem.W.Frag} {σ : L2.St} {H : Hp} {D : Ends} {t : TT} {tu tz : TS} {X : Cx} {T : List (Addr × Str)} {params : Arguments} {body : Expr} {scope : Scope}
theorem ev_neNilO {C : Addr} {sp : Sp} {ta tb : TE} {p : Addr} {xs : List V} {ds : List PyData} (ha : Ev ta σ H (.ref p)) (hx : SqL K H p xs) (hb : ∀ H1, Ex H H1 → EvL tb σ H1 []) (hd : DpAll K H xs ds) (hs : SeqAt.shaped (.list ds) = true) : Ev (tOp (rNeO K C sp) ta tb) σ H (.bl (!decide (ds = []))) := fun H1 e Q q =>
  ha H1 e _ fun H2 e2 => hb H2 (e.trans e2) H2 (Ex.refl H2) _ fun m H3 hm e3 h3 => .inl (.inr ⟨.list ds, .list [], .lst (ex_l ((e.trans e2).trans e3) hx) (DpAll.ext ((e.trans e2).trans e3) hd), .lst (sq_of h3) .nil, hs, shaped_nil, by rw [eqv_nil]; exact q H3 (e2.trans e3)⟩)
theorem q_ifR {R : L2.St → Hp → Prop} {b : Bool} (hb : EvT t σ H b) (h1 : b = true → ∀ H1, Ex H H1 → ∀ Dk : Ends, (∀ σ' J, R σ' J → Dk.nx σ' J) → tu Dk σ H1) (h2 : b = false → ∀ H1, Ex H H1 → R σ H1) (rest : ∀ σ' J, R σ' J → tz D σ' J) : tSeq (tIfS t tu tNext) tz D σ H :=
  q_when hb (fun z H1 e1 => h1 z H1 e1 _ rest) (fun z H1 e1 => rest σ H1 (h2 z H1 e1))
theorem q_lamT {i : Nat} (hT : Tabs T H) (k : ∀ f c' H1, ExtN H H1 → Tabs T H1 → H1 f = some (LamO f (lamF X params body scope c')) → H1 c' = some (CodeO c' (X.env.qual ++ "<lambda>")) → tz D (σ.set i (some (.ref f))) H1) : tSeq (tAsg (tLamT X T params body scope) (gName i)) tz D σ H :=
  ⟨hT, fun f c' H1 e _ t _ h1 h2 => k f c' H1 e t h1 h2⟩
theorem ev_cont {te tb : TE} {v : V} {cs : List (Key × Int)} {g cv : Int} {E : XK} (h : Ev te σ H v) (hp : Dp K H v (rowsD cs)) (hz : cs.length ≤ 1000) (hk : ∀ p ∈ cs, ∃ j, p.1 = .inl j) (hg : Ev tb σ H (.int g)) (hl : lookI cs (.inl g) = some cv) : Ev (tCall (spLCont K) [] E (tCons te (tCons tb tNil))) σ H (.int cv) := fun H1 e Q q =>
  h H1 e _ fun H2 e2 => hg H2 (e.trans e2) _ fun H3 e3 => ⟨v, g, cs, rfl, Dp.ext ((e.trans e2).trans e3) hp, hz, hk, fun H4 e4 => by
    rw [hl]
    exact q H4 ((e2.trans e3).trans e4)⟩
theorem eld_ofE {te : TE} {xs : List V} {ds : List PyData} (h : EvL te σ H xs) (hd : ∀ H1, Ex H H1 → DpAll K H1 xs ds) : EvLD K te σ H ds := fun H1 e Q q => h H1 e _ fun l H2 hl e2 h2 => q l xs H2 hl e2 h2 (hd H2 (e.trans e2))
theorem inv_ev {te : TE} {im : List (Int × Int)} (h : EvD te σ H (fun w H1 => Pd K H1 w (.tuple ((srtR ((im.map cI).map fun r => ((.inl r.2 : Key), kx r.1))).map rowD)))) : EvD te σ H (fun w H1 => Pd K H1 w (rowsD ((invI im).map cI))) := by
  have e : (im.map cI).map (fun r => ((.inl r.2 : Key), kx r.1)) = im.map swI := by
    rw [List.map_map]
    rfl
  rw [e] at h
  rw [inv_cI]
  exact h
theorem RowArg.px {rs : List (Key × Int)} {v : V} {p : Addr × Addr} {H' : Hp} (h : RowArg K rs v H) (hp : Pen H p) (x : Px p H H') : RowArg K rs v H' := let ⟨d, a, b, c⟩ := h; ⟨d, x.dp hp a, b, fun z => x.pd hp (c z)⟩
end
section
variable {ns : List (Key × Int)} {zs : List Str} {cells : List (Int × Int)}
theorem sg_zz (h : NsG ns zs) : SG (ns ++ [zzR]) := by
  have s := sg_of h
  refine ⟨fun q hq => ?_, fun q hq => ?_, ?_, ?_⟩
  · rcases List.mem_append.mp hq with hq | hq
    · exact s.nm q hq
    · rw [List.mem_singleton.mp hq]
      exact ⟨"zz", rfl, nm_ok (by decide +kernel)⟩
  · rcases List.mem_append.mp hq with hq | hq
    · exact s.vl q hq
    · rw [List.mem_singleton.mp hq]
      exact ⟨by decide, by decide⟩
  · refine List.pairwise_append.mpr ⟨s.asc, List.pairwise_singleton _ _, fun a ha b hb => ?_⟩
    rw [List.mem_singleton.mp hb]
    have : a.1 ∈ zs.map Sum.inr := by rw [← h.keys]; exact List.mem_map.mpr ⟨a, ha, rfl⟩
    obtain ⟨z, hz, e⟩ := List.mem_map.mp this
    rw [← e]
    exact List.all_eq_true.mp (show (base6.all fun z => ltKy (.inr z) (.inr "zz")) = true by decide +kernel) z (h.mem z hz)
  · rw [List.length_append]
    have := congrArg List.length h.keys
    rw [List.length_map, List.length_map] at this
    have := h.len
    show ns.length + 1 ≤ 60
    omega
theorem int_le (h : NsG ns zs) (c : CellsOk cells) : ∀ x ∈ intsOf ns cells, x ≤ 1000000 := fun x hx => by
  rcases List.mem_append.mp hx with hx | hx
  · obtain ⟨q, hq, rfl⟩ := List.mem_map.mp hx
    have := h.vals q hq
    omega
  · obtain ⟨y, hy, hx⟩ := List.mem_flatMap.mp hx
    have h1 := c.rng y hy
    have h2 := c.vals y hy
    simp only [List.mem_cons, List.not_mem_nil, or_false] at hx
    rcases hx with rfl | rfl <;> omega
end
section
variable {P : Program} {w : World} {K : PySem.W.Frag} {mg : Str → Option Value} {base : Heap} {C BR BN TM UN : Addr} {cc tl : Addr}
theorem ok_law2 (B : Bi mg) (T0 : Kl K mg "State" C SF) (g__law_pen : Gv P w K mg base CX0 1 "_law_pen" ["script"] (spPen K)) (g__law_pick : Gv P w K mg base CX0 2 "_law_pick" ["pen", "some"] (spPick K)) (g__law_draw : Gv P w K mg base CX0 1 "_law_draw" ["pen", "many"] spDraw)
    (g__law_drawn_names : Gv P w K mg base CX0 3 "_law_drawn_names" ["pen", "most"] (spNames K)) (g__law_drawn_state : Gv P w K mg base CX0 3 "_law_drawn_state" ["pen", "names", "cells"] (spDState K)) (g__law_is : Gv P w K mg base CX0 4 "_law_is" ["told", "due"] (spIs K 3))
    (g__law_plain_state : Gv P w K mg base CX0 1 "_law_plain_state" ["told"] (spLPlain K C)) (g__law_state : Gv P w K mg base CX0 7 "_law_state" ["state"] (spLStateG K C)) (g__law_content : Gv P w K mg base CX0 1 "_law_content" ["heap", "address"] (spLCont K)) (g__law_images : Gv P w K mg base CX0 3 "_law_images" ["pen", "state"] (spLImages K))
    (o_eq : Oe P w K mg base 1 C "__eq__" (spSEq K C)) (o_ne : Oe P w K mg base 2 C "__ne__" (spSNe K C)) (g_with_value : Gv P w K mg base (L2.CX P w) 8 "with_value" ["state", "name", "value"] (spWithValue K C BR BN TM)) (g_with_cell : Gv P w K mg base (L2.CX P w) 7 "with_cell" ["state", "address", "value"] (spWithCell K C BR BN TM))
    (g_without_cell : Gv P w K mg base (L2.CX P w) 7 "without_cell" ["state", "address"] (spWithoutCell K C BR BN UN)) (g_heap_part : Gv P w K mg base (L2.CX P w) 8 "heap_part" ["state", "addresses"] (spHeapPart K C BR)) (g_joined_states : Gv P w K mg base (L2.CX P w) 7 "joined_states" ["one", "other"] (spJoin K C BR TM UN))
    (g_moved_state : Gv P w K mg base (L2.CX P w) 8 "moved_state" ["state", "images"] (spMovedState K C BR)) (TB : TabB base mg cc tl) {T : List (Addr × Str)} (hmT : (tl, (("law" : Str) ++ ".<locals>.") ++ "<lambda>") ∈ T) (huT : ∀ q ∈ T, q.1 = tl → q.2 = (("law" : Str) ++ ".<locals>.") ++ "<lambda>")
    (g__law_refusals_right : Gz P w K mg base 12 "_law_refusals_right" ["pen", "made", "state"] (spRefB K C T)) (D : DfT K mg "law" s_law ["script"] cc) : Gz P w K mg base 13 "law" ["script"] (spLaw2 K T) := by
  have nd := sc_law.nd
  refine D.gz sc_law (fun s fr vs H Q h => ?_) (fun f0 A outer s H vs Q hr hgd h => ?_)
  · obtain ⟨a, ns, rfl, _⟩ := h
    rfl
  have hu64 := hu64_of hr
  refine ⟨_, (pss_cons (ps_set (i := 1) nd rfl (.inr rfl) (pe_cg g__law_pen hr rfl pass0 (pa_cons (pv 0) pa_nil)))
    (pss_cons (ps_for PassesOwn.never rfl (pi_range1 rfl B.range (pa_cons pe_int pa_nil)) (pg_name (i := 2) nd rfl (.inl rfl)) (pss_cons (ps_set (i := 3) nd rfl (.inl rfl) (pe_cg g__law_drawn_names hr rfl pass0 (pa_cons (pv 1) (pa_cons pe_int pa_nil))))
    (pss_cons (ps_set (i := 4) nd rfl (.inl rfl) (pe_cg g__law_drawn_state hr rfl pass0 (pa_cons (pv 1) (pa_cons (pv 3) (pa_cons pe_int pa_nil)))))
    (pss_cons (ps_par (i := 5) (j := 6) rfl nd rfl rfl (by decide) rfl rfl (pa_cons (pe_cg g__law_state hr rfl pass0 (pa_cons (pv 4) pa_nil)) (pa_cons (pe_lc (own := [("address", 9), ("value", 8)]) rfl nd (piA_seq (pe_ix (r := rIx K) ix_seq (pv 4) pe_int (fun _ _ => rfl))) (blk_ok (by kernel_rfl)) (fun _ _ _ _ _ => (pgK_tup (K := K) (n := 2) rfl rfl (pgs_cons (pg_name (i := 9) nd rfl (.inl rfl)) (pgs_cons (pg_name (i := 8) nd rfl (.inl rfl)) pgs_nil)))) (fun _ _ _ _ _ => pts_nil) (fun _ _ _ _ _ => (pv 9))) pa_nil)) rfl)
    (pss_cons (ps_asg (pe_tup (pa_cons (pe_cg g__law_pick hr rfl pass0 (pa_cons (pv 1) (pa_cons (pe_op (r := rAdd K) opA_add (pe_callTy (r := rListA K) (callA_list rfl) rfl B.list (by decide +kernel) (pa_cons (pv 3) pa_nil)) (pe_lst (pa_cons pe_str pa_nil))) pa_nil))) (pa_cons (pe_cg g__law_draw hr rfl pass0 (pa_cons (pv 1) (pa_cons pe_int pa_nil))) (pa_cons (pe_op (r := rAdd K) opA_add pe_int (pe_cg g__law_draw hr rfl pass0 (pa_cons (pv 1) (pa_cons pe_int pa_nil)))) pa_nil)))) (pgK_tup (K := K) (n := 3) rfl rfl (pgs_cons (pg_name (i := 7) nd rfl (.inr rfl)) (pgs_cons (pg_name (i := 8) nd rfl (.inl rfl)) (pgs_cons (pg_name (i := 9) nd rfl (.inr rfl)) pgs_nil)))))
    (pss_cons (ps_set (i := 10) nd rfl (.inl rfl) (pe_tup (pa_cons (pe_callTy (r := rTupP K) call_tupleP rfl B.tuple (by decide +kernel) (pa_cons (pe_callB (r := rSortB K) (callB_sorted rfl) rfl B.sorted (by decide +kernel) (pa_cons (pe_op (r := rAdd K) opA_add (pe_lc (own := [("row", 20)]) rfl nd (piA_seq (pe_ix (r := rIx K) ix_seq (pv 4) pe_int (fun _ _ => rfl))) (blk_ok (by kernel_rfl)) (fun _ _ _ _ _ => (pg_name (i := 20) nd rfl (.inl rfl))) (fun _ _ _ _ _ => (pts_one (pt_cmpR (r := rNeO K C (spSNe K C)) (opO_ne o_ne hr hu64) (pe_ix (r := rIx K) ix_seq (pv 20) pe_int (fun _ _ => rfl)) (pv 7) (nomark _)))) (fun _ _ _ _ _ => (pv 20))) (pe_lst (pa_cons (pe_tup (pa_cons (pv 7) (pa_cons (pv 8) pa_nil))) pa_nil))) pa_nil)) pa_nil)) (pa_cons (pe_ix (r := rIx K) ix_seq (pv 4) pe_int (fun _ _ => rfl)) pa_nil))))
    (pss_cons (ps_if (pt_not (pt_val (pe_cg g__law_is hr rfl pass0 (pa_cons (pe_cg g__law_plain_state hr rfl pass0 (pa_cons (pe_cg g_with_value hr rfl passE0 (pa_cons (pv 5) (pa_cons (pv 7) (pa_cons (pv 8) pa_nil)))) pa_nil)) (pa_cons (pv 10) pa_nil))))) (pss_one (ps_ret pe_bl)) pss_nil)
    (pss_cons (ps_set (i := 10) nd rfl (.inl rfl) (pe_tup (pa_cons (pe_ix (r := rIx K) ix_seq (pv 4) pe_int (fun _ _ => rfl)) (pa_cons (pe_callTy (r := rTupP K) call_tupleP rfl B.tuple (by decide +kernel) (pa_cons (pe_callB (r := rSortB K) (callB_sorted rfl) rfl B.sorted (by decide +kernel) (pa_cons (pe_op (r := rAdd K) opA_add (pe_lc (own := [("row", 20)]) rfl nd (piA_seq (pe_ix (r := rIx K) ix_seq (pv 4) pe_int (fun _ _ => rfl))) (blk_ok (by kernel_rfl)) (fun _ _ _ _ _ => (pg_name (i := 20) nd rfl (.inl rfl))) (fun _ _ _ _ _ => (pts_one (pt_cmpR (r := rNeO K C (spSNe K C)) (opO_ne o_ne hr hu64) (pe_ix (r := rIx K) ix_seq (pv 20) pe_int (fun _ _ => rfl)) (pv 9) (nomark _)))) (fun _ _ _ _ _ => (pv 20))) (pe_lst (pa_cons (pe_tup (pa_cons (pv 9) (pa_cons (pv 8) pa_nil))) pa_nil))) pa_nil)) pa_nil)) pa_nil))))
    (pss_cons (ps_if (pt_not (pt_val (pe_cg g__law_is hr rfl pass0 (pa_cons (pe_cg g__law_plain_state hr rfl pass0 (pa_cons (pe_cg g_with_cell hr rfl passE0 (pa_cons (pv 5) (pa_cons (pv 9) (pa_cons (pv 8) pa_nil)))) pa_nil)) (pa_cons (pv 10) pa_nil))))) (pss_one (ps_ret pe_bl)) pss_nil)
    (pss_cons (ps_if (pt_cmpR (r := rNeO K C (spSNe K C)) (opO_ne o_ne hr hu64) (pv 6) (pe_lst pa_nil) (nomark _)) (pss_cons (ps_set (i := 11) nd rfl (.inr rfl) (pe_cg g__law_pick hr rfl pass0 (pa_cons (pv 1) (pa_cons (pv 6) pa_nil))))
    (pss_cons (ps_set (i := 12) nd rfl (.inl rfl) (pe_cg g_without_cell hr rfl passE0 (pa_cons (pv 5) (pa_cons (pv 11) pa_nil))))
    (pss_one (ps_if (PW.pt (pw_or (pt_not (pt_val (pe_cg g__law_is hr rfl pass0 (pa_cons (pe_cg g__law_plain_state hr rfl pass0 (pa_cons (pv 12) pa_nil)) (pa_cons (pe_tup (pa_cons (pe_ix (r := rIx K) ix_seq (pv 4) pe_int (fun _ _ => rfl)) (pa_cons (pe_callTy (r := rTupP K) call_tupleP rfl B.tuple (by decide +kernel) (pa_cons (pe_lc (own := [("row", 20)]) rfl nd (piA_seq (pe_ix (r := rIx K) ix_seq (pv 4) pe_int (fun _ _ => rfl))) (blk_ok (by kernel_rfl)) (fun _ _ _ _ _ => (pg_name (i := 20) nd rfl (.inl rfl))) (fun _ _ _ _ _ => (pts_one (pt_cmpR (r := rNeO K C (spSNe K C)) (opO_ne o_ne hr hu64) (pe_ix (r := rIx K) ix_seq (pv 20) pe_int (fun _ _ => rfl)) (pv 11) (nomark _)))) (fun _ _ _ _ _ => (pv 20))) pa_nil)) pa_nil))) pa_nil))))) (pw_or1 (pt_cmpR (r := rNeO K C (spSNe K C)) (opO_ne o_ne hr hu64) (pe_cg g_with_cell hr rfl passE0 (pa_cons (pv 12) (pa_cons (pv 11) (pa_cons (pe_cg g__law_content hr rfl pass0 (pa_cons (pe_ix (r := rIx K) ix_seq (pv 4) pe_int (fun _ _ => rfl)) (pa_cons (pv 11) pa_nil))) pa_nil)))) (pv 5) (nomark _))))) (pss_one (ps_ret pe_bl)) pss_nil)))) pss_nil)
    (pss_cons (ps_set (i := 13) nd rfl (.inr rfl) (pe_lc (own := [("own", 21)]) rfl nd (piA_seq (pv 6)) (blk_ok (by kernel_rfl)) (fun _ _ _ _ _ => (pg_name (i := 21) nd rfl (.inl rfl))) (fun _ _ _ _ _ => (by exact (pts_one (pt_cmpR (r := rEqO K C (spSEq K C)) (opO_eq o_eq hr hu64) (pe_cg g__law_draw hr rfl pass0 (pa_cons (pv 1) (pa_cons pe_int pa_nil))) pe_int (nomark _))))) (fun _ _ _ _ _ => (pv 21))))
    (pss_cons (ps_par (i := 14) (j := 15) rfl nd rfl rfl (by decide) rfl rfl (pa_cons (pe_cg g_heap_part hr rfl passE0 (pa_cons (pv 5) (pa_cons (pe_cg g__law_pick hr rfl pass0 (pa_cons (pv 1) (pa_cons (pe_lst (pa_cons (pv 13) (pa_cons (pe_callTy (r := rTupP K) call_tupleP rfl B.tuple (by decide +kernel) (pa_cons (pv 13) pa_nil)) pa_nil))) pa_nil))) pa_nil))) (pa_cons (pe_cg g_heap_part hr rfl passE0 (pa_cons (pv 5) (pa_cons (pe_lc (own := [("own", 21)]) rfl nd (piA_seq (pv 6)) (blk_ok (by kernel_rfl)) (fun _ _ _ _ _ => (pg_name (i := 21) nd rfl (.inl rfl))) (fun _ _ _ _ _ => (pts_one (pt_cmpR (r := rNotInA K) (opA_notIn hu64) (pv 21) (pv 13) rfl))) (fun _ _ _ _ _ => (pv 21))) pa_nil))) pa_nil)) rfl)
    (pss_cons (ps_if (pt_not (pt_val (pe_cg g__law_is hr rfl pass0 (pa_cons (pe_cg g__law_plain_state hr rfl pass0 (pa_cons (pv 14) pa_nil)) (pa_cons (pe_tup (pa_cons (pe_ix (r := rIx K) ix_seq (pv 4) pe_int (fun _ _ => rfl)) (pa_cons (pe_callTy (r := rTupP K) call_tupleP rfl B.tuple (by decide +kernel) (pa_cons (pe_lc (own := [("row", 20)]) rfl nd (piA_seq (pe_ix (r := rIx K) ix_seq (pv 4) pe_int (fun _ _ => rfl))) (blk_ok (by kernel_rfl)) (fun _ _ _ _ _ => (pg_name (i := 20) nd rfl (.inl rfl))) (fun _ _ _ _ _ => (pts_one (pt_cmpR (r := rInA K) (opA_in hu64) (pe_ix (r := rIx K) ix_seq (pv 20) pe_int (fun _ _ => rfl)) (pv 13) rfl))) (fun _ _ _ _ _ => (pv 20))) pa_nil)) pa_nil))) pa_nil))))) (pss_one (ps_ret pe_bl)) pss_nil)
    (pss_cons (ps_if (PW.pt (pw_or (pt_cmpR (r := rNeO K C (spSNe K C)) (opO_ne o_ne hr hu64) (pe_cg g_joined_states hr rfl passE0 (pa_cons (pv 14) (pa_cons (pv 15) pa_nil))) (pv 5) (nomark _)) (pw_or1 (pt_cmpR (r := rNeO K C (spSNe K C)) (opO_ne o_ne hr hu64) (pe_cg g_joined_states hr rfl passE0 (pa_cons (pv 15) (pa_cons (pv 14) pa_nil))) (pv 5) (nomark _))))) (pss_one (ps_ret pe_bl)) pss_nil)
    (pss_cons (ps_set (i := 16) nd rfl (.inl rfl) (pe_cg g__law_images hr rfl pass0 (pa_cons (pv 1) (pa_cons (pv 4) pa_nil))))
    (pss_cons (ps_set (i := 17) nd rfl (.inr rfl) (pe_op (r := rAdd K) opA_add (pe_lst (pa_cons (pe_tup (pa_cons pe_int (pa_cons pe_int pa_nil))) pa_nil)) (pe_callTy (r := rListA K) (callA_list rfl) rfl B.list (by decide +kernel) (pa_cons (pv 16) pa_nil))))
    (pss_cons (ps_set (i := 18) nd rfl (.inr rfl) (pe_lamTN (T := T) (params := ledL.1) (body := ledL.2.1) (scope := ledL.2.2) TB rfl hmT huT rfl ledL_f))
    (pss_cons (ps_set (i := 10) nd rfl (.inl rfl) (pe_tup (pa_cons (pe_callTy (r := rTupP K) call_tupleP rfl B.tuple (by decide +kernel) (pa_cons (pe_lcB (own := [("own", 21), ("number", 22)]) rfl nd (piA_seq (pe_ix (r := rIx K) ix_seq (pv 4) pe_int (fun _ _ => rfl))) (blk_ok (by kernel_rfl)) (fun _ _ _ _ _ => (pgK_tup (K := K) (n := 2) rfl rfl (pgs_cons (pg_name (i := 21) nd rfl (.inl rfl)) (pgs_cons (pg_name (i := 22) nd rfl (.inl rfl)) pgs_nil)))) (fun s1 H1 C1 cl1 fp1 pn1 σ1 I1 f1 => (pe_tup (pa_cons (pv 21) (pa_cons (pe_lamW (q := ("law" ++ ".<locals>.") ++ "<lambda>") (params := ledL.1) (body := ledL.2.1) (scope := ledL.2.2) (ws := fun _ => [17].map (NdefX.slotAt σ1)) (i := 18) (tb := tLed K) (fun _ _ _ _ J => blk_cells I1 (fun _ => rfl) rfl rfl ledL_f rfl f1 J) ledL_s (fun _ _ _ _ _ => ledL_b) (k := 11) hr (by decide) (fun f L c1 A outer s H h => ledL_e (K := K) h) rfl (by first | exact Or.inr (Or.inl rfl) | exact Or.inr (Or.inr rfl)) (pa_cons (pv 22) pa_nil)) pa_nil))))) pa_nil)) (pa_cons (pe_callTy (r := rTupP K) call_tupleP rfl B.tuple (by decide +kernel) (pa_cons (pe_callB (r := rSortB K) (callB_sorted rfl) rfl B.sorted (by decide +kernel) (pa_cons (pe_lcB (own := [("one", 23), ("other", 24)]) rfl nd (piA_seq (pe_ix (r := rIx K) ix_seq (pv 4) pe_int (fun _ _ => rfl))) (blk_ok (by kernel_rfl)) (fun _ _ _ _ _ => (pgK_tup (K := K) (n := 2) rfl rfl (pgs_cons (pg_name (i := 23) nd rfl (.inl rfl)) (pgs_cons (pg_name (i := 24) nd rfl (.inl rfl)) pgs_nil)))) (fun s1 H1 C1 cl1 fp1 pn1 σ1 I1 f1 => (pe_tup (pa_cons (pe_lamW (q := ("law" ++ ".<locals>.") ++ "<lambda>") (params := ledL.1) (body := ledL.2.1) (scope := ledL.2.2) (ws := fun _ => [17].map (NdefX.slotAt σ1)) (i := 18) (tb := tLed K) (fun _ _ _ _ J => blk_cells I1 (fun _ => rfl) rfl rfl ledL_f rfl f1 J) ledL_s (fun _ _ _ _ _ => ledL_b) (k := 11) hr (by decide) (fun f L c1 A outer s H h => ledL_e (K := K) h) rfl (by first | exact Or.inr (Or.inl rfl) | exact Or.inr (Or.inr rfl)) (pa_cons (pv 23) pa_nil)) (pa_cons (pe_lamW (q := ("law" ++ ".<locals>.") ++ "<lambda>") (params := ledL.1) (body := ledL.2.1) (scope := ledL.2.2) (ws := fun _ => [17].map (NdefX.slotAt σ1)) (i := 18) (tb := tLed K) (fun _ _ _ _ J => blk_cells I1 (fun _ => rfl) rfl rfl ledL_f rfl f1 J) ledL_s (fun _ _ _ _ _ => ledL_b) (k := 11) hr (by decide) (fun f L c1 A outer s H h => ledL_e (K := K) h) rfl (by first | exact Or.inr (Or.inl rfl) | exact Or.inr (Or.inr rfl)) (pa_cons (pv 24) pa_nil)) pa_nil))))) pa_nil)) pa_nil)) pa_nil))))
    (pss_cons (ps_set (i := 19) nd rfl (.inl rfl) (pe_cg g_moved_state hr rfl passE0 (pa_cons (pv 5) (pa_cons (pe_cg g__law_pick hr rfl pass0 (pa_cons (pv 1) (pa_cons (pe_lst (pa_cons (pv 16) (pa_cons (pe_callTy (r := rListA K) (callA_list rfl) rfl B.list (by decide +kernel) (pa_cons (pv 16) pa_nil)) pa_nil))) pa_nil))) pa_nil))))
    (pss_cons (ps_if (PW.pt (pw_or (pt_not (pt_val (pe_cg g__law_is hr rfl pass0 (pa_cons (pe_cg g__law_plain_state hr rfl pass0 (pa_cons (pv 19) pa_nil)) (pa_cons (pv 10) pa_nil))))) (pw_or1 (pt_cmpR (r := rNeO K C (spSNe K C)) (opO_ne o_ne hr hu64) (pe_cg g_moved_state hr rfl passE0 (pa_cons (pv 19) (pa_cons (pe_callTy (r := rTupP K) call_tupleP rfl B.tuple (by decide +kernel) (pa_cons (pe_callB (r := rSortB K) (callB_sorted rfl) rfl B.sorted (by decide +kernel) (pa_cons (pe_lc (own := [("one", 23), ("other", 24)]) rfl nd (piA_seq (pv 16)) (blk_ok (by kernel_rfl)) (fun _ _ _ _ _ => (pgK_tup (K := K) (n := 2) rfl rfl (pgs_cons (pg_name (i := 23) nd rfl (.inl rfl)) (pgs_cons (pg_name (i := 24) nd rfl (.inl rfl)) pgs_nil)))) (fun _ _ _ _ _ => pts_nil) (fun _ _ _ _ _ => (pe_tup (pa_cons (pv 24) (pa_cons (pv 23) pa_nil))))) pa_nil)) pa_nil)) pa_nil))) (pv 5) (nomark _))))) (pss_one (ps_ret pe_bl)) pss_nil)
    (pss_one (ps_if (pt_not (pt_val (pe_cz g__law_refusals_right hr hgd rfl (pa_cons (pv 1) (pa_cons (pv 5) (pa_cons (pv 4) pa_nil)))))) (pss_one (ps_ret pe_bl)) pss_nil))))))))))))))))))))))
    (pss_one (ps_ret pe_bl)))), ?_⟩
  obtain ⟨a, is, rfl, hS, h63, hT, hQ⟩ := h
  refine qd_asg (Φ := fun v H1 => ∃ p : Addr × Addr, v = .ref p.1 ∧ Pen H1 p) (evd_call (ea_cons (ev_var rfl) ea_nil) (fun H1 e1 Q q E => ⟨a, is, rfl, ex_l e1 hS, h63, fun p H2 _ _ s2 hp => q _ _ s2 ⟨p, rfl, hp⟩⟩)) (fun v H1 e1 ⟨p, hv, hp⟩ => ?_)
  subst hv
  refine q_forR1 (n := 5) (ea_cons ev_c ea_nil) (by decide) (fun i σ' H' => (∃ o2 o3 o4 o5 o6 o7 o8 o9 o10 o11 o12 o13 o14 o15 o16 o17 o18 o19 o20 o21 o22 o23 o24, σ' = [some (.ref a), some (.ref p.1), o2, o3, o4, o5, o6, o7, o8, o9, o10, o11, o12, o13, o14, o15, o16, o17, o18, o19, o20, o21, o22, o23, o24]) ∧ Pen H' p ∧ Tabs T H')
    (fun H2 e2 => ⟨⟨_, _, _, _, _, _, _, _, _, _, _, _, _, _, _, _, _, _, _, _, _, _, _, rfl⟩, hp.same e2, hT.ext (e1.trans e2)⟩) (fun i σ' H2 hi ⟨⟨o2, o3, o4, o5, o6, o7, o8, o9, o10, o11, o12, o13, o14, o15, o16, o17, o18, o19, o20, o21, o22, o23, o24, e⟩, hp2, hT2⟩ => ?_) (fun σ' H2 ⟨⟨o2, o3, o4, o5, o6, o7, o8, o9, o10, o11, o12, o13, o14, o15, o16, o17, o18, o19, o20, o21, o22, o23, o24, e⟩, hp2, hT2⟩ => ?_)
  · subst e
    refine qr_asg hp2 (Φ := fun v H3 => ∃ zs t, NG zs ∧ v = .ref t ∧ SqP H3 t (zs.map V.str)) (er_call (er_eva fun H3 x3 => ea_cons (ev_var rfl) (ea_cons ev_c ea_nil)) (fun H3 x3 Q q => ⟨p, rfl, x3.pen, fun zs t H4 hg x4 ht => q _ _ x4 ⟨zs, t, hg, rfl, ht⟩⟩)) (fun v H3 x3 ⟨zs, tn, hg, hv, htn⟩ => ?_)
    subst hv
    have hp3 := x3.pen
    refine qr_asg hp3 (Φ := fun v H4 => ∃ ns cells, GS zs ns cells ∧ LS K H4 v ns (cells.map cI)) (er_call (er_eva fun H4 x4 => ea_cons (ev_var rfl) (ea_cons (ev_var rfl) (ea_cons ev_c ea_nil))) (fun H4 x4 Q q => ⟨p, tn, zs, rfl, x4.pen, x4.t hp3 htn.t, hg.len, fun v ns cells H5 gs x5 hls => q _ _ x5 ⟨ns, cells, gs, hls⟩⟩)) (fun v H4 x4 ⟨ns, cells, gs, hls⟩ => ?_)
    have hp4 := x4.pen
    have hT4 : Tabs T H4 := Tabs.px hp3 x4 (Tabs.px hp2 x3 hT2)
    have htn4 : SqP H4 tn (zs.map V.str) := x4.sqp hp3 htn
    have nsg : NsG ns zs := ⟨gs.keys, hg.mem, hg.asc, hg.len, fun q hq => by have := gs.nvals q hq; omega⟩
    have cok : CellsOk cells := gs.toCellsOk
    have hsg := sg_of nsg
    have hhg := hg_of cok
    have hnl : ns.length ≤ 4 := by
      have := congrArg List.length nsg.keys
      rw [List.length_map, List.length_map] at this
      have := nsg.len
      omega
    have hcl5 := cok.len
    obtain ⟨cs, hcs⟩ : ∃ cs, cs = cells.map cI := ⟨_, rfl⟩
    obtain ⟨as, has⟩ : ∃ as : List Int, as = cells.map (·.1) := ⟨_, rfl⟩
    have hkas : ∀ r ∈ cs, ∃ x, r.1 = .inl x ∧ x ∈ as := fun r hr => by
      rw [hcs] at hr
      obtain ⟨c, hc, rfl⟩ := List.mem_map.mp hr
      exact ⟨c.1, rfl, by rw [has]; exact List.mem_map.mpr ⟨c, hc, rfl⟩⟩
    have hasc : ∀ x ∈ as, ∃ v, lookI cs (.inl x) = some v ∧ 0 ≤ v ∧ v ≤ 15 := fun x hx => by
      rw [has] at hx
      obtain ⟨c, hc, rfl⟩ := List.mem_map.mp hx
      cases q : lookI cs (.inl c.1) with
      | none =>
        unfold lookI at q
        rw [Option.map_eq_none_iff, List.find?_eq_none] at q
        exact absurd (decide_eq_true rfl) (q (cI c) (by rw [hcs]; exact List.mem_map.mpr ⟨c, hc, rfl⟩))
      | some v =>
        refine ⟨v, rfl, ?_⟩
        unfold lookI at q
        obtain ⟨r, hr, rfl⟩ := Option.map_eq_some_iff.mp q
        have hm := List.mem_of_find?_eq_some hr
        rw [hcs] at hm
        obtain ⟨c', hc', rfl⟩ := List.mem_map.mp hm
        exact cok.vals c' hc'
    have hasp : as.Pairwise (· < ·) := by rw [has]; exact cok.asc
    have hasl : as.length ≤ 5 := by rw [has, List.length_map]; exact hcl5
    have hasr : ∀ x ∈ as, 1 ≤ x ∧ x ≤ 12 := fun x hx => by
      rw [has] at hx
      obtain ⟨c, hc, rfl⟩ := List.mem_map.mp hx
      exact cok.rng c hc
    have hcsl : cs.length ≤ 5 := by rw [hcs, List.length_map]; exact hcl5
    have hinc : ∀ x ∈ as, inC cs (.int x) = true := fun x hx => by
      rw [has] at hx
      obtain ⟨c, hc, rfl⟩ := List.mem_map.mp hx
      exact List.any_eq_true.mpr ⟨cI c, by rw [hcs]; exact List.mem_map.mpr ⟨c, hc, rfl⟩, decide_eq_true rfl⟩
    obtain ⟨t, v1, v2, rfl, ht, hd1, hd2⟩ := id hls
    obtain ⟨q2, xs2, ds2, rfl, e2d, hq2, ha2⟩ := id hd2
    have e2d : PyData.tuple ((cells.map cI).map rowD) = .tuple ds2 := e2d
    injection e2d with e2d
    subst e2d
    -- made, cells
    refine q_parDL (Φ := SV K C ns (cells.map cI)) (evd_call (ea_cons (ev_var rfl) ea_nil) (fun H1 e1 Q q E => ⟨t, ns, cells.map cI, rfl, hls.ext e1, hsg, hhg, fun b H' e' hst => q _ _ e' ⟨b, rfl, hst⟩⟩))
      (fun H5 e5 => el_is (el_prt1 (ev_op (ev_var rfl) ev_c (rv_iT (ex_t e5 ht) (atI_nat (j := 1) rfl))) (ex_t e5 hq2.t) (rows_prt (DpAll.ext e5 ha2)) (by rw [dpAll_len ha2, List.length_map, List.length_map]; omega) (fun _ _ => rfl) (fun _ _ => et_true fun _ _ _ q => q) (fun u H1 => ev_var rfl)) (show _ = as.map V.int by rw [has, List.map_map, List.map_map, List.map_map]; rfl)) SV.mono (fun v l6 H5 e5 ⟨am, hv, hst5⟩ hl6 => ?_)
    subst hv
    have L5 : LB K C p T tn t am l6 zs ns cs as H5 := ⟨hp4.same e5, hT4.ext e5, ex_t e5 htn4.t, hcs ▸ hls.ext e5, hcs ▸ hst5, hl6⟩
    clear hls ht hd1 hd2 hq2 ha2 hst5 hl6 htn htn4 e5 x4 x3 e1 hT hT2 hT4 hp2 hp3 hp4 hp
    -- name, value, address
    refine qr_asgU3 L5.pen (R := fun x y z _ => (∃ z0, x = .str z0 ∧ z0 ∈ zs ++ (["w"] : List Str)) ∧ (∃ i : Int, y = .int i ∧ 0 ≤ i ∧ i < 12) ∧ ∃ i : Int, z = .int i ∧ 1 ≤ i ∧ i ≤ 12)
      ((era_cons (Φ := fun v _ => ∃ z0, v = .str z0 ∧ z0 ∈ zs ++ (["w"] : List Str)) ((er_pickL (Ψ := fun xs _ => xs = (zs ++ (["w"] : List Str)).map V.str) (fun H x => ev_var rfl) (er_evl fun H x => el_is (el_cat (el_listT (K := K) (ev_var rfl) (x.t L5.pen L5.nm)) (el_lst (ea_cons ev_c ea_nil) (show 1 ≤ 100000 by decide)) (by rw [List.length_map]; show zs.length + 1 ≤ 100000; have := hg.len; omega)) (by rw [List.map_append]; rfl)) (fun _ _ _ _ _ h => h) (fun xs H h => by rw [h, List.length_map, List.length_append]; show 0 < zs.length + 1 ∧ zs.length + 1 < 1073741824; have := hg.len; omega)).imp (fun v H6 x6 ⟨xs, e, hm⟩ => by
          rw [e] at hm
          obtain ⟨z0, hz0, rfl⟩ := List.mem_map.mp hm
          exact ⟨z0, rfl, hz0⟩))
        (era_cons (er_draw (m := 12) (er_eva fun H x => ea_cons (ev_var rfl) (ea_cons ev_c ea_nil)) (by decide) (by decide)) (era1 (er_op1 (f := fun z => ∃ i : Int, z = .int i ∧ 1 ≤ i ∧ i ≤ 12) (fun H x => ev_c) (er_draw (m := 12) (er_eva fun H x => ea_cons (ev_var rfl) (ea_cons ev_c ea_nil)) (by decide) (by decide)) (fun y H1 x1 ⟨r, hr, h0, h1⟩ => by
          subst hr
          exact ⟨.int (1 + r), rv_add, _, rfl, by omega, by omega⟩))) (fun _ _ _ _ _ h => h)) (fun _ _ _ _ _ h => h)).imp (fun vs H2 x2 ⟨b, r, e, hb, y, r2, e2, ⟨ry, hy, hy0, hy1⟩, z, e3, hz⟩ => ⟨b, y, z, by rw [e, e2, e3], hb, ⟨ry, hy, hy0, hy1⟩, hz⟩))
      (fun _ _ _ _ _ _ h => h) (fun x y z H6 x6 ⟨⟨z0, hx, hz0⟩, ⟨iv, hy, hv0, hv1⟩, ⟨ad, hz, ha0, ha1⟩⟩ => ?_)
    subst hx hy hz
    have L6 := L5.px x6
    clear L5 x6
    have hnm0 : NmOk z0 := nm6 (by
      rcases List.mem_append.mp hz0 with h | h
      · exact List.mem_append_left _ (hg.mem z0 h)
      · exact List.mem_append_right _ h)
    -- with_value
    have hn1 := hsg.asc.nodup
    have hn2 := hhg.asc.nodup
    obtain ⟨dN, hdN⟩ : ∃ dN, dN = srtR (othR ns (.inr z0) ++ [((.inr z0 : Key), iv)]) := ⟨_, rfl⟩
    obtain ⟨dC, hdC⟩ : ∃ dC, dC = srtR (othR cs (.inl ad) ++ [((.inl ad : Key), iv)]) := ⟨_, rfl⟩
    have hpN : srtR (putR ns (.inr z0) iv) = dN := by rw [hdN]; exact put_due _ _ hn1
    have hpC : srtR (putR cs (.inl ad) iv) = dC := by rw [hdC]; exact put_due _ _ (hcs ▸ hn2)
    have ldN : dN.length ≤ 1000 := by
      rw [← hpN, (srtR_perm _).length_eq]
      have := put_len (cs := ns) (.inr z0) iv
      omega
    have lpC : (putR cs (.inl ad) iv).length ≤ 40 := by
      have := put_len (cs := cs) (.inl ad) iv
      omega
    have ldC : dC.length ≤ 1000 := by
      rw [← hpC, (srtR_perm _).length_eq]
      omega
    have test : ∀ {σ : L2.St} {G : Hp} {q : Addr} {r : Key × Int} {k : Key} {m j : Nat}, σ[m]? = some (some (.ref q)) → σ[j]? = some (some (kV k)) → SqT K G q [kV r.1, .int r.2] → EvT (tTest (tOp (rNeO K C (spSNe K C)) (tOp (rIx K) (tVar m) (tC (.int 0))) (tVar j))) σ G (!decide (r.1 = k)) := fun hm hj hq =>
      et_test (ev_is (ev_op (ev_op (ev_var hm) ev_c (rv_iT hq (atI_nat (j := 0) rfl))) (ev_var hj) (rv_l (rv_nes (key_scal _ _)))) (congrArg (fun b => V.bl (!b)) (key_dec _ _)))
    obtain ⟨t', v1, v2, et, ht, hd1, hd2⟩ := id L6.ls
    cases et
    refine qd_asg (Φ := fun w G => Dp K G w (rrD dN cs)) (evd_tupD (eda_d (EvD.imp (eld_due (b := false) (k := .inr z0) (i := iv) (ev_op (ev_var rfl) ev_c (rv_iT ht (atI_nat (j := 0) rfl))) hd1 (by omega) (fun _ => rfl) (fun _ => rfl) (fun q r G e hr hq => test rfl rfl hq) (evd_tupD (eda_d (evd_s (ev_var rfl)) (eda_d (evd_i (ev_var rfl)) eda_d0)) (show 2 ≤ 100000 by decide)) hsg.one rfl) (fun w G _ h => by rw [hdN]; exact h.dp))
      (eda_d (evd_c (ev_op (ev_var rfl) ev_c (rv_iT ht (atI_nat (j := 1) rfl))) (fun G e => (hd2.ext e).dp)) eda_d0)) (show 2 ≤ 100000 by decide)) (fun vd H7 e7 hdue => ?_)
    have L7 := L6.ext e7
    refine q_when (b := !true) (et_not (et_B (ev_lawIs (d := rrD dN cs) (evd_plainS (C := C) (ns := dN) (cs := cs) (evd_call (ea_cons (ev_var rfl) (ea_cons (ev_var rfl) (ea_cons (ev_var rfl) ea_nil))) (fun G e Q q E => ⟨_, _, _, rfl, .inr ⟨am, ns, cs, .str z0, rfl, L7.st.ext e, .str _, hnm0.len, .inr ⟨z0, .int iv, rfl, hnm0, .int _, .inr ⟨iv, rfl, value_ok (by omega), .inr ⟨.inr (by omega), fun b G' e' hst => q _ _ e' ⟨b, rfl, hpN ▸ hst⟩⟩⟩⟩⟩⟩)))
      (evd_c (ev_var rfl) (fun G e => Dp.ext e hdue)) (lawD_rr _ _ ldN (by omega))))) (fun z => nomatch z) (fun _ H8 e8 => ?_)
    have L8 := L7.ext e8
    -- with_cell
    obtain ⟨t', v1', v2', et, ht8, hd18, hd28⟩ := id L8.ls
    cases et
    refine qd_asg (Φ := fun w G => Dp K G w (rrD ns dC)) (evd_tupD (eda_d (evd_c (ev_op (ev_var rfl) ev_c (rv_iT ht8 (atI_nat (j := 0) rfl))) (fun G e => (hd18.ext e).dp)) (eda_d (EvD.imp (eld_due (b := true) (rs := cs) (k := .inl ad) (i := iv) (ev_op (ev_var rfl) ev_c (rv_iT ht8 (atI_nat (j := 1) rfl))) hd28 (by omega) (fun _ => rfl) (fun _ => rfl) (fun q r G e hr hq => test rfl rfl hq) (evd_tupD (eda_d (evd_i (ev_var rfl)) (eda_d (evd_i (ev_var rfl)) eda_d0)) (show 2 ≤ 100000 by decide)) (hcs ▸ hhg.one) rfl) (fun w G _ h => by rw [hdC]; exact h.dp))
      eda_d0)) (show 2 ≤ 100000 by decide)) (fun vd2 H9 e9 hdue2 => ?_)
    have L9 := L8.ext e9
    refine q_when (b := !true) (et_not (et_B (ev_lawIs (d := rrD ns dC) (evd_plainS (C := C) (ns := ns) (cs := dC) (evd_call (ea_cons (ev_var rfl) (ea_cons (ev_var rfl) (ea_cons (ev_var rfl) ea_nil))) (fun G e Q q E => ⟨_, _, _, rfl, .inr ⟨am, ns, cs, .int ad, rfl, L9.st.ext e, .int _, .inr ⟨ad, .int iv, rfl, addr_ok (by omega), .int _, .inr ⟨iv, rfl, value_ok (by omega), .inr ⟨lpC, fun b G' e' hst => q _ _ e' ⟨b, rfl, hpC ▸ hst⟩⟩⟩⟩⟩⟩)))
      (evd_c (ev_var rfl) (fun G e => Dp.ext e hdue2)) (lawD_rr _ _ (by omega) ldC)))) (fun z => nomatch z) (fun _ H10 e10 => ?_)
    have L10 := L9.ext e10
    clear L6 L7 L8 L9 ht hd1 hd2 ht8 hd18 hd28 hdue hdue2 e7 e8 e9 e10
    -- without_cell
    have hca : AscK cs := hcs ▸ hhg.asc
    have hkj : ∀ r ∈ cs, ∃ j, r.1 = .inl j := fun r hr => let ⟨x, ex, _⟩ := hkas r hr; ⟨x, ex⟩
    refine q_ifR (b := !decide (as = [])) (R := fun σ' J => LB K C p T tn t am l6 zs ns cs as J ∧ ∃ o11' o12', σ' = [some (.ref a), some (.ref p.1), some (.int (i : Int)), some (.ref tn), some (.ref t), some (.ref am), some (.ref l6), some (.str z0), some (.int iv), some (.int ad), some vd2, o11', o12', o13, o14, o15, o16, o17, o18, o19, o20, o21, o22, o23, o24]) (et_test (ev_is (ev_neNilO (ds := as.map PyData.int) (ev_var rfl) (sq_of L10.cl) (fun H2 e2 => el_lst ea_nil (Nat.zero_le _)) dpAll_ints (shaped_ints as)) (congrArg (fun b => V.bl (!b)) (decide_eq_decide.mpr List.map_eq_nil_iff)))) (fun bz H11 e11 Dk hk => ?_) (fun bz H11 e11 => ⟨L10.ext e11, _, _, rfl⟩) (fun σ' H12 ⟨L12, o11', o12', e⟩ => ?_)
    · have L11 := L10.ext e11
      have asne : as ≠ [] := fun z => by
        rw [z] at bz
        cases bz
      refine qr_asg L11.pen (Φ := fun v _ => v ∈ as.map V.int) (er_pick L11.pen (er_eva fun H x => ea_cons (ev_var rfl) (ea_cons (ev_var rfl) ea_nil)) (sq_of L11.cl) (by rw [List.length_map]; exact List.length_pos_iff.mpr asne) (by rw [List.length_map]; omega)) (fun v H12 x12 hv => ?_)
      obtain ⟨g, hg1, rfl⟩ := List.mem_map.mp hv
      have L12 := L11.px x12
      have hgr := hasr g hg1
      obtain ⟨cv, hcv, hcv0, hcv1⟩ := hasc g hg1
      have lo : (othR cs (.inl g)).length ≤ cs.length := (oth_sub cs (.inl g)).length_le
      refine qd_asg (Φ := SV K C ns (othR cs (.inl g))) (evd_call (ea_cons (ev_var rfl) (ea_cons (ev_var rfl) ea_nil)) (fun G e Q q E => ⟨_, _, rfl, .inr ⟨am, ns, cs, .int g, rfl, L12.st.ext e, .int _, .inr ⟨g, rfl, addr_ok (by omega), .inr ⟨hinc g hg1, fun b G' e' hst => q _ _ e' ⟨b, rfl, hst⟩⟩⟩⟩⟩)) (fun w H13 e13 ⟨lb, hw, hless⟩ => ?_)
      subst hw
      have L13 := L12.ext e13
      obtain ⟨t', v1, v2, et, ht, hd1, hd2⟩ := id L13.ls
      cases et
      refine s_when (b := !true || false) (et_or (et_not (et_B (ev_lawIs (d := rrD ns (othR cs (.inl g))) (evd_plainS (evd_S (ev_var rfl) hless)) (evd_tupD (eda_d (evd_c (ev_op (ev_var rfl) ev_c (rv_iT ht (atI_nat (j := 0) rfl))) (fun G e => (hd1.ext e).dp)) (eda_d (EvD.imp (evd_tupLD (eld_flt (f := fun r => !decide (r.1 = .inl g)) (ev_op (ev_var rfl) ev_c (rv_iT ht (atI_nat (j := 1) rfl))) hd2 (by omega) (fun _ => rfl) (fun _ => rfl) (fun q r G e hr hq => test (k := .inl g) rfl rfl hq))) (fun w G _ h => h.dp)) eda_d0)) (show 2 ≤ 100000 by decide)) (lawD_rr _ _ (by omega) (by omega)))))
        (fun _ => et_test (ev_neS T0 (evd_call (ea_cons (ev_var rfl) (ea_cons (ev_var rfl) (ea_cons (ev_cont (ev_op (ev_var rfl) ev_c (rv_iT ht (atI_nat (j := 1) rfl))) hd2.dp (by omega) hkj (ev_var rfl) hcv) ea_nil))) (fun G e Q q E => ⟨_, _, _, rfl, .inr ⟨lb, ns, othR cs (.inl g), .int g, rfl, hless.ext e, .int _, .inr ⟨g, .int cv, rfl, addr_ok (by omega), .int _, .inr ⟨cv, rfl, value_ok (by omega), .inr ⟨Nat.le_trans (put_len (.inl g) cv) (by omega), fun b G' e' hst => q _ _ e' ⟨b, rfl, put_back hca hcv ▸ hst⟩⟩⟩⟩⟩⟩)) (fun _ _ => ev_var rfl) L13.st))) (fun z => nomatch z) (fun _ H14 e14 => hk _ _ ⟨L13.ext e14, _, _, rfl⟩)
    · subst e
      -- parts
      refine qr_asgL L12.pen (erl_lot L12.pen (fun H x => ev_var rfl) (sq_of L12.cl) (by rw [List.length_map]; omega) (fun _ => rfl) (fun _ => rfl) (fun x => ert_test ((er_op2 (f := fun v => ∃ b, v = .bl b) (er_draw (m := 2) (er_eva fun H4 x4 => ea_cons (ev_var rfl) (ea_cons ev_c ea_nil)) (by decide) (by decide)) (fun H4 x4 => ev_c) (fun y H4 x4 ⟨r, hr, _, _⟩ => by
        subst hr
        exact ⟨.bl (decide (V.int r = V.int 0)), fun _ => rv_l (rv_eqs rfl), _, rfl⟩))))) (fun l13 ys H13 hn13 x13 hl13 hsub => ?_)
      obtain ⟨lots, hlots, rfl⟩ := List.sublist_map_iff.mp hsub
      have L13 := L12.px x13
      have hll := hlots.length_le
      obtain ⟨rests, hrests⟩ : ∃ rests : List Int, rests = as.filter fun n => !decide (n ∈ lots) := ⟨_, rfl⟩
      have hrl : rests.length ≤ as.length := by rw [hrests]; exact List.length_filter_le _ _
      have hrq : (cs.filter fun r => rests.any fun x => decide (r.1 = .inl x)) = cs.filter (fun r : Key × Int => !lots.any fun x => decide (r.1 = .inl x)) := List.filter_congr fun r hr => by
        obtain ⟨x, ex, hx⟩ := hkas r hr
        rw [ex, any_int, any_int, hrests]
        by_cases hl : x ∈ lots
        · rw [decide_eq_true hl, decide_eq_false]
          · rfl
          · intro z
            have := (List.mem_filter.mp z).2
            rw [decide_eq_true hl] at this
            cases this
        · rw [decide_eq_false hl, decide_eq_true]
          · rfl
          · exact List.mem_filter.mpr ⟨hx, by rw [decide_eq_false hl]; rfl⟩
      have lF := List.length_filter_le (fun r : Key × Int => lots.any fun x => decide (r.1 = .inl x)) cs
      have lG := List.length_filter_le (fun r : Key × Int => !lots.any fun x => decide (r.1 = .inl x)) cs
      refine qr_parD L13.pen (Φ := SV K C ns (cs.filter (fun r : Key × Int => lots.any fun x => decide (r.1 = .inl x)))) (Ψ := SV K C ns (cs.filter (fun r : Key × Int => !lots.any fun x => decide (r.1 = .inl x)))) (er_callA (era_cons (er_ev fun H x => ev_var rfl) (era1 (er_pickLD (K := K) (ds := [.list (lots.map PyData.int), .tuple (lots.map PyData.int)]) (fun H x => ev_var rfl) (fun H x => eld_lst (eda_d (evd_c (ev_var rfl) (fun G e => .lst (ex_l e (x.l L13.pen (sq_of hl13))) dpAll_ints)) (eda_d (EvD.imp (evd_tupP (ev_var rfl) (x.l L13.pen (sq_of hl13)) dpAll_ints) (fun w G _ h => h.dp)) eda_d0)) (show 2 ≤ 100000 by decide)) ⟨show 0 < 2 by decide, show 2 < 1073741824 by decide⟩)) (fun _ _ _ _ _ h => h)) (fun vs H1 x1 ⟨v, r, e1, e2, w, e3, du, hdu, hw⟩ Q q => ?_))
        (fun H1 x1 => evd_callA (evda_cons (Φ := fun w _ => w = .ref am) (ev_EvD (ev_var rfl) fun _ _ => rfl) (fun H2 e2 => evda_cons (Φ := fun w G => Dp K G w (.list (rests.map PyData.int))) (hrests ▸ evd_ofL (el_sieveH (fun n => !decide (n ∈ lots)) (ev_var rfl) (sq_of (e2 _ _ (L13.px x1).cl)) (by omega) (fun _ => rfl) (fun n H3 e3 => et_test (ev_is (ev_op (ev_var rfl) (ev_var rfl) (rv_l (rv_niL (ex_l (e2.trans e3) (x1.l L13.pen (sq_of hl13))) rfl (flat_ints _)))) (by rw [inV_int]))) (fun n H3 => ev_var rfl)) (fun _ _ => dpAll_ints)) (fun H3 e3 => evda_ev ea_nil) (fun _ _ _ e h => Dp.ext e h)) (fun _ _ _ _ h => h)) (fun vs H2 e2 ⟨v, r, e3, e4, w, r2, e5, hw, e6⟩ Q q E => ?_))
        SV.mono (fun vp vr H14 x14 ⟨b1, hb1, st1⟩ ⟨b2, hb2, st2⟩ => ?_)
      · subst e1 e2 e3
        have has0 : asTup du = .tuple (lots.map PyData.int) := by
          simp only [List.mem_cons, List.not_mem_nil, or_false] at hdu
          rcases hdu with rfl | rfl <;> rfl
        exact ⟨_, _, rfl, .inr ⟨am, ns, cs, du, rfl, (L13.px x1).st, hw, .inr ⟨lots, has0, by omega, fun x hx => ⟨addr_ok (by have := hasr x (hlots.subset hx); omega), hinc x (hlots.subset hx)⟩, List.Pairwise.sublist hlots hasp, fun b G' e' hst => q _ _ (Px.of x1.pen e') ⟨b, rfl, hst⟩⟩⟩⟩
      · subst e3 e4 e5 e6
        refine ⟨_, _, rfl, .inr ⟨am, ns, cs, _, rfl, ((L13.px x1).st.ext e2), hw, .inr ⟨rests, rfl, by omega, fun x hx => ?_, ?_, fun b G' e' hst => q _ _ e' ⟨b, rfl, by rw [hrq] at hst; exact hst⟩⟩⟩⟩
        · rw [hrests] at hx
          have hx := (List.mem_filter.mp hx).1
          exact ⟨addr_ok (by have := hasr x hx; omega), hinc x hx⟩
        · rw [hrests]
          exact hasp.filter _
      subst hb1 hb2
      have L14 := L13.px x14
      have hl14 := x14.at_ L13.pen hl13 (fun _ z => nomatch z)
      obtain ⟨t', v1, v2, et, ht, hd1, hd2⟩ := id L14.ls
      cases et
      refine q_when (b := !true) (et_not (et_B (ev_lawIs (d := rrD ns (cs.filter (fun r : Key × Int => lots.any fun x => decide (r.1 = .inl x)))) (evd_plainS (evd_S (ev_var rfl) st1)) (evd_tupD (eda_d (evd_c (ev_op (ev_var rfl) ev_c (rv_iT ht (atI_nat (j := 0) rfl))) (fun G e => (hd1.ext e).dp)) (eda_d (EvD.imp (evd_tupLD (eld_flt (f := (fun r : Key × Int => lots.any fun x => decide (r.1 = .inl x))) (ev_op (ev_var rfl) ev_c (rv_iT ht (atI_nat (j := 1) rfl))) hd2 (by omega) (fun _ => rfl) (fun _ => rfl) (fun q r G e hr hq => ?_))) (fun w G _ h => h.dp)) eda_d0)) (show 2 ≤ 100000 by decide)) (lawD_rr _ _ (by omega) (by omega))))) (fun z => nomatch z) (fun _ H15 e15 => ?_)
      · obtain ⟨x, ex, hx⟩ := hkas r hr
        show EvT _ _ _ (lots.any fun y => decide (r.1 = .inl y))
        rw [ex] at hq ⊢
        exact et_test (ev_is (ev_op (ev_op (ev_var rfl) ev_c (rv_iT hq (atI_nat (j := 0) rfl))) (ev_var rfl) (rv_l (rv_isL (sq_of (e _ _ hl14)) rfl (flat_ints _)))) (by show V.bl (inV (.int x) (lots.map V.int)) = _; rw [inV_int, any_int]))
      have L15 := L14.ext e15
      have st1 := st1.ext e15
      have st2 := st2.ext e15
      have hmeet := meet_not (fun r : Key × Int => lots.any fun x => decide (r.1 = .inl x)) hca.nodup
      have hback := join_back (fun r : Key × Int => lots.any fun x => decide (r.1 = .inl x)) hca
      refine q_when (b := false || false) (et_or (et_test (ev_neS T0 (evd_call (ea_cons (ev_var rfl) (ea_cons (ev_var rfl) ea_nil)) (fun G e Q q E => ⟨_, _, rfl, .inr ⟨b1, ns, cs.filter (fun r : Key × Int => lots.any fun x => decide (r.1 = .inl x)), rfl, st1.ext e, .inr ⟨b2, ns, cs.filter (fun r : Key × Int => !lots.any fun x => decide (r.1 = .inl x)), rfl, st2.ext e, .inr ⟨eqv_rows_self hsg.lay, .inr ⟨hmeet.1, .inr ⟨by omega, fun b G' e' hst => q _ _ e' ⟨b, rfl, by rw [hback.1] at hst; exact hst⟩⟩⟩⟩⟩⟩⟩)) (fun _ _ => ev_var rfl) L15.st))
        (fun _ => et_test (ev_neS T0 (evd_call (ea_cons (ev_var rfl) (ea_cons (ev_var rfl) ea_nil)) (fun G e Q q E => ⟨_, _, rfl, .inr ⟨b2, ns, cs.filter (fun r : Key × Int => !lots.any fun x => decide (r.1 = .inl x)), rfl, st2.ext e, .inr ⟨b1, ns, cs.filter (fun r : Key × Int => lots.any fun x => decide (r.1 = .inl x)), rfl, st1.ext e, .inr ⟨eqv_rows_self hsg.lay, .inr ⟨hmeet.2, .inr ⟨by omega, fun b G' e' hst => q _ _ e' ⟨b, rfl, by rw [hback.2] at hst; exact hst⟩⟩⟩⟩⟩⟩⟩)) (fun _ _ => ev_var rfl) L15.st))) (fun z => nomatch z) (fun _ H16 e16 => ?_)
      have L16 := L15.ext e16
      clear L12 L13 L14 L15 ht hd1 hd2 st1 st2 hl13 hl14 x13 x14 e15 e16 hmeet hback hrq
      subst hcs
      -- images
      refine qr_asg L16.pen (Φ := fun v G => ∃ im, ImOk im ∧ covB im (valsI (intsOf ns cells)) = true ∧ im.length ≤ 31 ∧ Pd K G v (rowsD (im.map cI))) (er_call (er_eva fun H x => ea_cons (ev_var rfl) (ea_cons (ev_var rfl) ea_nil)) (fun H1 x1 Q q => ⟨p, .ref t, ns, cells, rfl, x1.pen, (L16.px x1).ls, by omega, int_le nsg cok, fun im u G h1 h2 h3 _ x2 hp => q _ _ x2 ⟨im, h1, h2, h3, hp⟩⟩)) (fun vi H17 x17 ⟨im, hIm, hcov, him, hpi⟩ => ?_)
      have L17 := L16.px x17
      obtain ⟨ti, xsi, dsi, rfl, edi, hti, hai⟩ := id hpi
      have edi : PyData.tuple ((im.map cI).map rowD) = .tuple dsi := edi
      injection edi with edi
      subst edi
      obtain ⟨hkn, hkc⟩ := kn_st hsg hhg hcov
      -- table
      refine qd_asgLD (K := K) (ds := (tabI im).map rowD) (eld_cat (ds := [rowD (.inl 0, 0)]) (es := (im.map cI).map rowD) (eld_lst (eda_d (evd_tupD (ds := [.int 0, .int 0]) (eda_d (evd_i ev_c) (eda_d (evd_i ev_c) eda_d0)) (show 2 ≤ 100000 by decide)) eda_d0) (show 1 ≤ 100000 by decide)) (eld_ofE (el_listT (ev_var rfl) hti.t) (fun H1 e => DpAll.ext e hai)) (by rw [List.length_map, List.length_map]; show 1 + im.length ≤ 100000; omega)) (fun lt xst H18 hln e18 hlt hdt => ?_)
      have L18 := L17.ext e18
      have hpi18 := hpi.ext e18
      clear L16 L17 hpi hti hai x17 e18 hln
      -- led
      refine q_lamT L18.tab (fun fl cl H19 eN19 t19 hfl hcl => ?_)
      have L19 := L18.extN eN19 t19
      have hlt19 : SqL K H19 lt xst := sq_of (eN19 _ _ hlt (fun _ z => nomatch z))
      have hdt19 : DpAll K H19 xst ((tabI im).map rowD) := (Sm.extN eN19).dps hdt (noL_rows (tabI im))
      have hpi19 := (Sm.extN eN19).pd hpi18 (noL_rows _)
      clear L18 hpi18 hlt hdt t19 eN19
      obtain ⟨t', v1, v2, et, ht, hd1, hd2⟩ := id L19.ls
      cases et
      refine qd_asg (Φ := fun w G => Dp K G w (rrD (ns.map (gN im)) (srtR ((cells.map cI).map (gH im))))) (evd_tupD (eda_d (EvD.imp (evd_tupLD (eld_pB (gN im) (ev_op (ev_var rfl) ev_c (rv_iT ht (atI_nat (j := 0) rfl))) hd1 (by omega) (fun _ _ => rfl) (fun r G e hr => ?_))) (fun w G _ h => h.dp)) (eda_d (EvD.imp (evd_tupLD (eld_sortR (b := true) (eld_pB (gH im) (ev_op (ev_var rfl) ev_c (rv_iT ht (atI_nat (j := 1) rfl))) hd2 (by omega) (fun _ _ => rfl) (fun r G e hr => ?_)) (fun r hr => ?_))) (fun w G _ h => h.dp)) eda_d0)) (show 2 ≤ 100000 by decide)) (fun vdu H20 e20 hdue => ?_)
      · obtain ⟨z, ez, _⟩ := hsg.nm r hr
        obtain ⟨k, i⟩ := r
        have ez : k = .inr z := ez
        subst ez
        exact evd_tupD (ds := [.str z, .int (led im i)]) (eda_d (evd_s (ev_var rfl)) (eda_d (evd_i (ev_ledW (ev_var rfl) rfl (e _ _ hfl) (e _ _ hcl) rfl (ex_l e hlt19) (DpAll.ext e hdt19) (by omega) (hkn _ hr))) eda_d0)) (show 2 ≤ 100000 by decide)
      · have hk2 := hkc r hr
        obtain ⟨c, hc, rfl⟩ := List.mem_map.mp hr
        exact evd_tupD (ds := [.int (led im c.1), .int (led im c.2)]) (eda_d (evd_i (ev_ledW (ev_var rfl) rfl (e _ _ hfl) (e _ _ hcl) rfl (ex_l e hlt19) (DpAll.ext e hdt19) (by omega) hk2.1)) (eda_d (evd_i (ev_ledW (ev_var rfl) rfl (e _ _ hfl) (e _ _ hcl) rfl (ex_l e hlt19) (DpAll.ext e hdt19) (by omega) hk2.2)) eda_d0)) (show 2 ≤ 100000 by decide)
      · obtain ⟨q, _, rfl⟩ := List.mem_map.mp hr
        rfl
      have L20 := L19.ext e20
      have hpi20 := hpi19.ext e20
      clear L19 ht hd1 hd2 hlt19 hdt19 hpi19 hfl hcl e20
      obtain ⟨ti', xsi, dsi, et, edi, hti, hai⟩ := id hpi20
      cases et
      have edi : PyData.tuple ((im.map cI).map rowD) = .tuple dsi := edi
      injection edi with edi
      subst edi
      -- told
      refine qr_asg L20.pen (Φ := SV K C (ns.map (gN im)) (srtR ((cells.map cI).map (gH im)))) (er_callA (era_cons (er_ev fun H x => ev_var rfl) (era1 (Φ := RowArg K (im.map cI)) ((er_pickL (fun H x => ev_var rfl) (erl_lst (era_cons (Φ := RowArg K (im.map cI)) (er_evd fun H x => rad_ev (ev_var rfl) (x.pd L20.pen hpi20)) (era1 (Φ := RowArg K (im.map cI)) (er_evd fun H x => rad_l (eld_ofE (el_listT (ev_var rfl) (x.t L20.pen hti.t)) (fun G e => DpAll.ext e (x.dps L20.pen hai))))) (fun _ _ _ xA xB h => h.px xA.pen xB)) (fun vs G ⟨v, r, e1, _, w, e2, _⟩ => by rw [e1, e2]; exact (show 2 ≤ 100000 by decide)) (fun vs A B xA xB ⟨v, r, e1, h1, w, e2, h2⟩ => ⟨v, r, e1, h1.px xA.pen xB, w, e2, h2.px xA.pen xB⟩)) (fun vs A B xA xB ⟨v, r, e1, h1, w, e2, h2⟩ => ⟨v, r, e1, h1.px xA.pen xB, w, e2, h2.px xA.pen xB⟩) (fun vs G ⟨v, r, e1, _, w, e2, _⟩ => by rw [e1, e2]; exact ⟨show 0 < 2 by decide, show 2 < 1073741824 by decide⟩)).imp (fun v G xG ⟨xs, ⟨y, r, e1, h1, w, e2, h2⟩, hm⟩ => by
          subst e1 e2
          simp only [List.mem_cons, List.not_mem_nil, or_false] at hm
          rcases hm with rfl | rfl
          · exact h1
          · exact h2))) (fun _ _ _ _ _ h => h)) (fun vs H1 x1 ⟨v, r, e1, e2, w, e3, d, z1, z2, z3⟩ Q q => by
          subst e1 e2 e3
          exact ⟨_, _, rfl, .inr ⟨am, ns, cells, d, rfl, (L20.px x1).st, by omega, z1, .inr ⟨im, z2, z3, hIm, hcov, fun b G' e' hst => q _ _ (Px.of x1.pen e') ⟨b, rfl, hst⟩⟩⟩⟩)) (fun vt H21 x21 ⟨bt, hbt, htold⟩ => ?_)
      subst hbt
      have L21 := L20.px x21
      have hdue21 := x21.dp L20.pen hdue
      have hpi21 := x21.pd L20.pen hpi20
      obtain ⟨cells2, hc2, hl2⟩ := moved_cells im cells
      have hbk := back_st hIm hsg hhg ⟨hkn, hkc⟩
      have hbc := back_cov hIm ⟨hkn, hkc⟩ hc2
      refine q_when (b := !true || false) (et_or (et_not (et_B (ev_lawIs (d := rrD (ns.map (gN im)) (srtR ((cells.map cI).map (gH im)))) (evd_plainS (evd_S (ev_var rfl) htold)) (evd_c (ev_var rfl) (fun G e => Dp.ext e hdue21)) (lawD_rr _ _ (by rw [List.length_map]; omega) (by rw [(srtR_perm _).length_eq, List.length_map]; omega)))))
        (fun _ => et_test (ev_neS T0 (evd_callA (evda_cons (Φ := fun w _ => w = .ref bt) (ev_EvD (ev_var rfl) fun _ _ => rfl) (fun H2 e2 => evda_cons (Φ := fun w G => Pd K G w (rowsD ((invI im).map cI))) (inv_ev (evd_tupLD (eld_sortR (b := true) (eld_lcP (fun r => (.inl r.2, kx r.1)) (ev_var rfl) (hpi21.ext e2) (by rw [List.length_map]; omega) (fun _ _ => rfl) (fun _ _ => et_true fun _ _ _ q => q) (fun r G e hr => ?_)) (fun r hr => ?_)))) (fun H3 e3 => evda_ev ea_nil) (fun _ _ _ e h => h.ext e)) (fun _ _ _ _ h => h)) (fun vs G e ⟨v, r, e1, e2, w, r2, e3, hw, e4⟩ Q q E => ?_)) (fun _ _ => ev_var rfl) L21.st))) (fun z => nomatch z) (fun _ H22 e22 => ?_)
      · obtain ⟨c, hc, rfl⟩ := List.mem_map.mp hr
        exact evd_tupD (ds := [.int c.2, .int c.1]) (eda_d (evd_i (ev_var rfl)) (eda_d (evd_i (ev_var rfl)) eda_d0)) (show 2 ≤ 100000 by decide)
      · obtain ⟨q, _, rfl⟩ := List.mem_map.mp hr
        rfl
      · subst e1 e2 e3 e4
        exact ⟨_, _, rfl, .inr ⟨bt, ns.map (gN im), cells2, _, rfl, by rw [hc2]; exact htold.ext e, by rw [List.length_map]; omega, hw.dp, .inr ⟨invI im, rfl, fun _ => hw, hIm.inv, hbc, fun b G' e' hst => q _ _ e' ⟨b, rfl, by rw [hc2, hbk.1, hbk.2] at hst; exact hst⟩⟩⟩⟩
      have L22 := L21.ext e22
      clear L20 L21 hpi20 hpi21 hdue hdue21 htold
      have hne : ns ≠ [] := fun z => hg.ne (by
        have := nsg.keys
        rw [z] at this
        exact List.map_eq_nil_iff.mp this.symm)
      refine if_czA (ea_cons (ev_var rfl) (ea_cons (ev_var rfl) (ea_cons (ev_var rfl) ea_nil)) H22 (Ex.refl H22) _ fun H23 e23 pins s1 I23 => ?_)
      have L23 := L22.ext e23
      exact ⟨p, am, .ref t, ns, cells, rfl, L23.pen, L23.tab, L23.st, L23.ls, cok, hnl, hne, sg_zz nsg, (st_g nsg cok).1, (st_g nsg cok).2.1, fun G hp ht => ⟨true, rfl, ⟨_, _, _, _, _, _, _, _, _, _, _, _, _, _, _, _, _, _, _, _, _, _, _, rfl⟩, hp, ht⟩⟩
  · subst e
    exact s_ret ev_c (fun H3 e3 => hQ H3)
end
end Kb
set_option Elab.async false
set_option linter.all false
set_option maxRecDepth 100000
set_option maxHeartbeats 0
namespace Kb.Hd
open PySem PySem.Spec PyProof.Rows L2
/-! ### what is read of the heap behind the top (printed by gen_head.py) -/
def bit (b : Bool) (r : Bool) : Bool := match b with
  | true => r
  | false => false
theorem bit_ok {b r : Bool} (h : bit b r = true) : b = true ∧ r = true := by
  cases b with
  | true => exact ⟨rfl, h⟩
  | false => cases h
def oexB (K : PySem.W.Frag) (C : Addr) : Bool := match K.lookup C with
  | some ⟨.type "type", _, .cls cd, sl⟩ => (match cd.mro, sl.toList with
    | .ref C' :: bm, [_, _, _, _, some (.builtin n), _] => (C' == C && n == "ValueError.__new__") && ((!cd.hasDel && cd.hasDict) && HandSPX.refsVE bm)
    | _, _ => false)
  | _ => false
theorem oexB_ok {K : PySem.W.Frag} {C : Addr} (q : oexB K C = true) : ∃ nm q N bs bm sn sub ab col dd k0 k1 k2 k3 k5, K.lookup C = some (excClassObj nm q C N bs bm true sn sub ab col dd k0 k1 k2 k3 k5 "ValueError.__new__") ∧ HandSPX.refsVE bm = true := by
  unfold oexB at q
  split at q
  · rename_i dd cd sl ho
    split at q
    · rename_i C' bm k0 k1 k2 k3 n k5 hm hs
      simp only [Bool.and_eq_true, beq_iff_eq, Bool.not_eq_true'] at q
      obtain ⟨⟨rfl, rfl⟩, ⟨hdel, hdct⟩, ht⟩ := q
      obtain ⟨nm, bs, mro, ns, qn, hd, sn, sub, ab, col, del⟩ := cd
      dsimp only at hm hdel hdct
      subst hm hdel hdct
      have hsl : sl = #[k0, k1, k2, k3, some (.builtin "ValueError.__new__"), k5] := by
        obtain ⟨l⟩ := sl
        dsimp only at hs
        rw [hs]
      subst hsl
      exact ⟨nm, qn, ns, bs, bm, sn, sub, ab, col, dd, k0, k1, k2, k3, k5, ho, ht⟩
    · cases q
  · cases q
def nmK (j : Nat) : Str := match j with
  | 0 => "BadName"
  | 1 => "BadNumber"
  | 2 => "BadRow"
  | 3 => "NoName"
  | 4 => "TakenName"
  | 5 => "TooMany"
  | 6 => "Unlike"
  | _ => "BadText"
def fldsK (j : Nat) : List Str := match j with
  | 0 => ["name"]
  | 1 => ["what", "number"]
  | 2 => ["what", "row"]
  | 3 => ["name"]
  | 4 => ["name"]
  | 5 => ["what", "many", "limit"]
  | 6 => ["what"]
  | _ => ["line", "word"]
abbrev cAt (K : PySem.W.Frag) (j : Nat) : Addr := He.ga K (nmK j)
abbrev iAt (K : PySem.W.Frag) (j : Nat) : Addr := He.ma K (cAt K j) "__init__"
/-- a class of the errors -/
def clB (K : PySem.W.Frag) (C I : Addr) (j : Nat) : Bool :=
  bit (oexB K C) (bit (decide (PySem.W.findIn K (.ref C) "__setattr__" = some (some (.builtin "object.__setattr__")))) (bit (decide (PySem.W.subIn K (.ref C) (.type "BaseException") = some true)) (bit (decide (PySem.W.typeIn K (.ref C) = some (.type "type"))) (bit (PySem.W.keepIn K (.ref C))
  (bit (decide (PySem.W.findIn K (.ref C) "__init__" = some (some (.ref I)))) (bit (decide (PySem.W.typeIn K (.ref I) = some (.type "function"))) (bit (PySem.W.keepIn K (.ref I))
  (bit (decide (PySem.W.findIn K (.ref C) "__getattribute__" = some (some (.builtin "BaseException.__getattribute__")))) (bit (decide (PySem.W.findIn K (.ref C) "__getattr__" = some none)) (bit (PySem.W.hasDictIn K C) (bit (decide (PySem.W.findIn K (.ref C) "__class__" = some (some (.builtin "object.__class__"))))
  (bit (decide (PySem.W.mroIn K C (.type "object") = some true)) (bit ((fldsK j).all fun f => decide (PySem.W.findIn K (.ref C) f = some none))
  (bit ((List.range 8).all fun i => decide (PySem.W.kitOne K (.ref C) (.ref (cAt K i)) = some (decide (j = i)))) (decide (PySem.W.exmOne K (.ref C) (.ref (He.ga K "HeapError")) = some true))))))))))))))))
def heB (K : PySem.W.Frag) : Bool :=
  bit (decide (PySem.W.specialIn K (.ref (He.ga K "HeapError")) "__getattribute__" = some (some (.builtin "type.__getattribute__")))) (bit (PySem.W.readsIn K (He.ga K "HeapError") (.type "type"))
  (bit (match PySem.W.findCls K (.ref (He.ga K "HeapError")) (.type "type") "__init__" with
    | some (.val (.builtin n)) => n == "ValueError.__init__"
    | _ => false)
  (bit (decide (PySem.W.specialIn K (.builtin "object.__class__") "__get__" = some (some (.builtin "getset_descriptor.__get__")))) (decide (PySem.W.takesIn K (.builtin "object.__class__") = some true)))))
/-- an own class, of no errors -/
def ownB (K : PySem.W.Frag) (C : Addr) : Bool :=
  bit (decide (PySem.W.findIn K (.ref C) "__class__" = some (some (.builtin "object.__class__")))) (bit (decide (PySem.W.mroIn K C (.type "object") = some true)) (bit (tysL.all fun T => decide (PySem.W.kitOne K (.type T) (.ref C) = some false))
  (bit (tysL.all fun T => decide (PySem.W.kitOne K (.ref C) (.type T) = some false)) (tysL.all fun T => PySem.W.notFirst K C (.type T)))))
def exB (K : PySem.W.Frag) : Bool := bit (heB K) ((List.range 8).all fun j => clB K (cAt K j) (iAt K j) j)
structure ClF (K : PySem.W.Frag) (C I : Addr) (j : Nat) : Prop where
  T : OexC K C
  iC : PySem.W.findIn K (.ref C) "__init__" = some (some (.ref I))
  tI : PySem.W.typeIn K (.ref I) = some (.type "function")
  kI : PySem.W.keepIn K (.ref I) = true
  ga : PySem.W.findIn K (.ref C) "__getattribute__" = some (some (.builtin "BaseException.__getattribute__"))
  gt : PySem.W.findIn K (.ref C) "__getattr__" = some none
  hd : PySem.W.hasDictIn K C = true
  hc : PySem.W.findIn K (.ref C) "__class__" = some (some (.builtin "object.__class__"))
  hm : PySem.W.mroIn K C (.type "object") = some true
  no : ∀ f ∈ fldsK j, PySem.W.findIn K (.ref C) f = some none
  iso : ∀ i, i < 8 → PySem.W.kitOne K (.ref C) (.ref (cAt K i)) = some (decide (j = i))
  te : PySem.W.exmOne K (.ref C) (.ref (He.ga K "HeapError")) = some true
theorem clB_ok {K : PySem.W.Frag} {C I : Addr} {j : Nat} (h : clB K C I j = true) : ClF K C I j := by
  unfold clB at h
  obtain ⟨a1, h⟩ := bit_ok h
  obtain ⟨a2, h⟩ := bit_ok h
  obtain ⟨a3, h⟩ := bit_ok h
  obtain ⟨a4, h⟩ := bit_ok h
  obtain ⟨a5, h⟩ := bit_ok h
  obtain ⟨a6, h⟩ := bit_ok h
  obtain ⟨a7, h⟩ := bit_ok h
  obtain ⟨a8, h⟩ := bit_ok h
  obtain ⟨a9, h⟩ := bit_ok h
  obtain ⟨a10, h⟩ := bit_ok h
  obtain ⟨a11, h⟩ := bit_ok h
  obtain ⟨a12, h⟩ := bit_ok h
  obtain ⟨a13, h⟩ := bit_ok h
  obtain ⟨a14, h⟩ := bit_ok h
  obtain ⟨a15, a16⟩ := bit_ok h
  exact ⟨⟨oexB_ok a1, of_decide_eq_true a2, of_decide_eq_true a3, of_decide_eq_true a4, a5⟩, of_decide_eq_true a6, of_decide_eq_true a7, a8, of_decide_eq_true a9, of_decide_eq_true a10, a11, of_decide_eq_true a12, of_decide_eq_true a13,
    fun f hf => of_decide_eq_true (List.all_eq_true.mp a14 f hf), fun i hi => of_decide_eq_true (List.all_eq_true.mp a15 i (List.mem_range.mpr hi)), of_decide_eq_true a16⟩
structure OwF (K : PySem.W.Frag) (C : Addr) : Prop where
  ca : PySem.W.findIn K (.ref C) "__class__" = some (some (.builtin "object.__class__"))
  hm : PySem.W.mroIn K C (.type "object") = some true
  ty : ∀ T ∈ tysL, PySem.W.kitOne K (.type T) (.ref C) = some false
  un : ∀ T ∈ tysL, PySem.W.kitOne K (.ref C) (.type T) = some false
  nf : ∀ T ∈ tysL, PySem.W.notFirst K C (.type T) = true
theorem ownB_ok {K : PySem.W.Frag} {C : Addr} (h : ownB K C = true) : OwF K C := by
  unfold ownB at h
  obtain ⟨a1, h⟩ := bit_ok h
  obtain ⟨a2, h⟩ := bit_ok h
  obtain ⟨a3, h⟩ := bit_ok h
  obtain ⟨a4, a5⟩ := bit_ok h
  exact ⟨of_decide_eq_true a1, of_decide_eq_true a2, fun T hT => of_decide_eq_true (List.all_eq_true.mp a3 T hT), fun T hT => of_decide_eq_true (List.all_eq_true.mp a4 T hT), fun T hT => List.all_eq_true.mp a5 T hT⟩
/-! ### the Hook -/
def tab0 : List He.FnD := [⟨("is_plain_name", none), "is_plain_name", "is_plain_name", defArgs (topS 15), defBody (topS 15), defScope (topS 15)⟩, ⟨("rising", none), "rising", "rising", defArgs (topS 16), defBody (topS 16), defScope (topS 16)⟩, ⟨("is_whole", none), "is_whole", "is_whole", defArgs (topS 18), defBody (topS 18), defScope (topS 18)⟩, ⟨("is_number", none), "is_number", "is_number", defArgs (topS 19), defBody (topS 19), defScope (topS 19)⟩, ⟨("is_value", none), "is_value", "is_value", defArgs (topS 25), defBody (topS 25), defScope (topS 25)⟩, ⟨("is_address", none), "is_address", "is_address", defArgs (topS 26), defBody (topS 26), defScope (topS 26)⟩, ⟨("is_store", none), "is_store", "is_store", defArgs (topS 27), defBody (topS 27), defScope (topS 27)⟩, ⟨("is_heap", none), "is_heap", "is_heap", defArgs (topS 28), defBody (topS 28), defScope (topS 28)⟩, ⟨("need_state", none), "need_state", "need_state", defArgs (topS 29), defBody (topS 29), defScope (topS 29)⟩, ⟨("need_address", none), "need_address", "need_address", defArgs (topS 30), defBody (topS 30), defScope (topS 30)⟩, ⟨("need_value", none), "need_value", "need_value", defArgs (topS 31), defBody (topS 31), defScope (topS 31)⟩, ⟨("stored", none), "stored", "stored", defArgs (topS 32), defBody (topS 32), defScope (topS 32)⟩]
def tab1 : List He.FnD := [⟨("with_value", none), "with_value", "with_value", defArgs (topS 33), defBody (topS 33), defScope (topS 33)⟩, ⟨("with_cell", none), "with_cell", "with_cell", defArgs (topS 34), defBody (topS 34), defScope (topS 34)⟩, ⟨("without_cell", none), "without_cell", "without_cell", defArgs (topS 35), defBody (topS 35), defScope (topS 35)⟩, ⟨("values_by", none), "values_by", "values_by", defArgs (topS 36), defBody (topS 36), defScope (topS 36)⟩, ⟨("part_by", none), "part_by", "part_by", defArgs (topS 37), defBody (topS 37), defScope (topS 37)⟩, ⟨("heap_part", none), "heap_part", "heap_part", defArgs (topS 38), defBody (topS 38), defScope (topS 38)⟩, ⟨("joined_states", none), "joined_states", "joined_states", defArgs (topS 39), defBody (topS 39), defScope (topS 39)⟩, ⟨("are_images", none), "are_images", "are_images", defArgs (topS 40), defBody (topS 40), defScope (topS 40)⟩, ⟨("moved_by", none), "moved_by", "moved_by", defArgs (topS 41), defBody (topS 41), defScope (topS 41)⟩, ⟨("moved_state", none), "moved_state", "moved_state", defArgs (topS 42), defBody (topS 42), defScope (topS 42)⟩, ⟨("_law_pen", none), "_law_pen", "_law_pen", defArgs (topS 44), defBody (topS 44), defScope (topS 44)⟩, ⟨("_law_draw", none), "_law_draw", "_law_draw", defArgs (topS 45), defBody (topS 45), defScope (topS 45)⟩]
def tab2 : List He.FnD := [⟨("_law_pick", none), "_law_pick", "_law_pick", defArgs (topS 46), defBody (topS 46), defScope (topS 46)⟩, ⟨("_law_shuffled", none), "_law_shuffled", "_law_shuffled", defArgs (topS 47), defBody (topS 47), defScope (topS 47)⟩, ⟨("_law_is", none), "_law_is", "_law_is", defArgs (topS 48), defBody (topS 48), defScope (topS 48)⟩, ⟨("_law_caught", none), "_law_caught", "_law_caught", defArgs (topS 49), defBody (topS 49), defScope (topS 49)⟩, ⟨("_law_raise_so", none), "_law_raise_so", "_law_raise_so", defArgs (topS 50), defBody (topS 50), defScope (topS 50)⟩, ⟨("_law_unlike", none), "_law_unlike", "_law_unlike", defArgs (topS 51), defBody (topS 51), defScope (topS 51)⟩, ⟨("_law_values", none), "_law_values", "_law_values", defArgs (topS 52), defBody (topS 52), defScope (topS 52)⟩, ⟨("_law_content", none), "_law_content", "_law_content", defArgs (topS 53), defBody (topS 53), defScope (topS 53)⟩, ⟨("_law_drawn_names", none), "_law_drawn_names", "_law_drawn_names", defArgs (topS 54), defBody (topS 54), defScope (topS 54)⟩, ⟨("_law_drawn_state", none), "_law_drawn_state", "_law_drawn_state", defArgs (topS 55), defBody (topS 55), defScope (topS 55)⟩, ⟨("_law_state", none), "_law_state", "_law_state", defArgs (topS 56), defBody (topS 56), defScope (topS 56)⟩, ⟨("_law_plain_state", none), "_law_plain_state", "_law_plain_state", defArgs (topS 57), defBody (topS 57), defScope (topS 57)⟩]
def tab3 : List He.FnD := [⟨("_law_images", none), "_law_images", "_law_images", defArgs (topS 58), defBody (topS 58), defScope (topS 58)⟩, ⟨("_law_refusals_right", none), "_law_refusals_right", "_law_refusals_right", defArgs (topS 59), defBody (topS 59), defScope (topS 59)⟩, ⟨("law", none), "law", "law", defArgs (topS 60), defBody (topS 60), defScope (topS 60)⟩]
def tab : List He.FnD := tab0 ++ tab1 ++ tab2 ++ tab3
def tac0 : List He.FnD := [⟨("BadName", some "__init__"), "__init__", "BadName.__init__", defArgs (inClass (topS 3) 0), defBody (inClass (topS 3) 0), defScope (inClass (topS 3) 0)⟩, ⟨("BadNumber", some "__init__"), "__init__", "BadNumber.__init__", defArgs (inClass (topS 4) 0), defBody (inClass (topS 4) 0), defScope (inClass (topS 4) 0)⟩, ⟨("BadRow", some "__init__"), "__init__", "BadRow.__init__", defArgs (inClass (topS 5) 0), defBody (inClass (topS 5) 0), defScope (inClass (topS 5) 0)⟩, ⟨("NoName", some "__init__"), "__init__", "NoName.__init__", defArgs (inClass (topS 6) 0), defBody (inClass (topS 6) 0), defScope (inClass (topS 6) 0)⟩, ⟨("TakenName", some "__init__"), "__init__", "TakenName.__init__", defArgs (inClass (topS 7) 0), defBody (inClass (topS 7) 0), defScope (inClass (topS 7) 0)⟩, ⟨("TooMany", some "__init__"), "__init__", "TooMany.__init__", defArgs (inClass (topS 9) 0), defBody (inClass (topS 9) 0), defScope (inClass (topS 9) 0)⟩, ⟨("Unlike", some "__init__"), "__init__", "Unlike.__init__", defArgs (inClass (topS 8) 0), defBody (inClass (topS 8) 0), defScope (inClass (topS 8) 0)⟩, ⟨("BadText", some "__init__"), "__init__", "BadText.__init__", defArgs (inClass (topS 2) 0), defBody (inClass (topS 2) 0), defScope (inClass (topS 2) 0)⟩, ⟨("State", some "__init__"), "__init__", "State.__init__", defArgs (inClass (topS 24) 0), defBody (inClass (topS 24) 0), defScope (inClass (topS 24) 0)⟩, ⟨("State", some "__eq__"), "__eq__", "State.__eq__", defArgs (inClass (topS 24) 1), defBody (inClass (topS 24) 1), defScope (inClass (topS 24) 1)⟩, ⟨("State", some "__ne__"), "__ne__", "State.__ne__", defArgs (inClass (topS 24) 2), defBody (inClass (topS 24) 2), defScope (inClass (topS 24) 2)⟩]
def tac : List He.FnD := tac0
def gls0 : List He.Fa := [.glo "is_plain_name", .glo "rising", .glo "is_whole", .glo "is_number", .glo "is_value", .glo "is_address", .glo "is_store", .glo "is_heap", .glo "need_state", .glo "need_address", .glo "need_value", .glo "stored"]
def gls1 : List He.Fa := [.glo "with_value", .glo "with_cell", .glo "without_cell", .glo "values_by", .glo "part_by", .glo "heap_part", .glo "joined_states", .glo "are_images", .glo "moved_by", .glo "moved_state", .glo "_law_pen", .glo "_law_draw"]
def gls2 : List He.Fa := [.glo "_law_pick", .glo "_law_shuffled", .glo "_law_is", .glo "_law_caught", .glo "_law_raise_so", .glo "_law_unlike", .glo "_law_values", .glo "_law_content", .glo "_law_drawn_names", .glo "_law_drawn_state", .glo "_law_state", .glo "_law_plain_state"]
def gls3 : List He.Fa := [.glo "_law_images", .glo "_law_refusals_right", .glo "law", .glo "BadName", .glo "BadNumber", .glo "BadRow", .glo "NoName", .glo "TakenName", .glo "TooMany", .glo "Unlike", .glo "BadText", .glo "HeapError"]
def gls4 : List He.Fa := [.glo "State"]
def gls : List He.Fa := gls0 ++ gls1 ++ gls2 ++ gls3 ++ gls4
def fre0 : List He.Fa := [.free "int", .free "range", .free "list", .free "isinstance", .free "len", .free "all", .free "bool", .free "str", .free "sorted", .free "tuple", .free "enumerate", .free "zip"]
def fre1 : List He.Fa := [.free "dict", .free "any", .free "repr", .free "max", .free "min", .free "sum", .free "ValueError"]
def fre : List He.Fa := fre0 ++ fre1
def kps0 : List He.Fa := [.keep "is_plain_name", .keep "rising", .keep "is_whole", .keep "is_number", .keep "is_value", .keep "is_address", .keep "is_store", .keep "is_heap", .keep "need_state", .keep "need_address", .keep "need_value", .keep "stored"]
def kps1 : List He.Fa := [.keep "with_value", .keep "with_cell", .keep "without_cell", .keep "values_by", .keep "part_by", .keep "heap_part", .keep "joined_states", .keep "are_images", .keep "moved_by", .keep "moved_state", .keep "_law_pen", .keep "_law_draw"]
def kps2 : List He.Fa := [.keep "_law_pick", .keep "_law_shuffled", .keep "_law_is", .keep "_law_caught", .keep "_law_raise_so", .keep "_law_unlike", .keep "_law_values", .keep "_law_content", .keep "_law_drawn_names", .keep "_law_drawn_state", .keep "_law_state", .keep "_law_plain_state"]
def kps3 : List He.Fa := [.keep "_law_images", .keep "_law_refusals_right", .keep "law"]
def kps : List He.Fa := kps0 ++ kps1 ++ kps2 ++ kps3
def cns0 : List He.Fa := [.str "LETTERS" "abcdefghijklmnopqrstuvwxyz", .str "DIGITS" "0123456789", .int "MOST_SIGNS" 12, .glo "WORDS", .int "MOST_VALUE" 1000000, .int "MOST_NAMES" 60, .int "MOST_CELLS" 40]
def cns : List He.Fa := cns0
def kls0 : List He.Fa := [.cls "State", .mkr "State", .noat "State" "store", .noat "State" "heap", .meth "State" "__init__", .meth "State" "__eq__", .meth "State" "__ne__"]
def kls : List He.Fa := kls0
def owns : List Str := ["State"]
def tups : List (Str × List He.Dv) := [("WORDS", [.str "nil", .str "new", .str "free", .str "if", .str "else", .str "while", .str "keep", .str "end", .str "call", .str "with", .str "needs", .str "gives", .str "routine"])]
def tbs : List He.Defn := [("_law_refusals_right", none), ("law", none)]
abbrev ObsT : Type := (Bool × List He.FnV) × Bool
def asK (g : Addr → Option Obj) : List Addr := PySem.cStatics :: He.asD g 4
def disB (K : PySem.W.Frag) : Bool := decide ((tbs.map fun p => (He.cT K p).2).Nodup)
def fctB (K : PySem.W.Frag) : Bool := bit (disB K) (bit (gls.all fun f => f.ok K) (bit (fre.all fun f => f.ok K) (bit (kps.all fun f => f.ok K) (bit (cns.all fun f => f.ok K) (bit (kls.all fun f => f.ok K) (bit (owns.all fun x => ownB K (He.ga K x)) (bit (tups.all fun x => He.tupB K x.1 x.2)
  (bit ((tab ++ tac).all fun d => (He.Fa.code d.at_ d.qual).ok K) (exB K)))))))))
def obsK (K : PySem.W.Frag) : Bool × List He.FnV := (fctB K, (tab ++ tac).map fun d => He.fnObs K d.at_)
def valK : Bool × List He.FnV := (true, (tab ++ tac).map He.FnD.val)
def obsG (g : Addr → Option Obj) : ObsT := (obsK (He.frT g (asK g)), He.tabsB g tbs (He.frT g (asK g)))
structure Says (h : Heap) (K : PySem.W.Frag) : Prop where
  kin : K.In h
  t : obsK K = valK
  hd : ∀ p ∈ tbs, PySem.W.codeHdIn K (He.cT K p).1 (He.cT K p).2 = true
  out : ∀ p ∈ tbs, K.lookup (He.cT K p).2 = none
  empty : ∀ p ∈ tbs, h.get? (He.cT K p).2 = some { cls := .none, data := .fields #[] }
theorem says_of {h : Heap} (e : obsG h.get? = (valK, true)) : Says h (He.frT h.get? (asK h.get?)) := by
  have e1 : obsK (He.frT h.get? (asK h.get?)) = valK := congrArg (fun z : ObsT => z.1) e
  have e2 : He.tabsB h.get? tbs (He.frT h.get? (asK h.get?)) = true := congrArg (fun z : ObsT => z.2) e
  have key : ∀ p ∈ tbs, PySem.W.codeHdIn (He.frT h.get? (asK h.get?)) (He.cT (He.frT h.get? (asK h.get?)) p).1 (He.cT (He.frT h.get? (asK h.get?)) p).2 = true ∧ ∃ o, h.get? (He.cT (He.frT h.get? (asK h.get?)) p).2 = some o ∧ He.emptyTab o = true := fun p hp => by
    obtain ⟨h3, h4⟩ := He.ba (List.all_eq_true.mp e2 p hp)
    refine ⟨h3, ?_⟩
    cases q : h.get? (He.cT (He.frT h.get? (asK h.get?)) p).2 with
    | none =>
      rw [q] at h4
      cases h4
    | some o =>
      rw [q] at h4
      exact ⟨o, rfl, h4⟩
  exact ⟨He.frT_in, e1, fun p hp => (key p hp).1, fun p hp => by
    obtain ⟨_, o, q, z⟩ := key p hp
    exact He.frT_none q z, fun p hp => by
    obtain ⟨_, o, q, z⟩ := key p hp
    rw [q, He.emptyTab_eq z]⟩
def hookK : PySem.W.Hook where
  α := ObsT
  obs := fun s => obsG s.heap.get?
  val := fun _ => (valK, true)
  says := fun _ h => ∃ K : PySem.W.Frag, Says h K
  of := fun _ _ e => ⟨_, says_of e⟩
  keeps := fun _ _ _ ⟨K, c⟩ k => ⟨K, ⟨PySem.W.Frag.In.keeps c.kin k, c.t, c.hd, c.out, fun p hp => k _ _ (c.empty p hp)⟩⟩
abbrev R : PySem.W.OpenRow := PySem.W.OpenLaw.row PySem.Challenge.rw_heapshown_k02_whole_states_changed
def ob (s : PySem.W.SharedT) : ObsT := obsG (HandSHeadRun.getT s)
theorem ob_eq (s : PySem.W.SharedT) : ob s = hookK.obs s.abs := by
  have e : HandSHeadRun.getT s = s.abs.heap.get? := funext fun a => HandSHeadRun.getT_eq s a
  show obsG (HandSHeadRun.getT s) = obsG s.abs.heap.get?
  rw [e]
def loose0 : List PySem.Str := ["is_plain_name", "rising", "is_whole", "is_number", "is_value", "is_address", "is_store", "is_heap", "need_state", "need_address", "need_value", "stored"]
def loose1 : List PySem.Str := ["with_value", "with_cell", "without_cell", "values_by", "part_by", "heap_part", "joined_states", "are_images", "moved_by", "moved_state", "_law_pen", "_law_draw"]
def loose2 : List PySem.Str := ["_law_pick", "_law_shuffled", "_law_is", "_law_caught", "_law_raise_so", "_law_unlike", "_law_values", "_law_content", "_law_drawn_names", "_law_drawn_state", "_law_state", "_law_plain_state"]
def loose3 : List PySem.Str := ["_law_images", "_law_refusals_right", "BadName", "BadNumber", "BadRow", "NoName", "TakenName", "TooMany", "Unlike", "BadText", "HeapError", "State"]
def loose4 : List PySem.Str := ["LETTERS", "DIGITS", "MOST_SIGNS", "WORDS", "MOST_VALUE", "MOST_NAMES", "MOST_CELLS"]
def loose : List PySem.Str := loose0 ++ loose1 ++ loose2 ++ loose3 ++ loose4
end Kb.Hd
set_option Elab.async false
set_option linter.all false
set_option maxRecDepth 100000
set_option maxHeartbeats 0
namespace Kb.Hd
open PySem PySem.Spec PyProof.Rows L2
theorem run (w : World) : HandSHeadRun.RunEq R (PySem.W.view R.prog [60]) hookK ob 20000 loose w := by
  intro os
  kernel_rfl
end Kb.Hd
set_option Elab.async false
set_option linter.all false
set_option maxRecDepth 100000
set_option maxHeartbeats 4000000
namespace Kb.Hd
open PySem PySem.Spec PyProof.Rows L2 LamX
/-! ### the facts, by names (printed by gen_asm.py) -/
section
variable {K : PySem.W.Frag} {h : Heap} {mg : Str → Option Value}
structure Pa (K : PySem.W.Frag) : Prop where
  di : disB K = true
  gl : ∀ f ∈ gls, f.ok K = true
  fr : ∀ f ∈ fre, f.ok K = true
  kp : ∀ f ∈ kps, f.ok K = true
  cn : ∀ f ∈ cns, f.ok K = true
  kl : ∀ f ∈ kls, f.ok K = true
  ow : ∀ x ∈ owns, OwF K (He.ga K x)
  tu : ∀ x ∈ tups, He.tupB K x.1 x.2 = true
  co : ∀ d ∈ tab ++ tac, (He.Fa.code d.at_ d.qual).ok K = true
  he : heB K = true
  cl : ∀ j, j < 8 → ClF K (cAt K j) (iAt K j) j
  fn : ∀ (i : Nat) (d : He.FnD), (tab ++ tac)[i]? = some d → He.fnObs K d.at_ = d.val
theorem pa_of (c : obsK K = valK) : Pa K := by
  have c1 : fctB K = true := congrArg (fun z : Bool × List He.FnV => z.1) c
  have c2 : (tab ++ tac).map (fun d => He.fnObs K d.at_) = (tab ++ tac).map He.FnD.val := congrArg (fun z : Bool × List He.FnV => z.2) c
  unfold fctB at c1
  obtain ⟨h0, c1⟩ := bit_ok c1
  obtain ⟨h1, c1⟩ := bit_ok c1
  obtain ⟨h2, c1⟩ := bit_ok c1
  obtain ⟨h3, c1⟩ := bit_ok c1
  obtain ⟨h4, c1⟩ := bit_ok c1
  obtain ⟨h5, c1⟩ := bit_ok c1
  obtain ⟨h6, c1⟩ := bit_ok c1
  obtain ⟨h7, c1⟩ := bit_ok c1
  obtain ⟨h8, c1⟩ := bit_ok c1
  unfold exB at c1
  obtain ⟨h9, h10⟩ := bit_ok c1
  refine ⟨h0, fun f hf => List.all_eq_true.mp h1 f hf, fun f hf => List.all_eq_true.mp h2 f hf, fun f hf => List.all_eq_true.mp h3 f hf, fun f hf => List.all_eq_true.mp h4 f hf, fun f hf => List.all_eq_true.mp h5 f hf, fun x hx => ownB_ok (List.all_eq_true.mp h6 x hx), fun x hx => List.all_eq_true.mp h7 x hx,
    fun d hd => List.all_eq_true.mp h8 d hd, h9, fun j hj => clB_ok (List.all_eq_true.mp h10 j (List.mem_range.mpr hj)), fun i d hi => ?_⟩
  have e2 : ((tab ++ tac).map fun d => He.fnObs K d.at_)[i]? = ((tab ++ tac).map He.FnD.val)[i]? := by rw [c2]
  rw [List.getElem?_map, List.getElem?_map, hi] at e2
  exact Option.some.inj e2
theorem glo_of (X : K.In h) (G : h.Ns mainGlobals mg) (c : Pa K) {x : Str} (i : Nat) (e : gls[i]? = some (.glo x)) : mg x = some (.ref (He.ga K x)) := He.glo_ok X G (c.gl _ (List.mem_of_getElem? e))
theorem free_of (X : K.In h) (G : h.Ns mainGlobals mg) (c : Pa K) {x : Str} (i : Nat) (e : fre[i]? = some (.free x)) : mg x = none := He.free_ok X G (c.fr _ (List.mem_of_getElem? e))
theorem keep_of (c : Pa K) {x : Str} (i : Nat) (e : kps[i]? = some (.keep x)) : PySem.W.keepIn K (.ref (He.ga K x)) = true := c.kp _ (List.mem_of_getElem? e)
theorem fun_of (c : Pa K) {p : Str × Option Str} {x q : Str} {st : Stmt} (i : Nat) (e : (tab ++ tac)[i]? = some ⟨p, x, q, defArgs st, defBody st, defScope st⟩) (k : PySem.W.keepIn K (.ref (He.fAd K p)) = true) : ∃ fd, Fun K x q st (He.fAd K p) fd := by
  obtain ⟨oc, od, osl, kV, doc, pm, an, cdv, ct, l, cd⟩ := He.fn_ok (c.fn i _ e) (c.co _ (List.mem_of_getElem? e))
  exact ⟨_, fun_mk l cd k⟩
theorem he_of (X : K.In h) (G : h.Ns mainGlobals mg) (c : Pa K) : HeC K mg (He.ga K "HeapError") ∧ PySem.W.specialIn K (.builtin "object.__class__") "__get__" = some (some (.builtin "getset_descriptor.__get__")) ∧ PySem.W.takesIn K (.builtin "object.__class__") = some true := by
  have hb := c.he
  unfold heB at hb
  obtain ⟨a1, hb⟩ := bit_ok hb
  obtain ⟨a2, hb⟩ := bit_ok hb
  obtain ⟨a3, hb⟩ := bit_ok hb
  obtain ⟨a4, a5⟩ := bit_ok hb
  refine ⟨⟨glo_of X G c 47 rfl, of_decide_eq_true a1, a2, ?_⟩, of_decide_eq_true a4, of_decide_eq_true a5⟩
  split at a3
  · rename_i n hn
    rw [hn, beq_iff_eq.mp a3]
  · cases a3
theorem kx_of (X : K.In h) (G : h.Ns mainGlobals mg) (c : Pa K) : KX K mg (He.ga K "HeapError") (cAt K) := by
  have C := c.cl
  obtain ⟨_, hn, ht⟩ := he_of X G c
  exact {
    iso := fun j i hj hi => (C j hj).iso i hi
    ex := fun j hj => ⟨(C j hj).ga, (C j hj).gt, (C j hj).T.exC, (C j hj).hd, (C j hj).hc, hn, ht, (C j hj).hm⟩
    xf := fun j hj => ⟨(C j hj).ga, (C j hj).gt, (C j hj).T.exC, (C j hj).hd⟩
    te := fun j hj => (C j hj).te
    gHE := glo_of X G c 47 rfl
    g0 := glo_of X G c 39 rfl
    g1 := glo_of X G c 40 rfl
    g2 := glo_of X G c 41 rfl
    g3 := glo_of X G c 42 rfl
    g4 := glo_of X G c 43 rfl
    g5 := glo_of X G c 44 rfl
    g6 := glo_of X G c 45 rfl
    g7 := glo_of X G c 46 rfl
    n0name := (C 0 (by decide)).no "name" (by decide)
    n1what := (C 1 (by decide)).no "what" (by decide)
    n1number := (C 1 (by decide)).no "number" (by decide)
    n2what := (C 2 (by decide)).no "what" (by decide)
    n2row := (C 2 (by decide)).no "row" (by decide)
    n3name := (C 3 (by decide)).no "name" (by decide)
    n4name := (C 4 (by decide)).no "name" (by decide)
    n5what := (C 5 (by decide)).no "what" (by decide)
    n5many := (C 5 (by decide)).no "many" (by decide)
    n5limit := (C 5 (by decide)).no "limit" (by decide)
    n6what := (C 6 (by decide)).no "what" (by decide)
    n7line := (C 7 (by decide)).no "line" (by decide)
    n7word := (C 7 (by decide)).no "word" (by decide)
  }
theorem bi_of (X : K.In h) (G : h.Ns mainGlobals mg) (c : Pa K) : Bi mg := ⟨free_of X G c 0 rfl, free_of X G c 1 rfl, free_of X G c 2 rfl, free_of X G c 3 rfl, free_of X G c 4 rfl, free_of X G c 5 rfl, free_of X G c 6 rfl, free_of X G c 7 rfl, free_of X G c 8 rfl, free_of X G c 9 rfl, free_of X G c 10 rfl, free_of X G c 11 rfl, free_of X G c 12 rfl, free_of X G c 13 rfl, free_of X G c 14 rfl, free_of X G c 15 rfl, free_of X G c 16 rfl, free_of X G c 17 rfl, free_of X G c 18 rfl⟩
theorem gc_LETTERS (X : K.In h) (G : h.Ns mainGlobals mg) (c : Pa K) : Gc mg "LETTERS" (.str "abcdefghijklmnopqrstuvwxyz") := let ⟨t, e⟩ := He.str_ok X G (c.cn _ (List.mem_of_getElem? (i := 0) rfl)); ⟨_, e, ⟨t, rfl⟩⟩
theorem gc_DIGITS (X : K.In h) (G : h.Ns mainGlobals mg) (c : Pa K) : Gc mg "DIGITS" (.str "0123456789") := let ⟨t, e⟩ := He.str_ok X G (c.cn _ (List.mem_of_getElem? (i := 1) rfl)); ⟨_, e, ⟨t, rfl⟩⟩
theorem gc_MOST_SIGNS (X : K.In h) (G : h.Ns mainGlobals mg) (c : Pa K) : Gc mg "MOST_SIGNS" (.int 12) := let ⟨t, e⟩ := He.int_ok X G (c.cn _ (List.mem_of_getElem? (i := 2) rfl)); ⟨_, e, ⟨t, rfl⟩⟩
theorem gc_WORDS (X : K.In h) (G : h.Ns mainGlobals mg) (c : Pa K) : Gc mg "WORDS" (.ref (He.ga K "WORDS")) := ⟨_, He.glo_ok X G (c.cn _ (List.mem_of_getElem? (i := 3) rfl)), rfl⟩
theorem tu_WORDS (c : Pa K) : ∀ H, SqT K H (He.ga K "WORDS") [V.str "nil", V.str "new", V.str "free", V.str "if", V.str "else", V.str "while", V.str "keep", V.str "end", V.str "call", V.str "with", V.str "needs", V.str "gives", V.str "routine"] := fun H => He.tupB_ok (vs := [.str "nil", .str "new", .str "free", .str "if", .str "else", .str "while", .str "keep", .str "end", .str "call", .str "with", .str "needs", .str "gives", .str "routine"]) (c.tu _ (List.mem_of_getElem? (i := 0) rfl)) H
theorem gc_MOST_VALUE (X : K.In h) (G : h.Ns mainGlobals mg) (c : Pa K) : Gc mg "MOST_VALUE" (.int 1000000) := let ⟨t, e⟩ := He.int_ok X G (c.cn _ (List.mem_of_getElem? (i := 4) rfl)); ⟨_, e, ⟨t, rfl⟩⟩
theorem gc_MOST_NAMES (X : K.In h) (G : h.Ns mainGlobals mg) (c : Pa K) : Gc mg "MOST_NAMES" (.int 60) := let ⟨t, e⟩ := He.int_ok X G (c.cn _ (List.mem_of_getElem? (i := 5) rfl)); ⟨_, e, ⟨t, rfl⟩⟩
theorem gc_MOST_CELLS (X : K.In h) (G : h.Ns mainGlobals mg) (c : Pa K) : Gc mg "MOST_CELLS" (.int 40) := let ⟨t, e⟩ := He.int_ok X G (c.cn _ (List.mem_of_getElem? (i := 6) rfl)); ⟨_, e, ⟨t, rfl⟩⟩
theorem ws_of (X : K.In h) (G : h.Ns mainGlobals mg) (c : Pa K) : WS K mg := { LETTERS := gc_LETTERS X G c, DIGITS := gc_DIGITS X G c, MOST_SIGNS := gc_MOST_SIGNS X G c, WORDS := gc_WORDS X G c, MOST_VALUE := gc_MOST_VALUE X G c, MOST_NAMES := gc_MOST_NAMES X G c, MOST_CELLS := gc_MOST_CELLS X G c, words := tu_WORDS c }
theorem kl_State (X : K.In h) (G : h.Ns mainGlobals mg) (c : Pa K) : Kl K mg "State" (He.ga K "State") ["store", "heap"] := by
  have O := c.ow "State" (List.mem_of_getElem? (i := 0) rfl)
  obtain ⟨_, hn, ht⟩ := he_of X G c
  refine ⟨glo_of X G c 48 rfl, He.cls_ok (c.kl _ (List.mem_of_getElem? (i := 0) rfl)), fun f hf => ?_, O.ca, hn, ht, O.hm, O.ty, O.un, O.nf⟩
  rcases List.mem_cons.mp hf with rfl | hf
  · exact He.noat_ok (c.kl _ (List.mem_of_getElem? (i := 2) rfl))
  rcases List.mem_cons.mp hf with rfl | hf
  · exact He.noat_ok (c.kl _ (List.mem_of_getElem? (i := 3) rfl))
  cases hf
theorem mk_State (c : Pa K) : L2.Mk K (He.ga K "State") (He.ma K (He.ga K "State") "__init__") := He.mkr_ok (c.kl _ (List.mem_of_getElem? (i := 1) rfl))
theorem me_State__init__ (c : Pa K) : L2.Meth K (He.ga K "State") "__init__" (He.ma K (He.ga K "State") "__init__") := He.meth_ok (c.kl _ (List.mem_of_getElem? (i := 4) rfl))
theorem me_State__eq__ (c : Pa K) : L2.Meth K (He.ga K "State") "__eq__" (He.ma K (He.ga K "State") "__eq__") := He.meth_ok (c.kl _ (List.mem_of_getElem? (i := 5) rfl))
theorem me_State__ne__ (c : Pa K) : L2.Meth K (He.ga K "State") "__ne__" (He.ma K (He.ga K "State") "__ne__") := He.meth_ok (c.kl _ (List.mem_of_getElem? (i := 6) rfl))
theorem df_is_plain_name (X : K.In h) (G : h.Ns mainGlobals mg) (c : Pa K) : Df K mg "is_plain_name" s_is_plain_name ["value"] := by
  obtain ⟨fd, F⟩ := fun_of (x := "is_plain_name") (q := "is_plain_name") (st := topS 15) (p := ("is_plain_name", none)) c 0 rfl (keep_of c 0 rfl)
  exact ⟨_, fd, F, F.binds (fun _ _ _ _ _ _ us hl => match us, hl with | [_], _ => rfl), F.kp, glo_of X G c 0 rfl⟩
theorem df_rising (X : K.In h) (G : h.Ns mainGlobals mg) (c : Pa K) : Df K mg "rising" s_rising ["value"] := by
  obtain ⟨fd, F⟩ := fun_of (x := "rising") (q := "rising") (st := topS 16) (p := ("rising", none)) c 1 rfl (keep_of c 1 rfl)
  exact ⟨_, fd, F, F.binds (fun _ _ _ _ _ _ us hl => match us, hl with | [_], _ => rfl), F.kp, glo_of X G c 1 rfl⟩
theorem df_is_whole (X : K.In h) (G : h.Ns mainGlobals mg) (c : Pa K) : Df K mg "is_whole" s_is_whole ["value"] := by
  obtain ⟨fd, F⟩ := fun_of (x := "is_whole") (q := "is_whole") (st := topS 18) (p := ("is_whole", none)) c 2 rfl (keep_of c 2 rfl)
  exact ⟨_, fd, F, F.binds (fun _ _ _ _ _ _ us hl => match us, hl with | [_], _ => rfl), F.kp, glo_of X G c 2 rfl⟩
theorem df_is_number (X : K.In h) (G : h.Ns mainGlobals mg) (c : Pa K) : Df K mg "is_number" s_is_number ["value"] := by
  obtain ⟨fd, F⟩ := fun_of (x := "is_number") (q := "is_number") (st := topS 19) (p := ("is_number", none)) c 3 rfl (keep_of c 3 rfl)
  exact ⟨_, fd, F, F.binds (fun _ _ _ _ _ _ us hl => match us, hl with | [_], _ => rfl), F.kp, glo_of X G c 3 rfl⟩
theorem df_is_value (X : K.In h) (G : h.Ns mainGlobals mg) (c : Pa K) : Df K mg "is_value" s_is_value ["value"] := by
  obtain ⟨fd, F⟩ := fun_of (x := "is_value") (q := "is_value") (st := topS 25) (p := ("is_value", none)) c 4 rfl (keep_of c 4 rfl)
  exact ⟨_, fd, F, F.binds (fun _ _ _ _ _ _ us hl => match us, hl with | [_], _ => rfl), F.kp, glo_of X G c 4 rfl⟩
theorem df_is_address (X : K.In h) (G : h.Ns mainGlobals mg) (c : Pa K) : Df K mg "is_address" s_is_address ["value"] := by
  obtain ⟨fd, F⟩ := fun_of (x := "is_address") (q := "is_address") (st := topS 26) (p := ("is_address", none)) c 5 rfl (keep_of c 5 rfl)
  exact ⟨_, fd, F, F.binds (fun _ _ _ _ _ _ us hl => match us, hl with | [_], _ => rfl), F.kp, glo_of X G c 5 rfl⟩
theorem df_is_store (X : K.In h) (G : h.Ns mainGlobals mg) (c : Pa K) : Df K mg "is_store" s_is_store ["value"] := by
  obtain ⟨fd, F⟩ := fun_of (x := "is_store") (q := "is_store") (st := topS 27) (p := ("is_store", none)) c 6 rfl (keep_of c 6 rfl)
  exact ⟨_, fd, F, F.binds (fun _ _ _ _ _ _ us hl => match us, hl with | [_], _ => rfl), F.kp, glo_of X G c 6 rfl⟩
theorem df_is_heap (X : K.In h) (G : h.Ns mainGlobals mg) (c : Pa K) : Df K mg "is_heap" s_is_heap ["value"] := by
  obtain ⟨fd, F⟩ := fun_of (x := "is_heap") (q := "is_heap") (st := topS 28) (p := ("is_heap", none)) c 7 rfl (keep_of c 7 rfl)
  exact ⟨_, fd, F, F.binds (fun _ _ _ _ _ _ us hl => match us, hl with | [_], _ => rfl), F.kp, glo_of X G c 7 rfl⟩
theorem df_need_state (X : K.In h) (G : h.Ns mainGlobals mg) (c : Pa K) : Df K mg "need_state" s_need_state ["what", "value"] := by
  obtain ⟨fd, F⟩ := fun_of (x := "need_state") (q := "need_state") (st := topS 29) (p := ("need_state", none)) c 8 rfl (keep_of c 8 rfl)
  exact ⟨_, fd, F, F.binds (fun _ _ _ _ _ _ us hl => match us, hl with | [_, _], _ => rfl), F.kp, glo_of X G c 8 rfl⟩
theorem df_need_address (X : K.In h) (G : h.Ns mainGlobals mg) (c : Pa K) : Df K mg "need_address" s_need_address ["address"] := by
  obtain ⟨fd, F⟩ := fun_of (x := "need_address") (q := "need_address") (st := topS 30) (p := ("need_address", none)) c 9 rfl (keep_of c 9 rfl)
  exact ⟨_, fd, F, F.binds (fun _ _ _ _ _ _ us hl => match us, hl with | [_], _ => rfl), F.kp, glo_of X G c 9 rfl⟩
theorem df_need_value (X : K.In h) (G : h.Ns mainGlobals mg) (c : Pa K) : Df K mg "need_value" s_need_value ["value"] := by
  obtain ⟨fd, F⟩ := fun_of (x := "need_value") (q := "need_value") (st := topS 31) (p := ("need_value", none)) c 10 rfl (keep_of c 10 rfl)
  exact ⟨_, fd, F, F.binds (fun _ _ _ _ _ _ us hl => match us, hl with | [_], _ => rfl), F.kp, glo_of X G c 10 rfl⟩
theorem df_stored (X : K.In h) (G : h.Ns mainGlobals mg) (c : Pa K) : Df K mg "stored" s_stored ["state", "name", "value"] := by
  obtain ⟨fd, F⟩ := fun_of (x := "stored") (q := "stored") (st := topS 32) (p := ("stored", none)) c 11 rfl (keep_of c 11 rfl)
  exact ⟨_, fd, F, F.binds (fun _ _ _ _ _ _ us hl => match us, hl with | [_, _, _], _ => rfl), F.kp, glo_of X G c 11 rfl⟩
theorem df_with_value (X : K.In h) (G : h.Ns mainGlobals mg) (c : Pa K) : Df K mg "with_value" s_with_value ["state", "name", "value"] := by
  obtain ⟨fd, F⟩ := fun_of (x := "with_value") (q := "with_value") (st := topS 33) (p := ("with_value", none)) c 12 rfl (keep_of c 12 rfl)
  exact ⟨_, fd, F, F.binds (fun _ _ _ _ _ _ us hl => match us, hl with | [_, _, _], _ => rfl), F.kp, glo_of X G c 12 rfl⟩
theorem df_with_cell (X : K.In h) (G : h.Ns mainGlobals mg) (c : Pa K) : Df K mg "with_cell" s_with_cell ["state", "address", "value"] := by
  obtain ⟨fd, F⟩ := fun_of (x := "with_cell") (q := "with_cell") (st := topS 34) (p := ("with_cell", none)) c 13 rfl (keep_of c 13 rfl)
  exact ⟨_, fd, F, F.binds (fun _ _ _ _ _ _ us hl => match us, hl with | [_, _, _], _ => rfl), F.kp, glo_of X G c 13 rfl⟩
theorem df_without_cell (X : K.In h) (G : h.Ns mainGlobals mg) (c : Pa K) : Df K mg "without_cell" s_without_cell ["state", "address"] := by
  obtain ⟨fd, F⟩ := fun_of (x := "without_cell") (q := "without_cell") (st := topS 35) (p := ("without_cell", none)) c 14 rfl (keep_of c 14 rfl)
  exact ⟨_, fd, F, F.binds (fun _ _ _ _ _ _ us hl => match us, hl with | [_, _], _ => rfl), F.kp, glo_of X G c 14 rfl⟩
theorem df_values_by (X : K.In h) (G : h.Ns mainGlobals mg) (c : Pa K) : Df K mg "values_by" s_values_by ["state"] := by
  obtain ⟨fd, F⟩ := fun_of (x := "values_by") (q := "values_by") (st := topS 36) (p := ("values_by", none)) c 15 rfl (keep_of c 15 rfl)
  exact ⟨_, fd, F, F.binds (fun _ _ _ _ _ _ us hl => match us, hl with | [_], _ => rfl), F.kp, glo_of X G c 15 rfl⟩
theorem df_part_by (X : K.In h) (G : h.Ns mainGlobals mg) (c : Pa K) : Df K mg "part_by" s_part_by ["state", "addresses"] := by
  obtain ⟨fd, F⟩ := fun_of (x := "part_by") (q := "part_by") (st := topS 37) (p := ("part_by", none)) c 16 rfl (keep_of c 16 rfl)
  exact ⟨_, fd, F, F.binds (fun _ _ _ _ _ _ us hl => match us, hl with | [_, _], _ => rfl), F.kp, glo_of X G c 16 rfl⟩
theorem df_heap_part (X : K.In h) (G : h.Ns mainGlobals mg) (c : Pa K) : Df K mg "heap_part" s_heap_part ["state", "addresses"] := by
  obtain ⟨fd, F⟩ := fun_of (x := "heap_part") (q := "heap_part") (st := topS 38) (p := ("heap_part", none)) c 17 rfl (keep_of c 17 rfl)
  exact ⟨_, fd, F, F.binds (fun _ _ _ _ _ _ us hl => match us, hl with | [_, _], _ => rfl), F.kp, glo_of X G c 17 rfl⟩
theorem df_joined_states (X : K.In h) (G : h.Ns mainGlobals mg) (c : Pa K) : Df K mg "joined_states" s_joined_states ["one", "other"] := by
  obtain ⟨fd, F⟩ := fun_of (x := "joined_states") (q := "joined_states") (st := topS 39) (p := ("joined_states", none)) c 18 rfl (keep_of c 18 rfl)
  exact ⟨_, fd, F, F.binds (fun _ _ _ _ _ _ us hl => match us, hl with | [_, _], _ => rfl), F.kp, glo_of X G c 18 rfl⟩
theorem df_are_images (X : K.In h) (G : h.Ns mainGlobals mg) (c : Pa K) : Df K mg "are_images" s_are_images ["state", "value"] := by
  obtain ⟨fd, F⟩ := fun_of (x := "are_images") (q := "are_images") (st := topS 40) (p := ("are_images", none)) c 19 rfl (keep_of c 19 rfl)
  exact ⟨_, fd, F, F.binds (fun _ _ _ _ _ _ us hl => match us, hl with | [_, _], _ => rfl), F.kp, glo_of X G c 19 rfl⟩
theorem df_moved_by (X : K.In h) (G : h.Ns mainGlobals mg) (c : Pa K) : Df K mg "moved_by" s_moved_by ["state", "images"] := by
  obtain ⟨fd, F⟩ := fun_of (x := "moved_by") (q := "moved_by") (st := topS 41) (p := ("moved_by", none)) c 20 rfl (keep_of c 20 rfl)
  exact ⟨_, fd, F, F.binds (fun _ _ _ _ _ _ us hl => match us, hl with | [_, _], _ => rfl), F.kp, glo_of X G c 20 rfl⟩
theorem df_moved_state (X : K.In h) (G : h.Ns mainGlobals mg) (c : Pa K) : Df K mg "moved_state" s_moved_state ["state", "images"] := by
  obtain ⟨fd, F⟩ := fun_of (x := "moved_state") (q := "moved_state") (st := topS 42) (p := ("moved_state", none)) c 21 rfl (keep_of c 21 rfl)
  exact ⟨_, fd, F, F.binds (fun _ _ _ _ _ _ us hl => match us, hl with | [_, _], _ => rfl), F.kp, glo_of X G c 21 rfl⟩
theorem df__law_pen (X : K.In h) (G : h.Ns mainGlobals mg) (c : Pa K) : Df K mg "_law_pen" s__law_pen ["script"] := by
  obtain ⟨fd, F⟩ := fun_of (x := "_law_pen") (q := "_law_pen") (st := topS 44) (p := ("_law_pen", none)) c 22 rfl (keep_of c 22 rfl)
  exact ⟨_, fd, F, F.binds (fun _ _ _ _ _ _ us hl => match us, hl with | [_], _ => rfl), F.kp, glo_of X G c 22 rfl⟩
theorem df__law_draw (X : K.In h) (G : h.Ns mainGlobals mg) (c : Pa K) : Df K mg "_law_draw" s__law_draw ["pen", "many"] := by
  obtain ⟨fd, F⟩ := fun_of (x := "_law_draw") (q := "_law_draw") (st := topS 45) (p := ("_law_draw", none)) c 23 rfl (keep_of c 23 rfl)
  exact ⟨_, fd, F, F.binds (fun _ _ _ _ _ _ us hl => match us, hl with | [_, _], _ => rfl), F.kp, glo_of X G c 23 rfl⟩
theorem df__law_pick (X : K.In h) (G : h.Ns mainGlobals mg) (c : Pa K) : Df K mg "_law_pick" s__law_pick ["pen", "some"] := by
  obtain ⟨fd, F⟩ := fun_of (x := "_law_pick") (q := "_law_pick") (st := topS 46) (p := ("_law_pick", none)) c 24 rfl (keep_of c 24 rfl)
  exact ⟨_, fd, F, F.binds (fun _ _ _ _ _ _ us hl => match us, hl with | [_, _], _ => rfl), F.kp, glo_of X G c 24 rfl⟩
theorem df__law_shuffled (X : K.In h) (G : h.Ns mainGlobals mg) (c : Pa K) : Df K mg "_law_shuffled" s__law_shuffled ["pen", "some"] := by
  obtain ⟨fd, F⟩ := fun_of (x := "_law_shuffled") (q := "_law_shuffled") (st := topS 47) (p := ("_law_shuffled", none)) c 25 rfl (keep_of c 25 rfl)
  exact ⟨_, fd, F, F.binds (fun _ _ _ _ _ _ us hl => match us, hl with | [_, _], _ => rfl), F.kp, glo_of X G c 25 rfl⟩
theorem df__law_is (X : K.In h) (G : h.Ns mainGlobals mg) (c : Pa K) : Df K mg "_law_is" s__law_is ["told", "due"] := by
  obtain ⟨fd, F⟩ := fun_of (x := "_law_is") (q := "_law_is") (st := topS 48) (p := ("_law_is", none)) c 26 rfl (keep_of c 26 rfl)
  exact ⟨_, fd, F, F.binds (fun _ _ _ _ _ _ us hl => match us, hl with | [_, _], _ => rfl), F.kp, glo_of X G c 26 rfl⟩
theorem df__law_caught (X : K.In h) (G : h.Ns mainGlobals mg) (c : Pa K) : Df K mg "_law_caught" s__law_caught ["action"] := by
  obtain ⟨fd, F⟩ := fun_of (x := "_law_caught") (q := "_law_caught") (st := topS 49) (p := ("_law_caught", none)) c 27 rfl (keep_of c 27 rfl)
  exact ⟨_, fd, F, F.binds (fun _ _ _ _ _ _ us hl => match us, hl with | [_], _ => rfl), F.kp, glo_of X G c 27 rfl⟩
theorem df__law_raise_so (X : K.In h) (G : h.Ns mainGlobals mg) (c : Pa K) : Df K mg "_law_raise_so" s__law_raise_so ["calls"] := by
  obtain ⟨fd, F⟩ := fun_of (x := "_law_raise_so") (q := "_law_raise_so") (st := topS 50) (p := ("_law_raise_so", none)) c 28 rfl (keep_of c 28 rfl)
  exact ⟨_, fd, F, F.binds (fun _ _ _ _ _ _ us hl => match us, hl with | [_], _ => rfl), F.kp, glo_of X G c 28 rfl⟩
theorem df__law_unlike (X : K.In h) (G : h.Ns mainGlobals mg) (c : Pa K) : Df K mg "_law_unlike" s__law_unlike ["row"] := by
  obtain ⟨fd, F⟩ := fun_of (x := "_law_unlike") (q := "_law_unlike") (st := topS 51) (p := ("_law_unlike", none)) c 29 rfl (keep_of c 29 rfl)
  exact ⟨_, fd, F, F.binds (fun _ _ _ _ _ _ us hl => match us, hl with | [_], _ => rfl), F.kp, glo_of X G c 29 rfl⟩
theorem df__law_values (X : K.In h) (G : h.Ns mainGlobals mg) (c : Pa K) : Df K mg "_law_values" s__law_values ["state"] := by
  obtain ⟨fd, F⟩ := fun_of (x := "_law_values") (q := "_law_values") (st := topS 52) (p := ("_law_values", none)) c 30 rfl (keep_of c 30 rfl)
  exact ⟨_, fd, F, F.binds (fun _ _ _ _ _ _ us hl => match us, hl with | [_], _ => rfl), F.kp, glo_of X G c 30 rfl⟩
theorem df__law_content (X : K.In h) (G : h.Ns mainGlobals mg) (c : Pa K) : Df K mg "_law_content" s__law_content ["heap", "address"] := by
  obtain ⟨fd, F⟩ := fun_of (x := "_law_content") (q := "_law_content") (st := topS 53) (p := ("_law_content", none)) c 31 rfl (keep_of c 31 rfl)
  exact ⟨_, fd, F, F.binds (fun _ _ _ _ _ _ us hl => match us, hl with | [_, _], _ => rfl), F.kp, glo_of X G c 31 rfl⟩
theorem df__law_drawn_names (X : K.In h) (G : h.Ns mainGlobals mg) (c : Pa K) : Df K mg "_law_drawn_names" s__law_drawn_names ["pen", "most"] := by
  obtain ⟨fd, F⟩ := fun_of (x := "_law_drawn_names") (q := "_law_drawn_names") (st := topS 54) (p := ("_law_drawn_names", none)) c 32 rfl (keep_of c 32 rfl)
  exact ⟨_, fd, F, F.binds (fun _ _ _ _ _ _ us hl => match us, hl with | [_, _], _ => rfl), F.kp, glo_of X G c 32 rfl⟩
theorem df__law_drawn_state (X : K.In h) (G : h.Ns mainGlobals mg) (c : Pa K) : Df K mg "_law_drawn_state" s__law_drawn_state ["pen", "names", "cells"] := by
  obtain ⟨fd, F⟩ := fun_of (x := "_law_drawn_state") (q := "_law_drawn_state") (st := topS 55) (p := ("_law_drawn_state", none)) c 33 rfl (keep_of c 33 rfl)
  exact ⟨_, fd, F, F.binds (fun _ _ _ _ _ _ us hl => match us, hl with | [_, _, _], _ => rfl), F.kp, glo_of X G c 33 rfl⟩
theorem df__law_state (X : K.In h) (G : h.Ns mainGlobals mg) (c : Pa K) : Df K mg "_law_state" s__law_state ["state"] := by
  obtain ⟨fd, F⟩ := fun_of (x := "_law_state") (q := "_law_state") (st := topS 56) (p := ("_law_state", none)) c 34 rfl (keep_of c 34 rfl)
  exact ⟨_, fd, F, F.binds (fun _ _ _ _ _ _ us hl => match us, hl with | [_], _ => rfl), F.kp, glo_of X G c 34 rfl⟩
theorem df__law_plain_state (X : K.In h) (G : h.Ns mainGlobals mg) (c : Pa K) : Df K mg "_law_plain_state" s__law_plain_state ["told"] := by
  obtain ⟨fd, F⟩ := fun_of (x := "_law_plain_state") (q := "_law_plain_state") (st := topS 57) (p := ("_law_plain_state", none)) c 35 rfl (keep_of c 35 rfl)
  exact ⟨_, fd, F, F.binds (fun _ _ _ _ _ _ us hl => match us, hl with | [_], _ => rfl), F.kp, glo_of X G c 35 rfl⟩
theorem df__law_images (X : K.In h) (G : h.Ns mainGlobals mg) (c : Pa K) : Df K mg "_law_images" s__law_images ["pen", "state"] := by
  obtain ⟨fd, F⟩ := fun_of (x := "_law_images") (q := "_law_images") (st := topS 58) (p := ("_law_images", none)) c 36 rfl (keep_of c 36 rfl)
  exact ⟨_, fd, F, F.binds (fun _ _ _ _ _ _ us hl => match us, hl with | [_, _], _ => rfl), F.kp, glo_of X G c 36 rfl⟩
theorem df__law_refusals_right (X : K.In h) (G : h.Ns mainGlobals mg) (c : Pa K) (hd : PySem.W.codeHdIn K (He.cT K ("_law_refusals_right", none)).1 (He.cT K ("_law_refusals_right", none)).2 = true) : DfT K mg "_law_refusals_right" s__law_refusals_right ["pen", "made", "state"] (He.cT K ("_law_refusals_right", none)).1 := by
  obtain ⟨fd, F⟩ := fun_of (x := "_law_refusals_right") (q := "_law_refusals_right") (st := topS 59) (p := ("_law_refusals_right", none)) c 37 rfl (keep_of c 37 rfl)
  have b : L2.Binds K fd ["pen", "made", "state"] [] := F.binds (fun _ _ _ _ _ _ us hl => match us, hl with | [_, _, _], _ => rfl)
  obtain ⟨oc, od, kV, doc, pm, an, cdv, ct, osl, e, lk, hcd⟩ := F.ex
  obtain ⟨cc, ec⟩ := He.codeIn_ref hcd
  have e2 : fd.code = .ref cc := by rw [e]; exact ec
  have e3 : He.codeOf K ("_law_refusals_right", none) = cc := He.codeOf_eq lk e2
  exact ⟨_, fd, F, b, F.kp, glo_of X G c 37 rfl, by rw [e2, ← e3]; rfl⟩
theorem df_law (X : K.In h) (G : h.Ns mainGlobals mg) (c : Pa K) (hd : PySem.W.codeHdIn K (He.cT K ("law", none)).1 (He.cT K ("law", none)).2 = true) : DfT K mg "law" s_law ["script"] (He.cT K ("law", none)).1 := by
  obtain ⟨fd, F⟩ := fun_of (x := "law") (q := "law") (st := topS 60) (p := ("law", none)) c 38 rfl (keep_of c 38 rfl)
  have b : L2.Binds K fd ["script"] [] := F.binds (fun _ _ _ _ _ _ us hl => match us, hl with | [_], _ => rfl)
  obtain ⟨oc, od, kV, doc, pm, an, cdv, ct, osl, e, lk, hcd⟩ := F.ex
  obtain ⟨cc, ec⟩ := He.codeIn_ref hcd
  have e2 : fd.code = .ref cc := by rw [e]; exact ec
  have e3 : He.codeOf K ("law", none) = cc := He.codeOf_eq lk e2
  exact ⟨_, fd, F, b, F.kp, glo_of X G c 38 rfl, by rw [e2, ← e3]; rfl⟩
end
section
variable {P : Program} {w : World} {K : PySem.W.Frag} {h base : Heap} {mg : Str → Option Value}
theorem xc_BadName (X : K.In h) (G : h.Ns mainGlobals mg) (c : Pa K) : XC P w K mg base "BadName" (cAt K 0) ["self", "name"] (spI1 (cAt K 0) "name") := by
  have C := c.cl 0 (by decide)
  obtain ⟨fd, F⟩ := fun_of (x := "__init__") (q := "BadName.__init__") (st := s_BadName_init) (p := ("BadName", some "__init__")) c 39 rfl C.kI
  exact ⟨C.T, glo_of X G c 39 rfl, iAt K 0, fd, C.iC, C.tI, ok_BadName F (he_of X G c).1 C.T (C.no "name" (by decide)), F.binds (fun _ _ _ _ _ _ us hl => match us, hl with | [_, _], _ => rfl)⟩
theorem xc_BadNumber (X : K.In h) (G : h.Ns mainGlobals mg) (c : Pa K) : XC P w K mg base "BadNumber" (cAt K 1) ["self", "what", "number"] (spI2 (cAt K 1) "what" "number") := by
  have C := c.cl 1 (by decide)
  obtain ⟨fd, F⟩ := fun_of (x := "__init__") (q := "BadNumber.__init__") (st := s_BadNumber_init) (p := ("BadNumber", some "__init__")) c 40 rfl C.kI
  exact ⟨C.T, glo_of X G c 40 rfl, iAt K 1, fd, C.iC, C.tI, ok_BadNumber F (he_of X G c).1 C.T (C.no "what" (by decide)) (C.no "number" (by decide)), F.binds (fun _ _ _ _ _ _ us hl => match us, hl with | [_, _, _], _ => rfl)⟩
theorem xc_BadRow (X : K.In h) (G : h.Ns mainGlobals mg) (c : Pa K) : XC P w K mg base "BadRow" (cAt K 2) ["self", "what", "row"] (spI2 (cAt K 2) "what" "row") := by
  have C := c.cl 2 (by decide)
  obtain ⟨fd, F⟩ := fun_of (x := "__init__") (q := "BadRow.__init__") (st := s_BadRow_init) (p := ("BadRow", some "__init__")) c 41 rfl C.kI
  exact ⟨C.T, glo_of X G c 41 rfl, iAt K 2, fd, C.iC, C.tI, ok_BadRow F (he_of X G c).1 C.T (C.no "what" (by decide)) (C.no "row" (by decide)), F.binds (fun _ _ _ _ _ _ us hl => match us, hl with | [_, _, _], _ => rfl)⟩
theorem xc_NoName (X : K.In h) (G : h.Ns mainGlobals mg) (c : Pa K) : XC P w K mg base "NoName" (cAt K 3) ["self", "name"] (spI1 (cAt K 3) "name") := by
  have C := c.cl 3 (by decide)
  obtain ⟨fd, F⟩ := fun_of (x := "__init__") (q := "NoName.__init__") (st := s_NoName_init) (p := ("NoName", some "__init__")) c 42 rfl C.kI
  exact ⟨C.T, glo_of X G c 42 rfl, iAt K 3, fd, C.iC, C.tI, ok_NoName F (he_of X G c).1 C.T (C.no "name" (by decide)), F.binds (fun _ _ _ _ _ _ us hl => match us, hl with | [_, _], _ => rfl)⟩
theorem xc_TakenName (X : K.In h) (G : h.Ns mainGlobals mg) (c : Pa K) : XC P w K mg base "TakenName" (cAt K 4) ["self", "name"] (spI1 (cAt K 4) "name") := by
  have C := c.cl 4 (by decide)
  obtain ⟨fd, F⟩ := fun_of (x := "__init__") (q := "TakenName.__init__") (st := s_TakenName_init) (p := ("TakenName", some "__init__")) c 43 rfl C.kI
  exact ⟨C.T, glo_of X G c 43 rfl, iAt K 4, fd, C.iC, C.tI, ok_TakenName F (he_of X G c).1 C.T (C.no "name" (by decide)), F.binds (fun _ _ _ _ _ _ us hl => match us, hl with | [_, _], _ => rfl)⟩
theorem xc_TooMany (X : K.In h) (G : h.Ns mainGlobals mg) (c : Pa K) : XC P w K mg base "TooMany" (cAt K 5) ["self", "what", "many", "limit"] (spI3 (cAt K 5) "what" "many" "limit") := by
  have C := c.cl 5 (by decide)
  obtain ⟨fd, F⟩ := fun_of (x := "__init__") (q := "TooMany.__init__") (st := s_TooMany_init) (p := ("TooMany", some "__init__")) c 44 rfl C.kI
  exact ⟨C.T, glo_of X G c 44 rfl, iAt K 5, fd, C.iC, C.tI, ok_TooMany F (he_of X G c).1 C.T (C.no "what" (by decide)) (C.no "many" (by decide)) (C.no "limit" (by decide)), F.binds (fun _ _ _ _ _ _ us hl => match us, hl with | [_, _, _, _], _ => rfl)⟩
theorem xc_Unlike (X : K.In h) (G : h.Ns mainGlobals mg) (c : Pa K) : XC P w K mg base "Unlike" (cAt K 6) ["self", "what"] (spI1 (cAt K 6) "what") := by
  have C := c.cl 6 (by decide)
  obtain ⟨fd, F⟩ := fun_of (x := "__init__") (q := "Unlike.__init__") (st := s_Unlike_init) (p := ("Unlike", some "__init__")) c 45 rfl C.kI
  exact ⟨C.T, glo_of X G c 45 rfl, iAt K 6, fd, C.iC, C.tI, ok_Unlike F (he_of X G c).1 C.T (C.no "what" (by decide)), F.binds (fun _ _ _ _ _ _ us hl => match us, hl with | [_, _], _ => rfl)⟩
theorem xc_BadText (X : K.In h) (G : h.Ns mainGlobals mg) (c : Pa K) : XC P w K mg base "BadText" (cAt K 7) ["self", "line", "word"] (spI2 (cAt K 7) "line" "word") := by
  have C := c.cl 7 (by decide)
  obtain ⟨fd, F⟩ := fun_of (x := "__init__") (q := "BadText.__init__") (st := s_BadText_init) (p := ("BadText", some "__init__")) c 46 rfl C.kI
  exact ⟨C.T, glo_of X G c 46 rfl, iAt K 7, fd, C.iC, C.tI, ok_BadText F (he_of X G c).1 C.T (C.no "line" (by decide)) (C.no "word" (by decide)), F.binds (fun _ _ _ _ _ _ us hl => match us, hl with | [_, _, _], _ => rfl)⟩
def Tall (K : PySem.W.Frag) : List (Addr × Str) := lamT "_law_refusals_right" (He.cT K ("_law_refusals_right", none)).2 ++ lamT "law" (He.cT K ("law", none)).2
theorem law_gz (X : K.In h) (G : h.Ns mainGlobals mg) (c : Pa K) (hd__law_refusals_right : PySem.W.codeHdIn K (He.cT K ("_law_refusals_right", none)).1 (He.cT K ("_law_refusals_right", none)).2 = true) (TB__law_refusals_right : TabB base mg (He.cT K ("_law_refusals_right", none)).1 (He.cT K ("_law_refusals_right", none)).2) (hd_law : PySem.W.codeHdIn K (He.cT K ("law", none)).1 (He.cT K ("law", none)).2 = true) (TB_law : TabB base mg (He.cT K ("law", none)).1 (He.cT K ("law", none)).2) : Gz P w K mg base 13 "law" ["script"] (spLaw2 K (Tall K)) := by
  have B := bi_of X G c
  have W := ws_of X G c
  have k_State := kl_State X G c
  have hdi : [(He.cT K ("_law_refusals_right", none)).2, (He.cT K ("law", none)).2].Nodup := of_decide_eq_true c.di
  have ne_0_1 : (He.cT K ("_law_refusals_right", none)).2 ≠ (He.cT K ("law", none)).2 := fun z => (List.nodup_cons.mp hdi).1 (by rw [z]; exact List.mem_cons_self)
  have x_BadName : XC P w K mg base "BadName" (cAt K 0) _ _ := xc_BadName X G c
  have x_BadNumber : XC P w K mg base "BadNumber" (cAt K 1) _ _ := xc_BadNumber X G c
  have x_BadRow : XC P w K mg base "BadRow" (cAt K 2) _ _ := xc_BadRow X G c
  have x_NoName : XC P w K mg base "NoName" (cAt K 3) _ _ := xc_NoName X G c
  have x_TakenName : XC P w K mg base "TakenName" (cAt K 4) _ _ := xc_TakenName X G c
  have x_TooMany : XC P w K mg base "TooMany" (cAt K 5) _ _ := xc_TooMany X G c
  have x_Unlike : XC P w K mg base "Unlike" (cAt K 6) _ _ := xc_Unlike X G c
  have x_BadText : XC P w K mg base "BadText" (cAt K 7) _ _ := xc_BadText X G c
  have hu__law_refusals_right : ∀ q ∈ Tall K, q.1 = (He.cT K ("_law_refusals_right", none)).2 → q.2 = (("_law_refusals_right" : Str) ++ ".<locals>.") ++ "<lambda>" := by
    intro q hq e
    simp only [Tall, lamT, List.mem_append, List.mem_cons, List.not_mem_nil, or_false] at hq
    rcases hq with rfl | rfl
    · rfl
    · exact absurd e.symm ne_0_1
  have hu_law : ∀ q ∈ Tall K, q.1 = (He.cT K ("law", none)).2 → q.2 = (("law" : Str) ++ ".<locals>.") ++ "<lambda>" := by
    intro q hq e
    simp only [Tall, lamT, List.mem_append, List.mem_cons, List.not_mem_nil, or_false] at hq
    rcases hq with rfl | rfl
    · exact absurd e ne_0_1
    · rfl
  have g__law_pen := gv_pen (P := P) (w := w) (base := base) B (df__law_pen X G c)
  have g__law_draw := gv_draw (P := P) (w := w) (base := base) B (df__law_draw X G c)
  have g__law_pick := gv_pick (P := P) (w := w) (base := base) B g__law_draw (df__law_pick X G c)
  have g_is_plain_name := ok_is_plain_name (P := P) (w := w) (base := base) B W.toWT (df_is_plain_name X G c)
  have g_rising := ok_rising (P := P) (w := w) (base := base) B (df_rising X G c)
  have g_is_whole := ok_is_whole (P := P) (w := w) (base := base) B (df_is_whole X G c)
  have g_is_number := ok_is_number (P := P) (w := w) (base := base) B g_is_whole (df_is_number X G c)
  have g_is_value := ok_is_value (P := P) (w := w) (base := base) B W g_is_number (df_is_value X G c)
  have g_is_address := ok_is_address (P := P) (w := w) (base := base) B W g_is_whole (df_is_address X G c)
  have g_is_store := ok_is_store (P := P) (w := w) (base := base) B W g_is_plain_name g_is_value g_rising (df_is_store X G c)
  have g_is_heap := ok_is_heap (P := P) (w := w) (base := base) B W g_is_address g_is_value g_rising (df_is_heap X G c)
  have F_keep_State_init : PySem.W.keepIn K (.ref (He.fAd K ("State", some "__init__"))) = true := (me_State__init__ c).kp
  obtain ⟨fd_State_init, F_State_init⟩ := fun_of (x := "__init__") (q := "State.__init__") (st := s_State_init) (p := ("State", some "__init__")) c 47 rfl F_keep_State_init
  have f_State_init := ok_State_init (P := P) (w := w) (base := base) B g_is_store g_is_heap k_State x_BadRow F_State_init
  have b_State_init : L2.Binds K fd_State_init ["self", "store", "heap"] [] := F_State_init.binds (fun _ _ _ _ _ _ us hl => match us, hl with | [_, _, _], _ => rfl)
  have m_State : Mkr P w K mg base (L2.CX P w) 5 "State" (He.ga K "State") _ _ := ⟨k_State.g, _, _, mk_State c, f_State_init, b_State_init⟩
  have F_keep_State_eq : PySem.W.keepIn K (.ref (He.fAd K ("State", some "__eq__"))) = true := (me_State__eq__ c).kp
  obtain ⟨fd_State_eq, F_State_eq⟩ := fun_of (x := "__eq__") (q := "State.__eq__") (st := s_State_eq) (p := ("State", some "__eq__")) c 48 rfl F_keep_State_eq
  have f_State_eq := ok_State_eq (P := P) (w := w) (base := base) B k_State F_State_eq
  have b_State_eq : L2.Binds K fd_State_eq ["self", "other"] [] := F_State_eq.binds (fun _ _ _ _ _ _ us hl => match us, hl with | [_, _], _ => rfl)
  have o_eq : Oe P w K mg base 1 (He.ga K "State") "__eq__" _ := ⟨_, _, _, (me_State__eq__ c).at_, (me_State__eq__ c).fn, f_State_eq, b_State_eq⟩
  have F_keep_State_ne : PySem.W.keepIn K (.ref (He.fAd K ("State", some "__ne__"))) = true := (me_State__ne__ c).kp
  obtain ⟨fd_State_ne, F_State_ne⟩ := fun_of (x := "__ne__") (q := "State.__ne__") (st := s_State_ne) (p := ("State", some "__ne__")) c 49 rfl F_keep_State_ne
  have f_State_ne := ok_State_ne (P := P) (w := w) (base := base) B k_State o_eq F_State_ne
  have b_State_ne : L2.Binds K fd_State_ne ["self", "other"] [] := F_State_ne.binds (fun _ _ _ _ _ _ us hl => match us, hl with | [_, _], _ => rfl)
  have o_ne : Oe P w K mg base 2 (He.ga K "State") "__ne__" _ := ⟨_, _, _, (me_State__ne__ c).at_, (me_State__ne__ c).fn, f_State_ne, b_State_ne⟩
  have g_need_state := ok_need_state (P := P) (w := w) (base := base) B k_State x_BadRow (df_need_state X G c)
  have g_need_address := ok_need_address (P := P) (w := w) (base := base) B g_is_address x_BadNumber (df_need_address X G c)
  have g_values_by := ok_values_by (P := P) (w := w) (base := base) B k_State (df_values_by X G c)
  have g__law_unlike := ok_unlike (P := P) (w := w) (base := base) B (df__law_unlike X G c)
  have g__law_is3 := ok_law_is (P := P) (w := w) (base := base) B (df__law_is X G c) 3
  have g__law_content := ok_law_content (P := P) (w := w) (base := base) B (df__law_content X G c)
  have g__law_values := ok_law_values (P := P) (w := w) (base := base) B g__law_unlike (df__law_values X G c)
  have g__law_plain_state := ok_plain_state (P := P) (w := w) (base := base) B k_State (df__law_plain_state X G c)
  have g__law_shuffled := ok_shuffled (P := P) (w := w) (base := base) B g__law_draw (df__law_shuffled X G c)
  have g__law_drawn_names := ok_drawn_names (P := P) (w := w) (base := base) B g__law_draw g__law_pick g__law_unlike (df__law_drawn_names X G c)
  have g__law_drawn_state := ok_drawn_state (P := P) (w := w) (base := base) B g__law_draw g__law_pick g__law_unlike g__law_shuffled (df__law_drawn_state X G c)
  have g_need_value := ok_need_value (P := P) (w := w) (base := base) B g_is_value x_BadNumber (df_need_value X G c)
  have g_stored := ok_stored (P := P) (w := w) (base := base) B k_State m_State (df_stored X G c)
  have g_with_value := ok_with_value (P := P) (w := w) (base := base) B W k_State g_need_state g_is_plain_name g_need_value g_stored x_BadRow x_TooMany (df_with_value X G c)
  have g_with_cell := ok_with_cell (P := P) (w := w) (base := base) B W k_State m_State g_need_state g_need_address g_need_value x_TooMany (df_with_cell X G c)
  have g_without_cell := ok_without_cell (P := P) (w := w) (base := base) B k_State m_State g_need_state g_need_address x_Unlike (df_without_cell X G c)
  have g_risingT := ok_risingT (P := P) (w := w) (base := base) B (df_rising X G c)
  have g_part_by := ok_part_by (P := P) (w := w) (base := base) B k_State m_State (df_part_by X G c)
  have g_heap_part := ok_heap_part (P := P) (w := w) (base := base) B k_State g_need_state g_is_address g_risingT g_part_by x_BadRow (df_heap_part X G c)
  have g_joined_states := ok_joined_states (P := P) (w := w) (base := base) B W k_State m_State g_need_state x_Unlike x_TooMany (df_joined_states X G c)
  have g_are_images := ok_are_images (P := P) (w := w) (base := base) B g_is_address g_rising g_values_by (df_are_images X G c)
  have g_moved_by := ok_moved_by (P := P) (w := w) (base := base) B k_State m_State (df_moved_by X G c)
  have g_moved_state := ok_moved_state (P := P) (w := w) (base := base) B g_need_state g_are_images g_moved_by x_BadRow (df_moved_state X G c)
  have g__law_images := ok_law_images (P := P) (w := w) (base := base) B g__law_draw g__law_unlike g__law_values (df__law_images X G c)
  have g__law_caught := ok_caughtP (k := 9) (P := P) (w := w) (base := base) B (kx_of X G c) (df__law_caught X G c)
  have g__law_raise_so := ok_raise_soP (P := P) (w := w) (base := base) B g__law_caught (df__law_raise_so X G c)
  have g__law_state := ok_law_stateG (P := P) (w := w) (base := base) B m_State (df__law_state X G c)
  have g__law_refusals_right := ok_refusals2 (T := Tall K) (P := P) (w := w) (base := base) B (rfl : cAt K 2 = cAt K 2) (rfl : cAt K 1 = cAt K 1) (rfl : cAt K 5 = cAt K 5) (rfl : cAt K 6 = cAt K 6) g__law_pick g__law_raise_so m_State g_with_value g_with_cell g_without_cell g_heap_part g_joined_states g_moved_state TB__law_refusals_right (List.mem_append_left _ List.mem_cons_self) hu__law_refusals_right (df__law_refusals_right X G c hd__law_refusals_right)
  exact ok_law2 (T := Tall K) B k_State g__law_pen g__law_pick g__law_draw g__law_drawn_names g__law_drawn_state g__law_is3 g__law_plain_state g__law_state g__law_content g__law_images o_eq o_ne g_with_value g_with_cell g_without_cell g_heap_part g_joined_states g_moved_state TB_law (List.mem_append_right _ List.mem_cons_self) hu_law g__law_refusals_right (df_law X G c hd_law)
end
end Kb.Hd
set_option Elab.async false
set_option linter.all false
set_option maxRecDepth 100000
set_option maxHeartbeats 4000000
namespace Kb.Hd
open PySem PySem.Spec PyProof.Rows L2 LamX
/-! ### the law's call: promises that speak of the very state, empty tables of code objects tracked -/
theorem tabs_nil {H : Hp} {x : Str} {tb : Addr} (h : H tb = some (.tbl #[])) : Tabs (lamT x tb) H := fun p hp => by
  rcases List.mem_cons.mp hp with rfl | hp
  · exact ⟨#[], h, True.intro, fun pos cv hc => nomatch (show (none : Option Value) = some cv from hc)⟩
  · cases hp
/-- neither a row of values nor an empty record -/
def solid : Data → Bool
  | .seq _ _ => false
  | .fields us => !us.isEmpty
  | _ => true
def noTab : Obj := { cls := .none, data := .fields #[] }
section
variable {P : Program} {w : World} {K : PySem.W.Frag} {mg mb : Str → Option Value} {k : Nat} {fa a : Addr} {cs : List (Addr × Addr)} {xl x : Str} {sp : SpZ} {s₁ : Shared} {vs : List Value} {ns : List Int}
/-- what is tracked at the start: the script, perhaps; the tables -/
inductive Trk (K : PySem.W.Frag) (cs : List (Addr × Addr)) (a b : Addr) : HO → Prop where
  | scr (o : Obj) (y : HO) (e : b = a) (n : K.lookup a = none) : Trk K cs a b (.frz o y)
  | tab (c : Addr) (m : (c, b) ∈ cs) : Trk K cs a b (.tbl #[])
theorem call_fromZ (KX : K.In s₁.heap) (hns : s₁.heap.Ns mainGlobals mg) (hb : s₁.heap.Ns builtinsNs mb) (hbb : ∀ x : Str, x ≠ "__name__" → mb x = bootBuiltins x) (hlim : s₁.heap.NoLimit) (hg : s₁.gens = #[])
    (empt : ∀ c b, (c, b) ∈ cs → s₁.heap.get? b = some noTab) (outK : ∀ c b, (c, b) ∈ cs → K.lookup b = none) (head : ∀ c b, (c, b) ∈ cs → PySem.W.codeHdIn K c b = true)
    (hbm : ∃ (bm : Addr) (ob : Obj), mg "__builtins__" = some (.ref bm) ∧ bm ≠ builtinsNs ∧ s₁.heap.get? bm = some ob ∧ ob.cls = .type "module" ∧ ob.dict = some builtinsNs ∧ ob.data = .plain)
    (ha : s₁.heap.get? a = some { cls := .type "list", data := .seq vs.toArray }) (hr : Room k callerA) (hfa : mg xl = some (.ref fa))
    (F : ∀ base : Heap, K.In base → base.Ns mainGlobals mg → (∀ c b, (c, b) ∈ cs → TabB base mg c b) → Gz P w K mg base k xl [x] sp)
    {H : Hp} (hsp : sp s₁ (frs []) [.ref a] H (fun v _ => v = .bl true)) (hok : HOk P w H s₁.heap) (hA : ∀ b u, H b = some u → Trk K cs a b u) :
    codeAny (model P w) callerA (.call (.ref fa) ⟨[.ref a], []⟩) (fun r s' => r = .ok (.ret (.bool true)) ∧ OldK s₁.heap s'.heap ∧ s'.os = s₁.os ∧ AllBare s'.gens) s₁ := by
  have off : ∀ {b : Addr} {o : Obj}, s₁.heap.get? b = some o → solid o.data = true → (hidT s₁.heap H).get? b = some o := fun {b o} e hs => hidT_get e (by
    cases q : H b with
    | none => rfl
    | some u =>
      cases hA b u q with
      | scr o1 y e1 n =>
        rw [e1, ha] at e
        cases e
        cases hs
      | tab c m =>
        rw [empt c b m] at e
        cases e
        cases hs)
  have nsB : ∀ {b : Addr} {m : Str → Option Value}, s₁.heap.Ns b m → (hidT s₁.heap H).Ns b m := fun {b m} ⟨o, es, ep, e, d, r⟩ => ⟨o, es, ep, off e (by rw [d]; rfl), d, r⟩
  have inB : K.In (hidT s₁.heap H) := fun b o e => hidT_get (KX b o e) (by
    cases q : H b with
    | none => rfl
    | some u =>
      cases hA b u q with
      | scr o1 y e1 n =>
        rw [e1, n] at e
        cases e
      | tab c m =>
        rw [outK c b m] at e
        cases e)
  have hM : L2.Mod K mg (hidT s₁.heap H) := ⟨inB, nsB hns, ⟨mb, nsB hb, hbb⟩, let ⟨mc, h1, h2⟩ := hlim; ⟨mc, nsB h1, h2⟩⟩
  have notG : ∀ {b : Addr} {o : Obj}, s₁.heap.get? b = some o → (∀ es n, o.data ≠ .dict es n) → b ≠ mainGlobals := fun {b o} e hd z => by
    obtain ⟨o2, es, ep, e2, d, _⟩ := hns
    rw [z, e2] at e
    cases e
    exact hd _ _ d
  have TB : ∀ c b, (c, b) ∈ cs → TabB (hidT s₁.heap H) mg c b := fun c b m => by
    obtain ⟨bm, ob, b1, b2, b3, b4, b5, b6⟩ := hbm
    have n2 : bm ≠ b := fun z => by
      rw [z, empt c b m] at b3
      cases b3
      cases b6
    exact NdefX.tabB_of_K inB (head c b m) ⟨bm, ob, b1, b2, notG b3 (fun es n z => by rw [b6] at z; cases z), n2, off b3 (by rw [b6]; rfl), b4, b5, b6⟩ (Ne.symm (notG (empt c b m) fun es n z => by cases z))
  have e0 : Env0 P w K mg (hidT s₁.heap H) callerA [] s₁ H := ⟨rfl, hM, fun b o e => of_hidT e, Nat.le_of_eq (hidT_size _ _), trivial, (fun b hb => absurd (show b ∈ ([] : List Addr) from hb) List.not_mem_nil), hok, .of_eq hg⟩
  obtain ⟨f, fd, FZ, bn, kp, hf⟩ := (F _ inB (nsB hns) TB).ex
  obtain rfl : f = fa := by
    rw [hfa] at hf
    cases hf
    rfl
  have bd : BindsTo s₁ fd ⟨[.ref a], []⟩ ([x].zip [.ref a]) := by
    have z := bn s₁ [.ref a] KX rfl
    rwa [List.append_nil] at z
  refine codeAny_mono (FZ.run callerA [] s₁ H ⟨[.ref a], []⟩ [.ref a] [.ref a] _ hr rfl e0 bd (.cons rfl .nil) hsp) fun r s' h => ?_
  cases r with
  | error e => exact False.elim h
  | ok fl =>
    cases fl with
    | next => exact False.elim h
    | brk => exact False.elim h
    | cont => exact False.elim h
    | ret u =>
      obtain ⟨v, H', os, bare, un, hok', rv, q⟩ := h
      obtain rfl : v = .bl true := q
      obtain rfl : u = Value.bool true := rv
      have old : ∀ b o, s₁.heap.get? b = some o → s'.heap.get? b = some o ∨ ∃ c more, (c, b) ∈ cs ∧ o = noTab ∧ s'.heap.get? b = some { cls := .none, data := .fields more } := fun b o e => by
        cases q : H b with
        | none => exact .inl (un.keep b o e q (fun z => nomatch (show b ∈ ([] : List Addr) from z)) (fun z => nomatch z))
        | some u =>
          cases hA b u q with
          | scr o1 y e1 n =>
            obtain ⟨z1, _⟩ := hok b _ q
            obtain ⟨z2, _⟩ := hok' b _ (un.frzs b o1 _ q)
            rw [e] at z1
            cases z1
            exact .inl z2
          | tab c m =>
            obtain ⟨more, z⟩ := un.tbls b #[] q
            rw [empt c b m] at e
            exact .inr ⟨c, _, m, (Option.some.inj e).symm, hok' b _ z⟩
      refine ⟨rfl, ⟨fun b o e => ?_, fun b o e => ?_⟩, os, bare⟩
      · rcases old b o e with z | ⟨c, more, m, rfl, z⟩
        · exact .inl z
        · exact .inr (.inl ⟨((PySem.W.codeHd_of_K KX (head c b m)).tab (empt c b m)).isCodeTable, rfl, #[], more, rfl, by rw [Array.empty_append]; exact z⟩)
      · rcases old b o e with z | ⟨c, more, m, _, z⟩ <;> exact ⟨_, z⟩
/-- the tables, and all that H has beside -/
def withT (cs : List (Addr × Addr)) (H : Hp) : Hp := fun b => match (cs.map (·.2)).contains b with
  | true => some (.tbl #[])
  | false => H b
theorem withT_in {H : Hp} {c b : Addr} (m : (c, b) ∈ cs) : withT cs H b = some (.tbl #[]) := by
  unfold withT
  rw [List.contains_iff_mem.mpr (List.mem_map.mpr ⟨_, m, rfl⟩)]
theorem withT_cases {H : Hp} {b : Addr} {u : HO} (h : withT cs H b = some u) : (u = .tbl #[] ∧ ∃ c, (c, b) ∈ cs) ∨ H b = some u := by
  unfold withT at h
  cases q : (cs.map (·.2)).contains b with
  | true =>
    rw [q] at h
    obtain ⟨⟨c, b'⟩, m, rfl⟩ := List.mem_map.mp (List.contains_iff_mem.mp q)
    exact .inl ⟨(Option.some.inj h).symm, c, m⟩
  | false =>
    rw [q] at h
    exact .inr h
theorem withT_out {H : Hp} {b : Addr} (n : ∀ c, (c, b) ∉ cs) : withT cs H b = H b := by
  unfold withT
  cases q : (cs.map (·.2)).contains b with
  | true =>
    obtain ⟨⟨c, b'⟩, m, rfl⟩ := List.mem_map.mp (List.contains_iff_mem.mp q)
    exact absurd m (n c)
  | false => rfl
theorem law_callZ (KX : K.In s₁.heap) (hns : s₁.heap.Ns mainGlobals mg) (hb : s₁.heap.Ns builtinsNs mb) (hbb : ∀ x : Str, x ≠ "__name__" → mb x = bootBuiltins x) (hlim : s₁.heap.NoLimit) (hg : s₁.gens = #[])
    (empt : ∀ c b, (c, b) ∈ cs → s₁.heap.get? b = some noTab) (outK : ∀ c b, (c, b) ∈ cs → K.lookup b = none) (head : ∀ c b, (c, b) ∈ cs → PySem.W.codeHdIn K c b = true)
    (hbm : ∃ (bm : Addr) (ob : Obj), mg "__builtins__" = some (.ref bm) ∧ bm ≠ builtinsNs ∧ s₁.heap.get? bm = some ob ∧ ob.cls = .type "module" ∧ ob.dict = some builtinsNs ∧ ob.data = .plain)
    (ha : s₁.heap.get? a = some { cls := .type "list", data := .seq vs.toArray }) (hi : IntsAre vs ns) (hl : ns.length ≤ sizeLine) (hr : Room k callerA) (hfa : mg xl = some (.ref fa))
    (F : ∀ base : Heap, K.In base → base.Ns mainGlobals mg → (∀ c b, (c, b) ∈ cs → TabB base mg c b) → Gz P w K mg base k xl [x] sp)
    (hsp : ∀ H : Hp, (∀ c b, (c, b) ∈ cs → H b = some (.tbl #[])) → SqL K H a (ns.map V.int) → sp s₁ (frs []) [.ref a] H (fun v _ => v = .bl true)) :
    codeAny (model P w) callerA (.call (.ref fa) ⟨[.ref a], []⟩) (fun r s' => r = .ok (.ret (.bool true)) ∧ OldK s₁.heap s'.heap ∧ s'.os = s₁.os ∧ AllBare s'.gens) s₁ := by
  have rv := vals_ints hi
  have aN : ∀ c, (c, a) ∉ cs := fun c m => by
    have z := empt c a m
    rw [ha] at z
    cases z
  have okT : ∀ (H : Hp) b u, (u = HO.tbl #[] ∧ ∃ c, (c, b) ∈ cs) → ObjOk P w H s₁.heap b u := fun H b u z => by
    obtain ⟨rfl, c, m⟩ := z
    exact empt c b m
  cases hk : K.lookup a with
  | some o =>
    have e := KX a o hk
    rw [ha] at e
    cases e
    refine call_fromZ KX hns hb hbb hlim hg empt outK head hbm ha hr hfa F (H := withT cs fun _ => none) (hsp _ (fun c b m => withT_in m) (.inr ⟨_, vs.toArray, _, hk, rfl, rfl, rfl, by rw [List.size_toArray, hi.length]; exact hl, by simpa using rv⟩)) (fun b u z => ?_) (fun b u z => ?_)
    · rcases withT_cases z with z | z
      · exact okT _ b u z
      · cases z
    · rcases withT_cases z with ⟨rfl, c, m⟩ | z
      · exact .tab c m
      · cases z
  | none =>
    have hS : withT cs (upd (fun _ => none) a (.frz { cls := .type "list", data := .seq vs.toArray } (.lst (ns.map V.int)))) a = some (.frz { cls := .type "list", data := .seq vs.toArray } (.lst (ns.map V.int))) := by
      rw [withT_out aN]
      exact upd_same
    have only : ∀ {b : Addr} {u : HO}, upd (fun _ => none) a (.frz { cls := .type "list", data := .seq vs.toArray } (.lst (ns.map V.int))) b = some u → b = a ∧ u = .frz { cls := .type "list", data := .seq vs.toArray } (.lst (ns.map V.int)) := fun {b u} z => by
      by_cases hba : b = a
      · rw [hba, upd_same] at z
        exact ⟨hba, (Option.some.inj z).symm⟩
      · rw [upd_ne hba] at z
        cases z
    refine call_fromZ KX hns hb hbb hlim hg empt outK head hbm ha hr hfa F (hsp _ (fun c b m => withT_in m) (.inl (.inr ⟨_, hS⟩))) (fun b u z => ?_) (fun b u z => ?_)
    · rcases withT_cases z with z | z
      · exact okT _ b u z
      · obtain ⟨rfl, rfl⟩ := only z
        exact ⟨ha, by rw [List.length_map]; exact hl, vs, _, rv, ha⟩
    · rcases withT_cases z with ⟨rfl, c, m⟩ | z
      · exact .tab c m
      · obtain ⟨rfl, rfl⟩ := only z
        exact .scr _ _ rfl hk
end
end Kb.Hd
set_option Elab.async false
set_option linter.all false
set_option maxRecDepth 100000
set_option maxHeartbeats 4000000
namespace Kb.Hd
open PySem PySem.Spec PyProof.Rows L2 LamX
theorem tabs_of {H : Hp} {T : List (Addr × Str)} (h : ∀ p ∈ T, H p.1 = some (.tbl #[])) : Tabs T H := fun p hp => ⟨#[], h p hp, True.intro, fun pos cv hc => nomatch (show (none : Option Value) = some cv from hc)⟩
theorem tall_of {K : PySem.W.Frag} {H : Hp} (h : ∀ c b, (c, b) ∈ tbs.map (He.cT K) → H b = some (.tbl #[])) : Tabs (Tall K) H := tabs_of fun p hp => by
  simp only [Tall, lamT, List.mem_append, List.mem_cons, List.not_mem_nil, or_false] at hp
  rcases hp with rfl | rfl
  · exact h _ _ (List.mem_map.mpr ⟨("_law_refusals_right", none), List.mem_cons_self, rfl⟩)
  · exact h _ _ (List.mem_map.mpr ⟨("law", none), (List.mem_cons_of_mem _ List.mem_cons_self), rfl⟩)
end Kb.Hd
open PySem PySem.W PySem.Calls PyProof.Rows
theorem PySem.Challenge.cw_heapshown_k02_whole_states_changed_holds : PySem.Challenge.rw_heapshown_k02_whole_states_changed.Holds := by
  w_on; o_law
  refine HandSHeadRun.head_any (r := OpenLaw.row PySem.Challenge.rw_heapshown_k02_whole_states_changed) (q := view (OpenLaw.row PySem.Challenge.rw_heapshown_k02_whole_states_changed).prog [60]) (H := Kb.Hd.hookK) (ob := Kb.Hd.ob) (M := 20000) (loose := Kb.Hd.loose) (d := HandSHeadRun.topDef (OpenLaw.row PySem.Challenge.rw_heapshown_k02_whole_states_changed).prog 60) (kwd := []) Kb.Hd.ob_eq
    (by kernel_rfl) (fun s => by kernel_rfl) Kb.Hd.run (by kernel_rfl) (by kernel_rfl) (by kernel_rfl) (by rfl) (by first | assumption | decide +kernel) (by decide +kernel) ⟨rfl, rfl, rfl, rfl, rfl, by decide +kernel⟩ ?hw ?hc
  case hw => w_witness2
  case hc =>
    refine Att.attach_call (n := 63) rfl (by kernel_rfl) fun w s₀ s₁ mg mb fa o pm cd doc a vs ns G Y ho hd hcd hmg0 hobj hints hlen hg => ?_
    obtain ⟨K, S⟩ := Y
    have hmg : mg ("law" : PySem.Str) = some (.ref fa) := by
      have e : (HandSHeadRun.topDef (OpenLaw.row PySem.Challenge.rw_heapshown_k02_whole_states_changed).prog 60).name = ("law" : PySem.Str) := by kernel_rfl
      rw [← e]
      exact hmg0
    have c := Kb.Hd.pa_of S.t
    exact Kb.Hd.law_callZ (P := (PySem.Challenge.rw_heapshown_k02_whole_states_changed).prog) (k := 13) (cs := Kb.Hd.tbs.map (He.cT K)) (xl := "law") (x := "script") (sp := Kb.spLaw2 K (Kb.Hd.Tall K)) S.kin G.T.g G.T.b G.T.builtins G.T.nolimit hg
      (fun c b m => by
        obtain ⟨p, hp, e⟩ := List.mem_map.mp m
        have z := S.empty p hp
        rw [e] at z
        exact z)
      (fun c b m => by
        obtain ⟨p, hp, e⟩ := List.mem_map.mp m
        have z := S.out p hp
        rw [e] at z
        exact z)
      (fun c b m => by
        obtain ⟨p, hp, e⟩ := List.mem_map.mp m
        have z := S.hd p hp
        rw [e] at z
        exact z)
      G.T.bmain hobj hints (Nat.le_trans hlen (by decide)) ⟨rfl, by decide, by decide⟩ hmg
      (fun base hK hG hT => Kb.Hd.law_gz S.kin G.T.g c (S.hd _ List.mem_cons_self) (hT _ _ (List.mem_map.mpr ⟨("_law_refusals_right", none), List.mem_cons_self, rfl⟩)) (S.hd _ (List.mem_cons_of_mem _ List.mem_cons_self)) (hT _ _ (List.mem_map.mpr ⟨("law", none), (List.mem_cons_of_mem _ List.mem_cons_self), rfl⟩)))
      (fun H hH hS => ⟨a, ns, rfl, hS, hlen, Kb.Hd.tall_of hH, fun _ => rfl⟩)
