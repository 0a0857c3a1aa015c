import PyProof.Rows.All
import Wide.All
import OpenK.AllK
import Wide.FinOn
import PySem.Challenge.RW_evencolumns_k09_not_cut
import HandS.ForMost
import HandS.Exc
import HandS.TryOnly
import HandS.ExcOwn
import HandS.WordsExc
import HandS.StrMore
import HandS.IsInst
import HandS.ExcIs
import HandS.Zip
import HandS.Evl
import HandS.Conv
import HandS.Walk
set_option Elab.async false
set_option linter.all false
set_option maxRecDepth 100000
set_option maxHeartbeats 4000000
namespace Ec
open PySem PySem.Spec PyProof.Rows L2
open Evl (Ex)



















/-! The base of all claims: joined operators, bundles for defs, a walker for readings. -/




/-! ### joined operators -/
section
variable {X : Cx}
theorem or_op {f : Value → Value → Sem Value} {r r' : R2} (h : OpR X f r) (h' : OpR X f r') : OpR X f (fun x y H Q => r x y H Q ∨ r' x y H Q) :=
  fun pins s σ H x y v u Q I rx ry q => q.elim (h pins s σ H x y v u Q I rx ry) (h' pins s σ H x y v u Q I rx ry)
theorem or_call {f : Value} {r r' : List V → Hp → VK → Prop} (h : CallR X f r) (h' : CallR X f r') : CallR X f (fun xs H Q => r xs H Q ∨ r' xs H Q) :=
  fun pins s σ H xs us Q I r q => q.elim (h pins s σ H xs us Q I r) (h' pins s σ H xs us Q I r)
def rMulS : R2 := fun x y H Q => ∃ z n, x = .str z ∧ y = .int n ∧ MulOk z n ∧ Q (.str (Txt.mul z n)) H
theorem op_mulS : OpR X (binaryOp .Mult) rMulS := by
  intro pins s σ H x y v u Q I rx ry h
  obtain ⟨z, n, rfl, rfl, hok, q⟩ := h
  obtain ⟨t, rfl⟩ := rx
  obtain ⟨t', rfl⟩ := ry
  exact SB.mul hok fun t' k => ⟨.str _, H, I.tok _, ⟨_, rfl⟩, q⟩
def rCatS : R2 := fun x y H Q => ∃ i j, x = .str i ∧ y = .str j ∧ i.length + j.length ≤ sizeLine ∧ Q (.str (i ++ j)) H
def rPlus : R2 := fun x y H Q => rI0 (fun i j => .int (i + j)) x y H Q ∨ rCatS x y H Q ∨ rCat x y H Q
theorem op_plus : OpR X (binaryOp .Add) rPlus := or_op op_add (or_op op_add_str op_cat)
def rTimes : R2 := fun x y H Q => rI CMul (fun i j => .int (i * j)) x y H Q ∨ rMulS x y H Q ∨ rRep x y H Q
theorem op_times : OpR X (binaryOp .Mult) rTimes := or_op op_mul (or_op op_mulS op_rep)
def rDiv : R2 := rI CDiv fun i j => .int (i / j)
theorem op_divv : OpR X (binaryOp .FloorDiv) rDiv := op_fdiv
def rMod : R2 := rI (fun _ j => 0 < j) fun i j => .int (i % j)
theorem op_modd : OpR X (binaryOp .Mod) rMod := op_mod
def rMinus : R2 := rI0 fun i j => .int (i - j)
theorem op_minus : OpR X (binaryOp .Sub) rMinus := op_sub
def rPow : R2 := rI CPow fun i j => .int (i ^ j.toNat)
theorem op_poww : OpR X (binaryOp .Pow) rPow := op_pow
def rLtI : R2 := rI0 fun i j => .bl (decide (i < j))
def rGtI : R2 := rI0 fun i j => .bl (decide (j < i))
def rGeI : R2 := rI0 fun i j => .bl (decide (j ≤ i))
theorem op_ltI : OpR X (compareOp .Lt) rLtI := op_lt
theorem op_gtI : OpR X (compareOp .Gt) rGtI := op_gt
theorem op_geI : OpR X (compareOp .GtE) rGeI := op_ge
def rLeS : R2 := fun x y H Q => ∃ i j, x = .str i ∧ y = .str j ∧ Q (.bl (!decide (j.cps.toList < i.cps.toList))) H
def rLeI : R2 := rI0 fun i j => .bl (decide (i ≤ j))
def rLeU : R2 := fun x y H Q => rLeI x y H Q ∨ rLeS x y H Q
theorem op_leU : OpR X (compareOp .LtE) rLeU := or_op op_le op_le_str
def rEqU (K : PySem.W.Frag) : R2 := fun x y H Q => rEq x y H Q ∨ rEqD K x y H Q
theorem op_eqU (hu : X.A.units + 64 < cLine) : OpR X (compareOp .Eq) (rEqU X.K) := or_op op_eq (op_eqD hu)
def rNeU (K : PySem.W.Frag) : R2 := fun x y H Q => rNe x y H Q ∨ rNeD K x y H Q
theorem op_neU (hu : X.A.units + 64 < cLine) : OpR X (compareOp .NotEq) (rNeU X.K) := or_op op_ne (op_neD hu)
def rLenQ (K : PySem.W.Frag) : List V → Hp → VK → Prop := fun xs H Q => ∃ p ys, xs = [.ref p] ∧ (SqL K H p ys ∨ SqT K H p ys) ∧ Q (.int ys.length) H
def rLenZ : List V → Hp → VK → Prop := fun xs H Q => ∃ z, xs = [.str z] ∧ z.length ≤ sizeLine ∧ Q (.int z.length) H
def rLenU (K : PySem.W.Frag) : List V → Hp → VK → Prop := fun xs H Q => rLenQ K xs H Q ∨ rLenZ xs H Q
theorem call_lenU : CallR X (.builtin "len") (rLenU X.K) := or_call call_len_seq call_len_str
def rListOf (K : PySem.W.Frag) : List V → Hp → VK → Prop := fun xs H Q => ∃ p ys, xs = [.ref p] ∧ (SqL K H p ys ∨ SqT K H p ys) ∧ ∀ l, H l = none → Q (.ref l) (upd H l (.lst ys))
theorem call_listU : CallR X (.type "list") (rListOf X.K) := call_list_of
def rIntB : List V → Hp → VK → Prop := fun xs H Q => (∃ i, xs = [.int i] ∧ Q (.int i) H) ∨ ∃ k, xs = [.bl k] ∧ Q (.int (if k then 1 else 0)) H
theorem call_intU : CallR X (.type "int") rIntB := call_int1
def rMx2 : List V → Hp → VK → Prop := fun xs H Q => ∃ i j, xs = [.int i, .int j] ∧ Q (.int (if j > i then j else i)) H
theorem call_mx2 (hc : X.calm = true) : CallR X (.builtin "max") rMx2 := call_max2 hc
def rIsNn : R2 := fun x y H Q => y = .non ∧ Q (.bl (decide (x = .non))) H
def rNotNn : R2 := fun x y H Q => y = .non ∧ Q (.bl (!decide (x = .non))) H
theorem op_isNn : OpR X (compareOp .Is) rIsNn := op_isN
theorem op_notNn : OpR X (compareOp .IsNot) rNotNn := op_notN
def rSlU (K : PySem.W.Frag) : V → Option Int → Option Int → Hp → VK → Prop := fun x lo hi H Q => rSlL K x lo hi H Q ∨ rSlS x lo hi H Q
theorem sl_U : SlR X (rSlU X.K) := sl_list.or sl_str
def rPopU : V → List V → Hp → VK → Prop := fun x vs H Q => rPop x vs H Q ∨ rPopAt x vs H Q
theorem or_mt {id : String} {r r' : V → List V → Hp → VK → Prop} (h : MtR X id r) (h' : MtR X id r') : MtR X id (fun x vs H Q => r x vs H Q ∨ r' x vs H Q) :=
  fun pins s σ H x xs v us Q I rx rs q => q.elim (h pins s σ H x xs v us Q I rx rs) (h' pins s σ H x xs v us Q I rx rs)
end

/-! ### the same rules, the written part named -/
section
variable {X : Cx} {K : PySem.W.Frag}
theorem ix_seqK (h : X.K = K) : IxR X (rIx K) := h ▸ ix_seq
theorem op_eqK (h : X.K = K) (hu : X.A.units + 64 < cLine) : OpR X (compareOp .Eq) (rEqU K) := h ▸ op_eqU hu
theorem op_neK (h : X.K = K) (hu : X.A.units + 64 < cLine) : OpR X (compareOp .NotEq) (rNeU K) := h ▸ op_neU hu
theorem call_lenK (h : X.K = K) : CallR X (.builtin "len") (rLenU K) := h ▸ call_lenU
theorem call_listK (h : X.K = K) : CallR X (.type "list") (rListOf K) := h ▸ call_listU
theorem cr_allK (h : X.K = K) (hc : X.calm = true) : CallR X (.builtin "all") (rAll K) := h ▸ cr_all hc
theorem cr_sumK (h : X.K = K) (hc : X.calm = true) : CallR X (.builtin "sum") (rSum K) := h ▸ cr_sum hc
theorem cr_maxK (h : X.K = K) (hc : X.calm = true) : CallR X (.builtin "max") (rMax K) := h ▸ cr_max hc
theorem sl_K (h : X.K = K) : SlR X (rSlU K) := h ▸ sl_U
theorem call_isK (h : X.K = K) : CallR X (.builtin "isinstance") (rIsi K) := h ▸ call_isi
def rJoin (K : PySem.W.Frag) : V → List V → Hp → VK → Prop := fun x xs H Q => ∃ a p, ∃ ys : List Str, x = .str a ∧ xs = [.ref p] ∧ (SqL K H p (ys.map V.str) ∨ SqT K H p (ys.map V.str)) ∧
    (ys.map (·.length)).sum + ys.length * a.length ≤ 16777216 ∧ Q (.str (Txt.join a ys)) H
theorem mt_joinK (h : X.K = K) : MtR X "str.join" (rJoin K) := h ▸ mt_join
def rSplit : V → List V → Hp → VK → Prop := fun x xs H Q => ∃ a b, x = .str a ∧ xs = [.str b] ∧ (b.length == 0) = false ∧ a.length + 2 ≤ sizeLine ∧ rNewStrs (Txt.split a b) H Q
theorem mt_splitS : MtR X "str.split" rSplit := mt_split
def rStripC : V → List V → Hp → VK → Prop := fun x xs H Q => ∃ a b, x = .str a ∧ xs = [.str b] ∧ a.length ≤ sizeLine ∧ Q (.str (Txt.rstripChars a b)) H
theorem mt_rstripS : MtR X "str.rstrip" rStripC := mt_rstripChars
theorem pi_listK (h : X.K = K) {tg l : Expr} {tl : TE} (hl : PE X l tl) : PI X tg l (iList K tl) := h ▸ pi_list hl
theorem pi_zipK (h : X.K = K) {e e2 : Expr} {ta : TA} {p pos tpos : Pos} {elts : List Expr} {kk : Nat} (hg : Gl X "zip") (hm : X.mg "zip" = none) (ha : PA X [e, e2] ta)
    (hs : starEach [e, e2] X.env = (false, eval e X.env) :: starEach [e2] X.env := by rfl) (hpl : (backTo pos (starEach [e2] X.env)).any (·.1) = false := by rfl) :
    PI X (.Tuple elts kk tpos) (.Call (.Name "zip" p) [e, e2] [] pos) (iZip K ta) := h ▸ pi_zip hg hm ha hs hpl
theorem pg_tupK (h : X.K = K) {pos : Pos} {es : List Expr} {k : Nat} {t : TGs} {n : Nat} (hc : X.calm = true) (hg : PGs X es t)
    (hn : (assignEach es X.env).length = n := by rfl) (hst : (assignEach es X.env).findIdx? (·.1) = none := by rfl) : PG X (.Tuple es k pos) (gTup K n t) := h ▸ pg_tup hc hg hn hst
theorem pg_lstK (h : X.K = K) {pos : Pos} {es : List Expr} {k : Nat} {t : TGs} {n : Nat} (hc : X.calm = true) (hg : PGs X es t)
    (hn : (assignEach es X.env).length = n := by rfl) (hst : (assignEach es X.env).findIdx? (·.1) = none := by rfl) : PG X (.Tuple es k pos) (gLst K n t) := h ▸ pg_lst hc hg hn hst
theorem pe_fldK (h : X.K = K) {e : Expr} {f : Str} {pos : Pos} {ta : TE} (he : PE X e ta) (hb : attributeBase e f X.env (eval e X.env) = eval e X.env) : PE X (.Attribute e f pos) (tFld K ta f) := h ▸ pe_fld he hb
theorem ps_fldK (h : X.K = K) {o value : Expr} {f : Str} {pos pos' : Pos} {ta tv : TE} (ha : PE X o ta) (hv : PE X value tv) (hs : swapsWith value (some (.Attribute o f pos')) pos.line X.env = pure false) :
    PS X (.Assign [.Attribute o f pos'] value pos) (sFld K ta tv f) := h ▸ ps_fld ha hv hs
theorem pe_bm0K (h : X.K = K) {T : String} {name : Str} {id : String} {r : V → List V → Hp → VK → Prop} {o : Expr} {to : TE} {apos cpos : Pos} (pa : PlainAttrs T) (slot : Slot T name id) (hty : typeOf (.builtin id) = pure (.type "method_descriptor")) (hm : MtR X id r) (ho : PE X o to)
    (hbase : attributeBase o name X.env (eval o X.env) = eval o X.env := by rfl) (hline : (apos.endLine == cpos.line) = true := by rfl) : PE X (.Call (.Attribute o name apos) [] [] cpos) (tBM0 K T r to) := h ▸ pe_bm0 pa slot hty hm ho hbase hline
theorem pe_bmK (h : X.K = K) {T : String} {name : Str} {id : String} {r : V → List V → Hp → VK → Prop} {o e : Expr} {es : List Expr} {to : TE} {t : TA} {apos cpos : Pos} (pa : PlainAttrs T) (slot : Slot T name id) (hty : typeOf (.builtin id) = pure (.type "method_descriptor")) (hm : MtR X id r) (ho : PE X o to) (ha : PA X (e :: es) t)
    (hbase : attributeBase o name X.env (eval o X.env) = eval o X.env := by rfl)
    (hfew : ((backTo cpos (starEach (e :: es) X.env)).all (fun x => !x.1) && (backToKw cpos (keywordEach [] X.env)).all (fun x => x.1.isSome)
      && decide ((e :: es).length + ([] : List Keyword).length + (if ([] : List Keyword).isEmpty then 0 else 1) < 30)) = true := by rfl)
    (hline : (apos.endLine == cpos.line) = true := by rfl) (hs : starEach (e :: es) X.env = (false, eval e X.env) :: starEach es X.env := by rfl) (hplain : (backTo cpos (starEach es X.env)).any (·.1) = false := by rfl) :
    PE X (.Call (.Attribute o name apos) (e :: es) [] cpos) (tBM K T r to t) := h ▸ pe_bm pa slot hty hm ho ha hbase hfew hline hs hplain
end

/-! ### defs as bundles -/
section
variable (P : Program) (w : World) (K : PySem.W.Frag) (mg : Str → Option Value) (base : Heap)
/-- a def of the module keeps a promise and can be called by its name -/
structure Has (c : CXT) (k : Nat) (x : Str) (ps : List Str) (sp : Sp) : Prop where
  ex : ∃ f fd, FnOk P w K mg base c k f fd ps sp ∧ mg x = some (.ref f) ∧ PySem.W.keepIn K (.ref f) = true ∧ Binds K fd ps [] ∧ ∃ oc od osl, K.lookup f = some ⟨oc, od, .func fd, osl⟩
/-- a def of the module as it stands -/
structure Std (x : Str) (st : Stmt) (ps : List Str) : Prop where
  ex : ∃ f fd, Fun K x x st f fd ∧ mg x = some (.ref f) ∧ ∀ us : List Value, us.length = ps.length → bindArgs fd ⟨us, []⟩ = pure (ps.zip us)
/-- built-in names that the module leaves as they are -/
structure Bl : Prop where
  len : mg "len" = none
  all : mg "all" = none
  range : mg "range" = none
  zip : mg "zip" = none
  max : mg "max" = none
  sum : mg "sum" = none
  isi : mg "isinstance" = none
  list : mg "list" = none
  int : mg "int" = none
  str : mg "str" = none
  tuple : mg "tuple" = none
  bool : mg "bool" = none
  ValueError : mg "ValueError" = none
end
section
variable {P : Program} {w : World} {K : PySem.W.Frag} {mg : Str → Option Value} {base : Heap}
theorem Has.mono {c : CXT} {j k : Nat} {x : Str} {ps : List Str} {sp : Sp} (h : Has P w K mg base c j x ps sp) (hk : j ≤ k) : Has P w K mg base c k x ps sp := by
  obtain ⟨f, fd, F, a, b, d⟩ := h.ex
  exact ⟨f, fd, F.mono hk, a, b, d⟩
theorem Fun.lk {x qual : Str} {st : Stmt} {f : Addr} {fd : FuncData} (F : Fun K x qual st f fd) : ∃ oc od osl, K.lookup f = some ⟨oc, od, .func fd, osl⟩ := by
  obtain ⟨oc, od, kV, doc, pm, an, cdv, ct, osl, rfl, lk, hcd⟩ := F.ex
  exact ⟨oc, od, osl, lk⟩
/-- from its body to its promise; nothing leaves -/
theorem Std.ok {x : Str} {st : Stmt} {N ps : List Str} {k : Nat} {sp : Sp} (D : Std K mg x st ps) (S : FnScope N ps (defScope st)) (len : ∀ vs H Q E, sp vs H Q E → vs.length = ps.length)
    (hbody : ∀ (f : Addr) (cdv : Value) (A : Around) (outer : List Env) (s : Shared) (H : Hp) (vs : List V) (Q : VK) (E : XK), Room k (A.deeper (envOfC x (defScope st) s.heap.objs.size f cdv)) → sp vs H Q E →
      ∃ t, PSs (cxOf CX0 P w K mg base N x (defScope st) f cdv A outer s H E).nox (defBody st) t ∧ t { nx := fun _ H' => Q .non H', rt := Q } (start N vs) H) : Has P w K mg base CX0 (k + 1) x ps sp := by
  obtain ⟨f, fd, F, g, b⟩ := D.ex
  exact ⟨f, fd, F.ok S len (hbody f), g, F.kp, .all b, Fun.lk F⟩
/-- .. of a def that may raise -/
theorem Std.okX {x : Str} {st : Stmt} {N ps : List Str} {k : Nat} {sp : Sp} (D : Std K mg x st ps) (S : FnScope N ps (defScope st)) (len : ∀ vs H Q E, sp vs H Q E → vs.length = ps.length)
    (hbody : ∀ (f : Addr) (cdv : Value) (A : Around) (outer : List Env) (s : Shared) (H : Hp) (vs : List V) (Q : VK) (E : XK), Room k (A.deeper (envOfC x (defScope st) s.heap.objs.size f cdv)) → sp vs H Q E →
      ∃ t, PSs (cxOf (L2.CX P w) P w K mg base N x (defScope st) f cdv A outer s H E) (defBody st) t ∧ t { nx := fun _ H' => Q .non H', rt := Q } (start N vs) H) : Has P w K mg base (L2.CX P w) (k + 1) x ps sp := by
  obtain ⟨f, fd, F, g, b⟩ := D.ex
  exact ⟨f, fd, F.okX S len (hbody f), g, F.kp, .all b, Fun.lk F⟩
end
section
variable {P : Program} {w : World} {K : PySem.W.Frag} {mg : Str → Option Value} {h : Heap}
theorem std_mk {x : Str} {st : Stmt} {ps : List Str} {f : Addr} {oc : Value} {od an : Option Addr} {osl : Array (Option Value)} {kV doc pm cdv ct : Value} (X : K.In h) (G : h.Ns mainGlobals mg) (a : PySem.W.nsIn K mainGlobals x = some (some (.ref f)))
    (l : K.lookup f = some ⟨oc, od, .func (PySem.W.fnOf x x (defArgs st) (defBody st) (defScope st) .none kV doc pm an cdv ct), osl⟩) (c : PySem.W.codeIn K cdv x = true) (k : PySem.W.keepIn K (.ref f) = true)
    (b : ∀ us : List Value, us.length = ps.length → bindArgs (PySem.W.fnOf x x (defArgs st) (defBody st) (defScope st) .none kV doc pm an cdv ct) ⟨us, []⟩ = pure (ps.zip us)) : Std K mg x st ps :=
  ⟨f, _, fun_mk l c k, PySem.W.mg_of X G a, b⟩
theorem law_end {st : Stmt} {fa : Addr} {k : Nat} {sp : Sp} (D : Std K mg "law" st ["script"]) (hfa : mg "law" = some (.ref fa)) (hh : ∀ base : Heap, K.In base → base.Ns mainGlobals mg → Has P w K mg base CX0 k "law" ["script"] sp) :
    ∃ fd : FuncData, (∀ (s : Shared) (u : Value), BindsTo s fd ⟨[u], []⟩ [("script", u)]) ∧ ∀ base : Heap, K.In base → base.Ns mainGlobals mg → FnOk P w K mg base CX0 k fa fd ["script"] sp := by
  obtain ⟨f, fd, F, g, b⟩ := D.ex
  have e := hfa.symm.trans g
  cases e
  refine ⟨fd, fun s u => .of_eq (b [u] rfl), fun base h1 h2 => ?_⟩
  obtain ⟨f', fd', F', g', _, _, oc, od, osl, lk⟩ := (hh base h1 h2).ex
  have e := hfa.symm.trans g'
  cases e
  obtain ⟨oc2, od2, osl2, lk2⟩ := Fun.lk F
  rw [lk] at lk2
  cases lk2
  exact F'
end
section
variable {X : Cx} {k : Nat} {x : Str} {ps : List Str} {sp : Sp} {p pos : Pos} {e : Expr} {es : List Expr} {t : TA}
/-- f(e, ..), from which nothing leaves -/
theorem pe_own (h : Has X.prog X.w X.K X.mg X.base CX0 k x ps sp) (hr : Room k X.A) (hg : Gl X x) (ha : PA X (e :: es) t) (hdb : (x == ("__debug__" : Str)) = false := by decide)
    (he : starEach (e :: es) X.env = (false, eval e X.env) :: starEach es X.env := by rfl) (hpl : (backTo pos (starEach es X.env)).any (·.1) = false := by rfl) : PE X (.Call (.Name x p) (e :: es) [] pos) (tCall sp [] E0 t) := by
  obtain ⟨f, fd, F, g, kp, b, _⟩ := h.ex
  exact pe_call F hr hg g kp b .nil pass0 ha hdb he hpl
/-- f(e, ..), f may raise but does not here -/
theorem pe_ownL (h : Has X.prog X.w X.K X.mg X.base (L2.CX X.prog X.w) k x ps sp) (hr : Room k X.A) (hg : Gl X x) (ha : PA X (e :: es) t) (hdb : (x == ("__debug__" : Str)) = false := by decide)
    (he : starEach (e :: es) X.env = (false, eval e X.env) :: starEach es X.env := by rfl) (hpl : (backTo pos (starEach es X.env)).any (·.1) = false := by rfl) : PE X (.Call (.Name x p) (e :: es) [] pos) (tCall sp [] E0 t) := by
  obtain ⟨f, fd, F, g, kp, b, _⟩ := h.ex
  exact pe_call F hr hg g kp b .nil passL ha hdb he hpl
/-- f(e, ..), f may raise, and what it raises is taken -/
theorem pe_ownX {W : WX} (h : Has X.prog X.w X.K X.mg X.base (L2.CX X.prog X.w) k x ps sp) (tk : Takes X W) (hr : Room k X.A) (hg : Gl X x) (ha : PA X (e :: es) t) (hdb : (x == ("__debug__" : Str)) = false := by decide)
    (he : starEach (e :: es) X.env = (false, eval e X.env) :: starEach es X.env := by rfl) (hpl : (backTo pos (starEach es X.env)).any (·.1) = false := by rfl) : PE X (.Call (.Name x p) (e :: es) [] pos) (tCallS sp (WE W) t) := by
  obtain ⟨f, fd, F, g, kp, b, _⟩ := h.ex
  exact pe_callS F hr hg g kp b (fun σ => passAt tk σ) ha hdb he hpl
/-- a number of the module -/
theorem pe_num {n : Int} (h : ∃ t, X.mg x = some (.int n t)) (hg : Gl X x) (hd : (x == ("__debug__" : Str)) = false := by decide) : PE X (.Name x p) (tC (.int n)) := by
  obtain ⟨t, h⟩ := h
  exact pe_glob hg h ⟨_, rfl⟩ hd
end

/-! ### the steps of a reading -/
section
variable {σ : L2.St} {H : Hp} {ta tb tc te : TE} {t u : TT} {tr : TA} {r r' : R2} {x y v : V} {D : Ends} {ts us : TS} {g : TG} {K : PySem.W.Frag}
theorem s_seq (k : ts { D with nx := us D } σ H) : tSeq ts us D σ H := k
theorem s_asg (k : te σ H fun x H1 => g x σ H1 D.nx) : tAsg te g D σ H := k
theorem s_name {i : Nat} {Q : L2.St → Hp → Prop} (k : Q (σ.set i (some v)) H) : gName i v σ H Q := k
theorem s_ret (k : te σ H D.rt) : tRet te D σ H := k
theorem s_drop (k : te σ H fun _ H1 => D.nx σ H1) : tDrop te D σ H := k
theorem s_next (k : D.nx σ H) : tNext D σ H := k
theorem s_ifs (k : t σ H fun b H1 => if b = true then ts D σ H1 else us D σ H1) : tIfS t ts us D σ H := k
theorem s_var {i : Nat} {Q : VK} (h : σ[i]? = some (some v)) (k : Q v H) : tVar i σ H Q := ⟨v, h, k⟩
theorem s_c {Q : VK} (k : Q v H) : tC v σ H Q := k
theorem s_op {Q : VK} (k : ta σ H fun x H1 => tb σ H1 fun y H2 => r x y H2 Q) : tOp r ta tb σ H Q := k
theorem s_un {Q : VK} {ru : V → Hp → VK → Prop} (k : ta σ H fun x H1 => ru x H1 Q) : tUn ru ta σ H Q := k
theorem s_test {Q : Bool → Hp → Prop} (k : te σ H fun x H' => ∃ k, x = .bl k ∧ Q k H') : tTest te σ H Q := k
theorem s_tb {Q : Bool → Hp → Prop} (k : te σ H fun x H' => ∃ k, x = .bl k ∧ Q k H') : tB te σ H Q := k
theorem s_and {Q : Bool → Hp → Prop} (k : t σ H fun c H1 => if c = true then u σ H1 Q else Q false H1) : tAnd t u σ H Q := k
theorem s_or {Q : Bool → Hp → Prop} (k : t σ H fun c H1 => if c = true then Q true H1 else u σ H1 Q) : tOr t u σ H Q := k
theorem s_not {Q : Bool → Hp → Prop} (k : t σ H fun c H1 => Q (!c) H1) : tNot t σ H Q := k
theorem s_yes {Q : Bool → Hp → Prop} (k : Q true H) : tYes σ H Q := k
theorem s_andV {Q : VK} (k : ta σ H fun x H1 => ∃ c, x = .bl c ∧ if c = true then tb σ H1 Q else Q (.bl false) H1) : tAndV ta tb σ H Q := k
theorem s_orV {Q : VK} (k : ta σ H fun x H1 => ∃ c, x = .bl c ∧ if c = true then Q (.bl true) H1 else tb σ H1 Q) : tOrV ta tb σ H Q := k
theorem s_notV {Q : VK} (k : ta σ H fun x H1 => ∃ c, x = .bl c ∧ Q (.bl (!c)) H1) : tNotV ta σ H Q := k
theorem s_ifx {Q : VK} (k : t σ H fun c H1 => if c = true then ta σ H1 Q else tb σ H1 Q) : tIf t ta tb σ H Q := k
theorem s_chain {Q : VK} (k : ta σ H fun x H1 => tb σ H1 fun y H2 => r x y H2 fun z H3 => ∃ k, z = .bl k ∧ (if k = true then tc σ H3 fun w' H4 => r' y w' H4 Q else Q (.bl false) H3)) : tChain r r' ta tb tc σ H Q := k
theorem s_call {sp : Sp} {ds : List V} {E : XK} {Q : VK} (k : tr σ H fun vs H1 => sp (vs ++ ds) H1 Q E) : tCall sp ds E tr σ H Q := k
theorem s_callS {sp : Sp} {E : L2.St → XK} {Q : VK} (k : tr σ H fun vs H1 => sp vs H1 Q (E σ)) : tCallS sp E tr σ H Q := k
theorem s_cons {Q : List V → Hp → Prop} (k : ta σ H fun x H1 => tr σ H1 fun xs H2 => Q (x :: xs) H2) : tCons ta tr σ H Q := k
theorem s_nil {Q : List V → Hp → Prop} (k : Q [] H) : tNil σ H Q := k
theorem s_lst {Q : VK} (k : tr σ H fun xs H1 => xs.length ≤ sizeLine ∧ ∀ p, H1 p = none → Q (.ref p) (upd H1 p (.lst xs))) : tLst tr σ H Q := k
theorem s_tup {Q : VK} (k : tr σ H fun xs H1 => xs.length ≤ sizeLine ∧ ∀ p, H1 p = none → Q (.ref p) (upd H1 p (.tup xs))) : tTup tr σ H Q := k
theorem s_cb {rc : List V → Hp → VK → Prop} {Q : VK} (k : tr σ H fun vs H1 => rc vs H1 Q) : tCB rc tr σ H Q := k
theorem s_bm {T : String} {rm : V → List V → Hp → VK → Prop} {Q : VK} (k : ta σ H fun x H1 => tyV K T x H1 ∧ tr σ H1 fun xs H2 => rm x xs H2 Q) : tBM K T rm ta tr σ H Q := k
theorem s_bm0 {T : String} {rm : V → List V → Hp → VK → Prop} {Q : VK} (k : ta σ H fun x H1 => tyV K T x H1 ∧ rm x [] H1 Q) : tBM0 K T rm ta σ H Q := k
theorem s_sl {rs : V → Option Int → Option Int → Hp → VK → Prop} {tl th : TO} {Q : VK} (k : te σ H fun x H1 => tl σ H1 fun l H2 => th σ H2 fun u H3 => rs x l u H3 Q) : tSl rs te tl th σ H Q := k
theorem s_part {Q : Option Int → Hp → Prop} (k : te σ H fun x H1 => ∃ i, x = .int i ∧ Q (some i) H1) : tPart te σ H Q := k
theorem s_nopart {Q : Option Int → Hp → Prop} (k : Q none H) : tNoPart σ H Q := k
theorem s_for {wi : TI} (k : wi σ H fun J H1 => ∃ W : Nat → Nat → L2.St → Hp → Prop, (∃ m, W 0 m σ H1) ∧ ∀ i m σ H, W i m σ H →
  (J.stop i H ∧ D.nx σ H) ∨ (J.go i H ∧ ∃ N : L2.St → Hp → Prop, (∀ σ' H', N σ' H' → ∃ m', m' < m ∧ W (i + 1) m' σ' H') ∧ ∀ x H', J.yld i H x H' → g x σ H' fun σ2 H2 => ts { D with nx := N, ct := N, bk := D.nx } σ2 H2)) : tFor wi g ts D σ H := k
-- operations by values
theorem s_bl {b : Bool} {Q : Bool → Prop} (k : Q b) : ∃ c, V.bl b = .bl c ∧ Q c := ⟨b, rfl, k⟩
theorem s_int {i : Int} {Q : Int → Prop} (k : Q i) : ∃ c, V.int i = .int c ∧ Q c := ⟨i, rfl, k⟩
theorem s_i0 {f : Int → Int → V} {i j : Int} {Q : VK} (k : Q (f i j) H) : rI0 f (.int i) (.int j) H Q := ⟨i, j, rfl, rfl, k⟩
theorem s_plus {i j : Int} {Q : VK} (k : Q (.int (i + j)) H) : rPlus (.int i) (.int j) H Q := .inl ⟨i, j, rfl, rfl, k⟩
theorem s_plusS {i j : Str} {Q : VK} (h : i.length + j.length ≤ sizeLine) (k : Q (.str (i ++ j)) H) : rPlus (.str i) (.str j) H Q := .inr (.inl ⟨i, j, rfl, rfl, h, k⟩)
theorem s_minus {i j : Int} {Q : VK} (k : Q (.int (i - j)) H) : rMinus (.int i) (.int j) H Q := ⟨i, j, rfl, rfl, k⟩
theorem s_times {i j : Int} {Q : VK} (h : CMul i j) (k : Q (.int (i * j)) H) : rTimes (.int i) (.int j) H Q := .inl ⟨i, j, rfl, rfl, h, k⟩
theorem s_div {i j : Int} {Q : VK} (h : CDiv i j) (k : Q (.int (i / j)) H) : rDiv (.int i) (.int j) H Q := ⟨i, j, rfl, rfl, h, k⟩
theorem s_mod {i j : Int} {Q : VK} (h : 0 < j) (k : Q (.int (i % j)) H) : rMod (.int i) (.int j) H Q := ⟨i, j, rfl, rfl, h, k⟩
theorem s_ltI {i j : Int} {Q : VK} (k : Q (.bl (decide (i < j))) H) : rLtI (.int i) (.int j) H Q := ⟨i, j, rfl, rfl, k⟩
theorem s_gtI {i j : Int} {Q : VK} (k : Q (.bl (decide (j < i))) H) : rGtI (.int i) (.int j) H Q := ⟨i, j, rfl, rfl, k⟩
theorem s_geI {i j : Int} {Q : VK} (k : Q (.bl (decide (j ≤ i))) H) : rGeI (.int i) (.int j) H Q := ⟨i, j, rfl, rfl, k⟩
theorem s_leI {i j : Int} {Q : VK} (k : Q (.bl (decide (i ≤ j))) H) : rLeU (.int i) (.int j) H Q := .inl ⟨i, j, rfl, rfl, k⟩
theorem s_leS {i j : Str} {Q : VK} (k : Q (.bl (!decide (j.cps.toList < i.cps.toList))) H) : rLeU (.str i) (.str j) H Q := .inr ⟨i, j, rfl, rfl, k⟩
theorem dI {i j : Int} : decide (V.int i = V.int j) = decide (i = j) := by simp
theorem dS {i j : Str} : decide (V.str i = V.str j) = decide (i = j) := by simp
theorem s_eqI {i j : Int} {Q : VK} (k : Q (.bl (decide (i = j))) H) : rEqU K (.int i) (.int j) H Q := .inl ⟨rfl, dI ▸ k⟩
theorem s_neI {i j : Int} {Q : VK} (k : Q (.bl (!decide (i = j))) H) : rNeU K (.int i) (.int j) H Q := .inl ⟨rfl, dI ▸ k⟩
theorem s_eqS {i j : Str} {Q : VK} (k : Q (.bl (decide (i = j))) H) : rEqU K (.str i) (.str j) H Q := .inl ⟨rfl, dS ▸ k⟩
theorem s_neS {i j : Str} {Q : VK} (k : Q (.bl (!decide (i = j))) H) : rNeU K (.str i) (.str j) H Q := .inl ⟨rfl, dS ▸ k⟩
theorem s_isN {Q : VK} (k : Q (.bl (decide (x = .non))) H) : rIsNn x .non H Q := ⟨rfl, k⟩
theorem s_notN {Q : VK} (k : Q (.bl (!decide (x = .non))) H) : rNotNn x .non H Q := ⟨rfl, k⟩
theorem s_lenL {p : Addr} {ys : List V} {Q : VK} (h : SqL K H p ys) (k : Q (.int ys.length) H) : rLenU K [.ref p] H Q := .inl ⟨p, ys, rfl, .inl h, k⟩
theorem s_lenT {p : Addr} {ys : List V} {Q : VK} (h : SqT K H p ys) (k : Q (.int ys.length) H) : rLenU K [.ref p] H Q := .inl ⟨p, ys, rfl, .inr h, k⟩
theorem s_lenS {z : Str} {Q : VK} (h : z.length ≤ sizeLine) (k : Q (.int z.length) H) : rLenU K [.str z] H Q := .inr ⟨z, rfl, h, k⟩
theorem s_mx2 {i j : Int} {Q : VK} (k : Q (.int (if j > i then j else i)) H) : rMx2 [.int i, .int j] H Q := ⟨i, j, rfl, k⟩
theorem s_intI {i : Int} {Q : VK} (k : Q (.int i) H) : rIntB [.int i] H Q := .inl ⟨i, rfl, k⟩
theorem s_intB {b : Bool} {Q : VK} (k : Q (.int (if b then 1 else 0)) H) : rIntB [.bl b] H Q := .inr ⟨b, rfl, k⟩
theorem s_ixL {p : Addr} {xs : List V} {i : Int} {Q : VK} (h : SqL K H p xs) (ha : atI xs i = some v) (k : Q v H) : rIx K (.ref p) (.int i) H Q := .inl ⟨p, xs, i, v, rfl, rfl, h, ha, k⟩
theorem s_ixT {p : Addr} {xs : List V} {i : Int} {Q : VK} (h : SqT K H p xs) (ha : atI xs i = some v) (k : Q v H) : rIx K (.ref p) (.int i) H Q := .inr (.inl ⟨p, xs, i, v, rfl, rfl, h, ha, k⟩)
theorem s_app {l : Addr} {xs : List V} {Q : VK} (h : H l = some (.lst xs)) (hz : xs.length < sizeLine) (k : Q .non (upd H l (.lst (xs ++ [y])))) : rAppend (.ref l) [y] H Q := ⟨l, xs, y, rfl, rfl, h, hz, k⟩
theorem if_t {b : Bool} {A B : Prop} (h : b = true) (k : A) : if b = true then A else B := by rw [if_pos h]; exact k
theorem if_f {b : Bool} {A B : Prop} (h : b = false) (k : B) : if b = true then A else B := by rw [if_neg (by rw [h]; decide)]; exact k
end

/-! ### heaps -/
section
variable {H H' : Hp} {a p : Addr} {o u : HO}
theorem hp_ex (e : Ex H H') (h : H a = some o) : H' a = some o := e a o h
theorem hp_new (hp : H p = none) (h : H a = some o) : upd H p u a = some o := by rw [upd_ne (ne_of_none h hp)]; exact h
theorem hp_ne (hn : a ≠ p) (h : H a = some o) : upd H p u a = some o := by rw [upd_ne hn]; exact h
theorem hp_ne' (hn : p ≠ a) (h : H a = some o) : upd H p u a = some o := by rw [upd_ne (Ne.symm hn)]; exact h
theorem no_ex (e : Ex H H') (h : H' a = none) : H a = none := Evl.fresh_back e h
theorem ex_upd {H0 : Hp} (e : Ex H0 H) (h : H p = none) : Ex H0 (upd H p o) := e.trans (Ex.new h)
theorem no_upd (h : upd H p u a = none) : H a = none := by
  by_cases e : a = p
  · subst e; rw [upd_same] at h; cases h
  · rw [upd_ne e] at h; exact h
end
/-! ### a op1 b op2 c op3 d -/
def tChain3 (r r' r'' : R2) (ta tb tc td : TE) : TE := fun σ H Q => ta σ H fun x H1 => tb σ H1 fun y H2 => r x y H2 fun z H3 => ∃ k, z = .bl k ∧
  (if k = true then tc σ H3 fun u H4 => r' y u H4 fun z' H5 => ∃ k', z' = .bl k' ∧ (if k' = true then td σ H5 fun w' H6 => r'' u w' H6 Q else Q (.bl false) H5) else Q (.bl false) H3)
theorem pt_chain3 {X : Cx} {a b c d : Expr} {ta tb tc td : TE} {pos : Pos} {op op' op'' : CmpOp} {r r' r'' : R2} (ho : OpR X (compareOp op) r) (ho' : OpR X (compareOp op') r') (ho'' : OpR X (compareOp op'') r'') (ha : PE X a ta) (hb : PE X b tb) (hc : PE X c tc) (hd : PE X d td)
    (hm : lastMarks [op, op', op''] [b, c, d] = false := by with_unfolding_all rfl) : PT X (.Compare a [op, op', op''] [b, c, d] pos) (tTest (tChain3 r r' r'' ta tb tc td)) := by
  refine ⟨fun pins s σ H Q I h => ?_⟩
  refine isTrue_chain (thn (ha.run pins s σ H _ I h) fun v s1 ⟨x, H1, I1, r1, q1⟩ => test_link (thn (hb.run pins s1 σ H1 _ I1 q1) fun u s2 ⟨y, H2, I2, r2, q2⟩ =>
    thn (ho pins s2 σ H2 x y v u _ I2 r1 r2 q2) fun d s3 ⟨z, H3, I3, r3, k, e, q3⟩ => ?_)) hm
  subst e
  cases r3
  refine wpAny_truthy_bool ?_
  cases k with
  | false =>
    obtain ⟨k', e', q'⟩ := q3
    cases e'
    exact ite_ff ⟨H3, I3, q'⟩
  | true =>
    refine ite_tt (test_link (thn (hc.run pins s3 σ H3 _ I3 q3) fun w' s4 ⟨z', H4, I4, r4, q4⟩ => thn (ho' pins s4 σ H4 y z' u w' _ I4 r2 r4 q4) fun d' s5 ⟨z2, H5, I5, r5, k2, e2, q5⟩ => ?_))
    subst e2
    cases r5
    refine wpAny_truthy_bool ?_
    cases k2 with
    | false =>
      obtain ⟨k', e', q'⟩ := q5
      cases e'
      exact ite_ff ⟨H5, I5, q'⟩
    | true =>
      refine ite_tt (test_last (thn (hd.run pins s5 σ H5 _ I5 q5) fun w2 s6 ⟨z3, H6, I6, r6, q6⟩ => thn (ho'' pins s6 σ H6 z' z3 w' w2 _ I6 r4 r6 q6) fun d2 s7 ⟨z4, H7, I7, r7, k3, e3, q7⟩ => ?_))
      subst e3
      cases r7
      exact wpAny_truthy_bool ⟨H7, I7, q7⟩
section
variable {σ : L2.St} {H : Hp} {ta tb tc td te : TE} {r r' r'' : R2}
theorem s_chain3 {Q : VK} (k : ta σ H fun x H1 => tb σ H1 fun y H2 => r x y H2 fun z H3 => ∃ k, z = .bl k ∧
  (if k = true then tc σ H3 fun u H4 => r' y u H4 fun z' H5 => ∃ k', z' = .bl k' ∧ (if k' = true then td σ H5 fun w' H6 => r'' u w' H6 Q else Q (.bl false) H5) else Q (.bl false) H3)) : tChain3 r r' r'' ta tb tc td σ H Q := k
theorem s_lstRg {Q : VK} (k : te σ H fun x H1 => ∃ n, x = .int n ∧ (RgOk 0 n ∧ ∀ q, H1 q = none → Q (.ref q) (upd H1 q (.lst (rgV 0 n))))) : tLstRg (tRg1 te) σ H Q := k
theorem s_lstRg2 {Q : VK} (k : ta σ H fun x H1 => tb σ H1 fun y H2 => ∃ i j, x = .int i ∧ y = .int j ∧ (RgOk i j ∧ ∀ q, H2 q = none → Q (.ref q) (upd H2 q (.lst (rgV i j))))) : tLstRg (tRg2 ta tb) σ H Q := k
end
theorem mt_indexK {X : Cx} {K : PySem.W.Frag} (h : X.K = K) : MtR X "list.index" (rIndex K) := h ▸ mt_index
def rStripB : V → List V → Hp → VK → Prop := fun x xs H Q => ∃ a b, x = .str a ∧ xs = [.str b] ∧ a.length ≤ sizeLine ∧ Q (.str (Txt.stripChars a b)) H
theorem mt_stripC {X : Cx} : MtR X "str.strip" rStripB := mt_stripChars
theorem s_strip {H : Hp} {a b : Str} {Q : VK} (hz : a.length ≤ sizeLine) (k : Q (.str (Txt.stripChars a b)) H) : rStripB (.str a) [.str b] H Q := ⟨a, b, rfl, rfl, hz, k⟩
def rScount : V → List V → Hp → VK → Prop := fun x xs H Q => ∃ a b, x = .str a ∧ xs = [.str b] ∧ Q (.int (Txt.count a b)) H
theorem mt_scount {X : Cx} : MtR X "str.count" rScount := mt_count
theorem s_scount {H : Hp} {a b : Str} {Q : VK} (k : ∀ n : Nat, n ≤ a.length + 1 → Q (.int (n : Int)) H) : rScount (.str a) [.str b] H Q := ⟨a, b, rfl, rfl, k _ (StrLaws.occ_length_le _ _ _ _ _)⟩






/-! Comprehensions, lists of rows, data. -/




section
variable {J : It} {n : Nat} {G : Hp → Prop} {Y : Nat → Hp → V → Hp → Prop} {g : TG} {tt : TT} {te : TE} {vs : List Nat} {σ : L2.St} {H1 : Hp} {D : Addr} {Qd : Hp → Prop}
/-- a comprehension whose items are values -/
theorem lc_fil (w : Walk J n G Y) (p : Nat → Bool) (f : Nat → V) (hD : H1 D = none) (hG : ∀ H', Ex H1 H' → G H') (hn : n ≤ 1000000)
    (hs : ∀ (i : Nat) (x : V) (Ha Hb : Hp) (R : VK) (S : Hp → Prop), i < n → Ex H1 Ha → Y i Ha x Hb → (p i = true → ∀ H4, Ex Ha H4 → R (f i) H4) → (p i = false → ∀ H4, Ex Ha H4 → S H4) →
      g x (wipe σ vs) Hb fun σ2 H2 => wipe σ2 vs = wipe σ vs ∧ tt σ2 H2 fun b H3 => if b = true then te σ2 H3 R else S H3)
    (k : ∀ H', Ex H1 H' → H' D = some (.lst (((List.range n).filter p).map f)) → Qd H') :
    ∃ W : Nat → Nat → Hp → Prop, (∃ m, W 0 m (upd H1 D (.lst []))) ∧ ∀ i m H, W i m H →
      (J.stop i H ∧ Qd H) ∨ (J.go i H ∧ ∃ Nx : Hp → Prop, (∀ H', Nx H' → ∃ m', m' < m ∧ W (i + 1) m' H') ∧ ∀ x H', J.yld i H x H' → g x (wipe σ vs) H' fun σ2 H2 => wipe σ2 vs = wipe σ vs ∧ tt σ2 H2 fun b H3 =>
        if b = true then te σ2 H3 fun y H4 => ∃ acc, H4 D = some (.lst acc) ∧ acc.length < sizeLine ∧ Nx (upd H4 D (.lst (acc ++ [y]))) else Nx H3) := by
  refine lc_it w (fun i H' => Ex H1 H' ∧ H' D = some (.lst (((List.range i).filter p).map f))) ⟨Ex.new hD, by rw [upd_same]; rfl⟩ (fun i H' _ q => hG H' q.1) (fun i x Ha Hb hi q y => ?_) (fun H' q => k H' q.1 q.2)
  refine hs i x Ha Hb _ _ hi q.1 y (fun hp H4 e4 => ?_) (fun hp H4 e4 => ?_)
  · refine ⟨_, e4 _ _ q.2, ?_, Ex.mut (q.1.trans e4) hD, ?_⟩
    · have h1 : (((List.range i).filter p).map f).length ≤ i := by
        rw [List.length_map]
        exact Nat.le_trans (List.length_filter_le _ _) (by rw [List.length_range]; exact Nat.le_refl _)
      exact Nat.lt_of_le_of_lt h1 (Nat.lt_of_lt_of_le hi (Nat.le_trans hn (by decide)))
    · rw [upd_same, List.range_succ, List.filter_append, List.map_append, List.filter_cons, if_pos hp]
      rfl
  · refine ⟨q.1.trans e4, ?_⟩
    rw [List.range_succ, List.filter_append, List.map_append, List.filter_cons, if_neg (by rw [hp]; decide)]
    show H4 D = some (.lst (_ ++ []))
    rw [List.append_nil]
    exact e4 _ _ q.2
theorem filter_all {n : Nat} : (List.range n).filter (fun _ => true) = List.range n := List.filter_eq_self.mpr fun _ _ => rfl
theorem lc_val (w : Walk J n G Y) (f : Nat → V) (hD : H1 D = none) (hG : ∀ H', Ex H1 H' → G H') (hn : n ≤ 1000000)
    (hs : ∀ (i : Nat) (x : V) (Ha Hb : Hp) (R : VK), i < n → Ex H1 Ha → Y i Ha x Hb → (∀ H4, Ex Ha H4 → R (f i) H4) → g x (wipe σ vs) Hb fun σ2 H2 => wipe σ2 vs = wipe σ vs ∧ te σ2 H2 R)
    (k : ∀ H', Ex H1 H' → H' D = some (.lst ((List.range n).map f)) → Qd H') :
    ∃ W : Nat → Nat → Hp → Prop, (∃ m, W 0 m (upd H1 D (.lst []))) ∧ ∀ i m H, W i m H →
      (J.stop i H ∧ Qd H) ∨ (J.go i H ∧ ∃ Nx : Hp → Prop, (∀ H', Nx H' → ∃ m', m' < m ∧ W (i + 1) m' H') ∧ ∀ x H', J.yld i H x H' → g x (wipe σ vs) H' fun σ2 H2 => wipe σ2 vs = wipe σ vs ∧ tYes σ2 H2 fun b H3 =>
        if b = true then te σ2 H3 fun y H4 => ∃ acc, H4 D = some (.lst acc) ∧ acc.length < sizeLine ∧ Nx (upd H4 D (.lst (acc ++ [y]))) else Nx H3) := by
  refine lc_fil w (fun _ => true) f hD hG hn (fun i x Ha Hb R S hi e y h1 h2 => ?_) (fun H' e h => k H' e (by rw [h, filter_all]))
  exact hs i x Ha Hb R hi e y (h1 rfl)
end

theorem nd_ix {α : Type} {N : List α} (hN : N.Nodup) {i j : Nat} {x : α} (a : N[i]? = some x) (b : N[j]? = some x) : i = j := by
  obtain ⟨h1, e1⟩ := List.getElem?_eq_some_iff.mp a
  obtain ⟨h2, e2⟩ := List.getElem?_eq_some_iff.mp b
  exact (List.getElem_inj hN).mp (e1.trans e2.symm)

/-! ### lists of rows -/
/-- at a stands a list of lists with these rows (read) -/
structure Rows (H : Hp) (a : Addr) (rows : List (List V)) : Prop where
  ex : ∃ as : List Addr, as.length = rows.length ∧ H a = some (.lst (as.map .ref)) ∧ ∀ (i : Nat) (b : Addr) (r : List V), as[i]? = some b → rows[i]? = some r → H b = some (.lst r)
/-- .. all of it new over H0, no two of them one -/
structure Mat (H0 H : Hp) (a : Addr) (as : List Addr) (rows : List (List V)) : Prop where
  len : as.length = rows.length
  top : H a = some (.lst (as.map .ref))
  row : ∀ (i : Nat) (b : Addr) (r : List V), as[i]? = some b → rows[i]? = some r → H b = some (.lst r)
  new : ∀ b ∈ as, H0 b = none ∧ b ≠ a
  nd : as.Nodup
  fresh : H0 a = none
theorem Mat.rows {H0 H : Hp} {a : Addr} {as : List Addr} {rows : List (List V)} (m : Mat H0 H a as rows) : Rows H a rows := ⟨as, m.len, m.top, m.row⟩
theorem Rows.ex' {H H' : Hp} {a : Addr} {rows : List (List V)} (e : Ex H H') (m : Rows H a rows) : Rows H' a rows := by
  obtain ⟨as, h1, h2, h3⟩ := m.ex
  exact ⟨as, h1, e _ _ h2, fun i b r hb hr => e _ _ (h3 i b r hb hr)⟩
theorem Mat.ex' {H0 H H' : Hp} {a : Addr} {as : List Addr} {rows : List (List V)} (e : Ex H H') (m : Mat H0 H a as rows) : Mat H0 H' a as rows :=
  ⟨m.len, e _ _ m.top, fun i b r hb hr => e _ _ (m.row i b r hb hr), m.new, m.nd, m.fresh⟩
theorem Mat.base {H0 H1 H : Hp} {a : Addr} {as : List Addr} {rows : List (List V)} (e : Ex H0 H1) (m : Mat H1 H a as rows) : Mat H0 H a as rows :=
  ⟨m.len, m.top, m.row, fun b hb => ⟨Evl.fresh_back e (m.new b hb).1, (m.new b hb).2⟩, m.nd, Evl.fresh_back e m.fresh⟩
theorem Mat.at_ {H0 H : Hp} {a : Addr} {as : List Addr} {rows : List (List V)} (m : Mat H0 H a as rows) {i : Nat} {r : List V} (h : rows[i]? = some r) : ∃ b, as[i]? = some b ∧ H b = some (.lst r) ∧ H0 b = none ∧ b ≠ a := by
  have hi : i < as.length := by
    rw [m.len]
    exact (List.getElem?_eq_some_iff.mp h).1
  refine ⟨as[i], List.getElem?_eq_getElem hi, m.row i _ r (List.getElem?_eq_getElem hi) h, m.new _ (List.getElem_mem hi)⟩
theorem Rows.at_ {H : Hp} {a : Addr} {rows : List (List V)} (m : Rows H a rows) {i : Nat} {r : List V} (h : rows[i]? = some r) : ∃ (xs : List V) (b : Addr), H a = some (.lst xs) ∧ xs.length = rows.length ∧ xs[i]? = some (.ref b) ∧ H b = some (.lst r) := by
  obtain ⟨as, h1, h2, h3⟩ := m.ex
  have hi : i < as.length := by
    rw [h1]
    exact (List.getElem?_eq_some_iff.mp h).1
  exact ⟨as.map .ref, as[i], h2, by rw [List.length_map, h1], by rw [List.getElem?_map, List.getElem?_eq_getElem hi]; rfl, h3 i _ r (List.getElem?_eq_getElem hi) h⟩
/-- one row is changed -/
theorem Mat.set {H0 H : Hp} {a : Addr} {as : List Addr} {rows : List (List V)} (m : Mat H0 H a as rows) {i : Nat} {b : Addr} (hb : as[i]? = some b) (r : List V) : Mat H0 (upd H b (.lst r)) a as (rows.set i r) := by
  have hba := (m.new b (List.mem_of_getElem? hb)).2
  refine ⟨by rw [List.length_set]; exact m.len, by rw [upd_ne (Ne.symm hba)]; exact m.top, fun j c q hc hq => ?_, m.new, m.nd, m.fresh⟩
  by_cases hj : j = i
  · subst hj
    have e : b = c := Option.some.inj (hb.symm.trans hc)
    subst e
    rw [List.getElem?_set_self (by rw [← m.len]; exact (List.getElem?_eq_some_iff.mp hb).1)] at hq
    cases hq
    exact upd_same
  · rw [List.getElem?_set_ne (Ne.symm hj)] at hq
    have hne : c ≠ b := fun z => by
      subst z
      exact hj (nd_ix m.nd hc hb)
    rw [upd_ne hne]
    exact m.row j c q hc hq
theorem Mat.upd' {H0 H : Hp} {a : Addr} {as : List Addr} {rows : List (List V)} (m : Mat H0 H a as rows) {p : Addr} {o : HO} (h1 : p ≠ a) (h2 : p ∉ as) : Mat H0 (upd H p o) a as rows :=
  ⟨m.len, by rw [upd_ne (Ne.symm h1)]; exact m.top, fun i b r hb hr => by
    rw [upd_ne (fun (z : b = p) => h2 (by rw [← z]; exact List.mem_of_getElem? hb))]
    exact m.row i b r hb hr, m.new, m.nd, m.fresh⟩

/-- a new row behind -/
theorem Mat.snoc {H0 H H4 : Hp} {a b : Addr} {as : List Addr} {rows : List (List V)} (m : Mat H0 H a as rows) (e0 : Ex H0 H) (hb : H b = none) (e : Ex H H4) {r : List V} (h : H4 b = some (.lst r)) : Mat H0 (upd H4 a (.lst (as.map .ref ++ [.ref b]))) a (as ++ [b]) (rows ++ [r]) := by
  have hba : b ≠ a := fun z => by rw [z, m.top] at hb; cases hb
  have hbas : b ∉ as := fun z => by
    obtain ⟨i, hi⟩ := List.getElem?_of_mem z
    have hl : i < rows.length := by rw [← m.len]; exact (List.getElem?_eq_some_iff.mp hi).1
    have := m.row i b _ hi (List.getElem?_eq_getElem hl)
    rw [hb] at this; cases this
  refine ⟨by rw [List.length_append, List.length_append, m.len]; rfl, by rw [upd_same, List.map_append]; rfl, fun i c q hc hq => ?_, fun c hc => ?_, ?_, m.fresh⟩
  · by_cases hi : i < as.length
    · rw [List.getElem?_append_left hi] at hc
      rw [List.getElem?_append_left (by rw [← m.len]; exact hi)] at hq
      rw [upd_ne (m.new c (List.mem_of_getElem? hc)).2]
      exact e _ _ (m.row i c q hc hq)
    · have hm' : i = as.length := by
        have hlt := (List.getElem?_eq_some_iff.mp hc).1
        rw [List.length_append, List.length_singleton] at hlt
        omega
      subst hm'
      rw [List.getElem?_append_right (Nat.le_refl _), Nat.sub_self] at hc
      rw [m.len, List.getElem?_append_right (Nat.le_refl _), Nat.sub_self] at hq
      have hc' : b = c := Option.some.inj hc
      have hq' : r = q := Option.some.inj hq
      subst hc' hq'
      rw [upd_ne hba]
      exact h
  · rcases List.mem_append.mp hc with hc | hc
    · exact m.new c hc
    · rw [List.mem_singleton.mp hc]
      exact ⟨Evl.fresh_back e0 hb, hba⟩
  · exact List.nodup_append.mpr ⟨m.nd, by simp, fun x hx y hy => by
      rw [List.mem_singleton] at hy
      intro z
      exact hbas (by rw [← hy, ← z]; exact hx)⟩
section
variable {J : It} {n : Nat} {G : Hp → Prop} {Y : Nat → Hp → V → Hp → Prop} {g : TG} {te : TE} {vs : List Nat} {σ : L2.St} {H1 : Hp} {D : Addr} {Qd : Hp → Prop}
/-- a comprehension whose items are new lists -/
theorem lc_rows (w : Walk J n G Y) (Ok : Nat → List V → Prop) (hD : H1 D = none) (hG : ∀ H', Ex H1 H' → G H') (hn : n ≤ 1000000)
    (hs : ∀ (i : Nat) (x : V) (Ha Hb : Hp) (R : VK), i < n → Ex H1 Ha → Y i Ha x Hb → (∀ b r H4, Ok i r → Ha b = none → Ex Ha H4 → H4 b = some (.lst r) → R (.ref b) H4) → g x (wipe σ vs) Hb fun σ2 H2 => wipe σ2 vs = wipe σ vs ∧ te σ2 H2 R)
    (k : ∀ H' (as : List Addr) rows, Ex H1 H' → Mat H1 H' D as rows → rows.length = n → (∀ i r, rows[i]? = some r → Ok i r) → Qd H') :
    ∃ W : Nat → Nat → Hp → Prop, (∃ m, W 0 m (upd H1 D (.lst []))) ∧ ∀ i m H, W i m H →
      (J.stop i H ∧ Qd H) ∨ (J.go i H ∧ ∃ Nx : Hp → Prop, (∀ H', Nx H' → ∃ m', m' < m ∧ W (i + 1) m' H') ∧ ∀ x H', J.yld i H x H' → g x (wipe σ vs) H' fun σ2 H2 => wipe σ2 vs = wipe σ vs ∧ tYes σ2 H2 fun b H3 =>
        if b = true then te σ2 H3 fun y H4 => ∃ acc, H4 D = some (.lst acc) ∧ acc.length < sizeLine ∧ Nx (upd H4 D (.lst (acc ++ [y]))) else Nx H3) := by
  refine lc_it w (fun i H' => Ex H1 H' ∧ ∃ (as : List Addr) (rows : List (List V)), Mat H1 H' D as rows ∧ rows.length = i ∧ ∀ i r, rows[i]? = some r → Ok i r)
    ⟨Ex.new hD, [], [], ⟨rfl, upd_same, fun i b r h => by simp at h, fun b hb => by simp at hb, List.nodup_nil, hD⟩, rfl, fun i r h => by simp at h⟩ (fun i H' _ q => hG H' q.1) (fun i x Ha Hb hi q y => ?_) (fun H' q => ?_)
  · obtain ⟨e, as, rows, m, hl, hok⟩ := q
    refine hs i x Ha Hb _ hi e y (fun b r H4 ho hb e4 h4 => ?_)
    refine ⟨_, e4 _ _ m.top, ?_, Ex.mut (e.trans e4) hD, as ++ [b], rows ++ [r], m.snoc e hb e4 h4, by rw [List.length_append, hl]; rfl, fun j q hq => ?_⟩
    · rw [List.length_map, m.len, hl]
      exact Nat.lt_of_lt_of_le hi (Nat.le_trans hn (by decide))
    · by_cases hj : j < rows.length
      · rw [List.getElem?_append_left hj] at hq
        exact hok j q hq
      · have hj' : j = rows.length := by
          have hlt := (List.getElem?_eq_some_iff.mp hq).1
          rw [List.length_append, List.length_singleton] at hlt
          omega
        subst hj'
        rw [List.getElem?_append_right (Nat.le_refl _), Nat.sub_self] at hq
        rw [← (Option.some.inj hq : r = q), hl]
        exact ho
  · obtain ⟨e, as, rows, m, hl, hok⟩ := q
    exact k H' as rows e m hl hok
end
/-! ### lists of tuples -/
structure Tups (H : Hp) (a : Addr) (rows : List (List V)) : Prop where
  ex : ∃ as : List Addr, as.length = rows.length ∧ H a = some (.lst (as.map .ref)) ∧ ∀ (i : Nat) (b : Addr) (r : List V), as[i]? = some b → rows[i]? = some r → H b = some (.tup r)
theorem Tups.ex' {H H' : Hp} {a : Addr} {rows : List (List V)} (e : Ex H H') (m : Tups H a rows) : Tups H' a rows := by
  obtain ⟨as, h1, h2, h3⟩ := m.ex
  exact ⟨as, h1, e _ _ h2, fun i b r hb hr => e _ _ (h3 i b r hb hr)⟩
theorem Tups.new {H : Hp} {a : Addr} (h : H a = some (.lst [])) : Tups H a [] := ⟨[], rfl, h, fun i b r hb => by simp at hb⟩
theorem Tups.app {H : Hp} {a t : Addr} {rows : List (List V)} (m : Tups H a rows) (ht : H t = none) (r : List V) : ∃ xs, H a = some (.lst xs) ∧ xs.length = rows.length ∧ Tups (upd (upd H t (.tup r)) a (.lst (xs ++ [.ref t]))) a (rows ++ [r]) := by
  obtain ⟨as, h1, h2, h3⟩ := m.ex
  have hta : t ≠ a := fun z => by rw [z, h2] at ht; cases ht
  refine ⟨_, h2, by rw [List.length_map, h1], as ++ [t], by rw [List.length_append, List.length_append, h1]; rfl, by rw [upd_same, List.map_append]; rfl, fun i b q hb hq => ?_⟩
  by_cases hi : i < as.length
  · rw [List.getElem?_append_left hi] at hb
    rw [List.getElem?_append_left (by rw [← h1]; exact hi)] at hq
    have h := h3 i b q hb hq
    rw [upd_ne (ne_of h h2 (by intro z; cases z))]
    exact hp_new ht h
  · have hm' : i = as.length := by
      have hlt := (List.getElem?_eq_some_iff.mp hb).1
      rw [List.length_append, List.length_singleton] at hlt
      omega
    subst hm'
    rw [List.getElem?_append_right (Nat.le_refl _), Nat.sub_self] at hb
    rw [h1, List.getElem?_append_right (Nat.le_refl _), Nat.sub_self] at hq
    rw [← (Option.some.inj hb : t = b), ← (Option.some.inj hq : r = q), upd_ne hta]
    exact upd_same
theorem Tups.pop {H : Hp} {a : Addr} {rows : List (List V)} {r : List V} (m : Tups H a (rows ++ [r])) : ∃ xs t, H a = some (.lst xs) ∧ xs[xs.length - 1]? = some (.ref t) ∧ H t = some (.tup r) ∧ t ≠ a ∧ Tups (upd H a (.lst xs.dropLast)) a rows := by
  obtain ⟨as, h1, h2, h3⟩ := m.ex
  rw [List.length_append, List.length_singleton] at h1
  have hl : rows.length < as.length := by omega
  have ht := h3 rows.length as[rows.length] r (List.getElem?_eq_getElem hl) (by rw [List.getElem?_append_right (Nat.le_refl _), Nat.sub_self]; rfl)
  have hne : as[rows.length] ≠ a := ne_of ht h2 (by intro z; cases z)
  refine ⟨_, as[rows.length], h2, ?_, ht, hne, as.dropLast, by rw [List.length_dropLast]; omega, by rw [upd_same, List.map_dropLast], fun i b q hb hq => ?_⟩
  · rw [List.length_map, h1, Nat.add_sub_cancel, List.getElem?_map, List.getElem?_eq_getElem hl]
    rfl
  · have hi : i < rows.length := (List.getElem?_eq_some_iff.mp hq).1
    rw [List.getElem?_dropLast] at hb
    rw [if_pos (by omega)] at hb
    have h := h3 i b q hb (by rw [List.getElem?_append_left hi]; exact hq)
    rw [upd_ne (ne_of h h2 (by intro z; cases z))]
    exact h
theorem Tups.at_ {H : Hp} {a : Addr} {rows : List (List V)} (m : Tups H a rows) {i : Nat} {r : List V} (h : rows[i]? = some r) : ∃ (xs : List V) (b : Addr), H a = some (.lst xs) ∧ xs.length = rows.length ∧ xs[i]? = some (.ref b) ∧ H b = some (.tup r) := by
  obtain ⟨as, h1, h2, h3⟩ := m.ex
  have hi : i < as.length := by
    rw [h1]
    exact (List.getElem?_eq_some_iff.mp h).1
  exact ⟨as.map .ref, as[i], h2, by rw [List.length_map, h1], by rw [List.getElem?_map, List.getElem?_eq_getElem hi]; rfl, h3 i _ r (List.getElem?_eq_getElem hi) h⟩
theorem Tups.of_ref {H : Hp} {a : Addr} {rows : List (List V)} (m : Tups H a rows) : ∃ xs : List V, H a = some (.lst xs) ∧ xs.length = rows.length ∧ ∀ (i : Nat) (x : V), xs[i]? = some x → ∃ (b : Addr) (r : List V), x = V.ref b ∧ rows[i]? = some r ∧ H b = some (.tup r) := by
  obtain ⟨as, h1, h2, h3⟩ := m.ex
  refine ⟨_, h2, by rw [List.length_map, h1], fun i x hx => ?_⟩
  rw [List.getElem?_map] at hx
  cases hb : as[i]? with
  | none => rw [hb] at hx; cases hx
  | some b =>
    rw [hb] at hx
    have hi : i < rows.length := by rw [← h1]; exact (List.getElem?_eq_some_iff.mp hb).1
    exact ⟨b, _, (Option.some.inj hx).symm, List.getElem?_eq_getElem hi, h3 i b _ hb (List.getElem?_eq_getElem hi)⟩
theorem Rows.of_ref {H : Hp} {a : Addr} {rows : List (List V)} (m : Rows H a rows) : ∃ xs : List V, H a = some (.lst xs) ∧ xs.length = rows.length ∧ ∀ (i : Nat) (x : V), xs[i]? = some x → ∃ (b : Addr) (r : List V), x = V.ref b ∧ rows[i]? = some r ∧ H b = some (.lst r) := by
  obtain ⟨as, h1, h2, h3⟩ := m.ex
  refine ⟨_, h2, by rw [List.length_map, h1], fun i x hx => ?_⟩
  rw [List.getElem?_map] at hx
  cases hb : as[i]? with
  | none => rw [hb] at hx; cases hx
  | some b =>
    rw [hb] at hx
    have hi : i < rows.length := by rw [← h1]; exact (List.getElem?_eq_some_iff.mp hb).1
    exact ⟨b, _, (Option.some.inj hx).symm, List.getElem?_eq_getElem hi, h3 i b _ hb (List.getElem?_eq_getElem hi)⟩

/-! ### data -/
def dV : V → PyData
  | .non => .none | .bl b => .bool b | .int i => .int i | .str z => .str z | _ => .none
def flat : V → Bool
  | .non => true | .bl _ => true | .int _ => true | .str _ => true | _ => false
section
variable {K : PySem.W.Frag} {H : Hp}
theorem dp_v {v : V} (h : flat v = true) : Dp K H v (dV v) := by
  cases v with
  | non => exact .non
  | bl b => exact .bl b
  | int i => exact .int i
  | str z => exact .str z
  | byt b => cases h
  | flt b => cases h
  | ref a => cases h
  | ty n => cases h
theorem dp_all : ∀ {vs : List V}, (∀ v ∈ vs, flat v = true) → DpAll K H vs (vs.map dV)
  | [], _ => .nil
  | v :: vs, h => .cons (dp_v (h v List.mem_cons_self)) (dp_all fun u hu => h u (List.mem_cons_of_mem _ hu))
theorem dp_row {a : Addr} {vs : List V} (h : H a = some (.lst vs)) (hf : ∀ v ∈ vs, flat v = true) : Dp K H (.ref a) (.list (vs.map dV)) := .lst (SqL.of h) (dp_all hf)
theorem dp_tup {a : Addr} {vs : List V} (h : H a = some (.tup vs)) (hf : ∀ v ∈ vs, flat v = true) : Dp K H (.ref a) (.tuple (vs.map dV)) := .tup (SqT.of h) (dp_all hf)
theorem dp_each {rows : List (List V)} {f : List V → PyData} : ∀ {as : List Addr} {rows : List (List V)}, as.length = rows.length → (∀ (i : Nat) (b : Addr) (r : List V), as[i]? = some b → rows[i]? = some r → Dp K H (.ref b) (f r)) → DpAll K H (as.map .ref) (rows.map f)
  | [], [], _, _ => .nil
  | [], _ :: _, h, _ => by simp at h
  | _ :: _, [], h, _ => by simp at h
  | a :: as, r :: rows, h, hr => .cons (hr 0 a r rfl rfl) (dp_each (rows := rows) (by simpa using h) fun i b r hb hrr => hr (i + 1) b r (by simpa using hb) (by simpa using hrr))
def dRows (rows : List (List V)) : PyData := .list (rows.map fun r => .list (r.map dV))
theorem dp_rows {a : Addr} {rows : List (List V)} (m : Rows H a rows) (hf : ∀ r ∈ rows, ∀ v ∈ r, flat v = true) : Dp K H (.ref a) (dRows rows) := by
  obtain ⟨as, h1, h2, h3⟩ := m.ex
  exact .lst (SqL.of h2) (dp_each (rows := rows) h1 fun i b r hb hr => dp_row (h3 i b r hb hr) (hf r (List.mem_of_getElem? hr)))
end
/-! equality of data -/
theorem eqv_map {α : Type} [DecidableEq α] {f : α → PyData} (h : ∀ a b, PyData.eqv (f a) (f b) = decide (a = b)) : ∀ xs ys : List α, PyData.eqvAll (xs.map f) (ys.map f) = decide (xs = ys)
  | [], [] => by simp [PyData.eqvAll]
  | [], _ :: _ => by simp [PyData.eqvAll]
  | _ :: _, [] => by simp [PyData.eqvAll]
  | x :: xs, y :: ys => by
    rw [List.map_cons, List.map_cons, PyData.eqvAll, h, eqv_map h xs ys]
    by_cases e : x = y
    · by_cases e2 : xs = ys <;> simp [e, e2]
    · simp [e]
def daS (z : Str) : PyData := .str z
def daI (i : Int) : PyData := .int i
theorem eqv_S (a b : Str) : PyData.eqv (daS a) (daS b) = decide (a = b) := by
  show PyData.eqv (.str a) (.str b) = _
  rw [PyData.eqv]
  by_cases e : a = b <;> simp [e]
theorem eqv_I (a b : Int) : PyData.eqv (daI a) (daI b) = decide (a = b) := by
  show PyData.eqv (.int a) (.int b) = _
  rw [PyData.eqv]
  by_cases e : a = b <;> simp [e]
def dL {α : Type} (f : α → PyData) (xs : List α) : PyData := .list (xs.map f)
theorem eqv_L {α : Type} [DecidableEq α] {f : α → PyData} (h : ∀ a b, PyData.eqv (f a) (f b) = decide (a = b)) (xs ys : List α) : PyData.eqv (dL f xs) (dL f ys) = decide (xs = ys) := by
  show PyData.eqv (.list _) (.list _) = _
  rw [PyData.eqv, eqv_map h]
theorem canAll {α : Type} {f : α → PyData} : ∀ {xs : List α}, (∀ x ∈ xs, (f x).canLay0 = true) → PyData.canLayAll0 (xs.map f) = true
  | [], _ => by simp [PyData.canLayAll0]
  | x :: xs, h => by
    rw [List.map_cons, PyData.canLayAll0, h x List.mem_cons_self, canAll fun y hy => h y (List.mem_cons_of_mem _ hy)]
    rfl
theorem depAll {α : Type} {f : α → PyData} {n : Nat} : ∀ {xs : List α}, (∀ x ∈ xs, (f x).depth ≤ n) → PyData.depthAll (xs.map f) ≤ n
  | [], _ => by simp [PyData.depthAll]
  | x :: xs, h => by
    rw [List.map_cons, PyData.depthAll]
    exact Nat.max_le.mpr ⟨h x List.mem_cons_self, depAll fun y hy => h y (List.mem_cons_of_mem _ hy)⟩
/-- data that may be compared: every text of signs, to a depth -/
structure Lay (d : PyData) (n : Nat) : Prop where
  can : d.canLay0 = true
  dep : d.depth ≤ n
theorem Lay.sh {d : PyData} {n : Nat} (h : Lay d n) (hn : n ≤ 64) : SeqAt.shaped d = true := by
  unfold SeqAt.shaped
  rw [h.can, decide_eq_true (Nat.le_trans h.dep hn)]
  rfl
theorem Lay.S {z : Str} (h : PyData.strOk z = true) : Lay (daS z) 0 := ⟨by show PyData.canLay0 (.str z) = true; rw [PyData.canLay0]; exact h, by show PyData.depth (.str z) ≤ 0; simp [PyData.depth]⟩
theorem Lay.I {i : Int} : Lay (daI i) 0 := ⟨by show PyData.canLay0 (.int i) = true; simp [PyData.canLay0], by show PyData.depth (.int i) ≤ 0; simp [PyData.depth]⟩
theorem Lay.L {α : Type} {f : α → PyData} {xs : List α} {n : Nat} (h : ∀ x ∈ xs, Lay (f x) n) : Lay (dL f xs) (n + 1) :=
  ⟨by show PyData.canLay0 (.list _) = true
      rw [PyData.canLay0]
      exact canAll fun x hx => (h x hx).can, by
    show PyData.depth (.list _) ≤ _
    rw [PyData.depth]
    exact Nat.succ_le_succ (depAll fun x hx => (h x hx).dep)⟩
theorem Lay.T {xs : List PyData} {n : Nat} (h : ∀ x ∈ xs, Lay x n) : Lay (.tuple xs) (n + 1) :=
  ⟨by rw [PyData.canLay0]
      have := canAll (f := fun x : PyData => x) (xs := xs) fun x hx => (h x hx).can
      rw [List.map_id'] at this
      exact this, by
    rw [PyData.depth]
    have := depAll (f := fun x : PyData => x) (xs := xs) fun x hx => (h x hx).dep
    rw [List.map_id'] at this
    exact Nat.succ_le_succ this⟩
/-! ### more steps -/
section
variable {σ : L2.St} {H : Hp} {te : TE} {ta : TA} {K : PySem.W.Frag} {x v : V}
theorem s_lc {wi : TI} {g : TG} {tt : TT} {vs : List Nat} {Q : VK} (k : wi σ H fun J H1 => ∀ D, H1 D = none → ∃ W : Nat → Nat → Hp → Prop, (∃ m, W 0 m (upd H1 D (.lst []))) ∧ ∀ i m H, W i m H →
  (J.stop i H ∧ Q (.ref D) H) ∨ (J.go i H ∧ ∃ Nx : Hp → Prop, (∀ H', Nx H' → ∃ m', m' < m ∧ W (i + 1) m' H') ∧ ∀ x H', J.yld i H x H' → g x (wipe σ vs) H' fun σ2 H2 => wipe σ2 vs = wipe σ vs ∧ tt σ2 H2 fun b H3 =>
    if b = true then te σ2 H3 fun y H4 => ∃ acc, H4 D = some (.lst acc) ∧ acc.length < sizeLine ∧ Nx (upd H4 D (.lst (acc ++ [y]))) else Nx H3)) : tLc wi g tt te vs σ H Q := k
theorem s_iStr {R : It → Hp → Prop} (k : te σ H fun v H1 => ∃ x, v = .str x ∧ R (Its x) H1) : iStr te σ H R := k
theorem s_iList {R : It → Hp → Prop} (k : te σ H fun x H1 => ∃ a, x = .ref a ∧ (∃ xs, SqL K H1 a xs) ∧ R (Itl K a) H1) : iList K te σ H R := k
theorem s_iRng1 {R : It → Hp → Prop} (k : ta σ H fun vs H1 => ∃ j : Int, vs = [.int j] ∧ -(2 ^ 62) ≤ j ∧ j < 2 ^ 62 ∧ R (Itr 0 j.toNat) H1) : iRng1 ta σ H R := k
theorem s_iRng2 {R : It → Hp → Prop} (k : ta σ H fun vs H1 => ∃ i j : Int, vs = [.int i, .int j] ∧ (-(2 ^ 62) ≤ i ∧ i < 2 ^ 62 ∧ -(2 ^ 62) ≤ j ∧ j < 2 ^ 62) ∧ R (Itr i (j - i).toNat) H1) : iRng2 ta σ H R := k
theorem s_iZip {R : It → Hp → Prop} (k : ta σ H fun vs H1 => ∃ a b xs ys, vs = [.ref a, .ref b] ∧ SqL K H1 a xs ∧ SqL K H1 b ys ∧ R (Itz K a b) H1) : iZip K ta σ H R := k
theorem s_str {z : Str} {Q : Str → Prop} (k : Q z) : ∃ c, V.str z = .str c ∧ Q c := ⟨z, rfl, k⟩
theorem s_lsq {a : Addr} {xs : List V} {Q : Addr → Prop} (h : SqL K H a xs) (k : Q a) : ∃ b, V.ref a = .ref b ∧ (∃ xs, SqL K H b xs) ∧ Q b := ⟨a, rfl, ⟨xs, h⟩, k⟩
theorem s_rg1 {n : Int} {Q : Int → Prop} (h1 : -(2 ^ 62) ≤ n) (h2 : n < 2 ^ 62) (k : Q n) : ∃ j : Int, [V.int n] = [.int j] ∧ -(2 ^ 62) ≤ j ∧ j < 2 ^ 62 ∧ Q j := ⟨n, rfl, h1, h2, k⟩
theorem s_rg2 {m n : Int} {Q : Int → Int → Prop} (h : -(2 ^ 62) ≤ m ∧ m < 2 ^ 62 ∧ -(2 ^ 62) ≤ n ∧ n < 2 ^ 62) (k : Q m n) : ∃ i j : Int, [V.int m, V.int n] = [.int i, .int j] ∧ (-(2 ^ 62) ≤ i ∧ i < 2 ^ 62 ∧ -(2 ^ 62) ≤ j ∧ j < 2 ^ 62) ∧ Q i j := ⟨m, n, rfl, h, k⟩
theorem s_zip2 {a b : Addr} {xs ys : List V} {Q : Addr → Addr → Prop} (h1 : SqL K H a xs) (h2 : SqL K H b ys) (k : Q a b) : ∃ a' b' xs ys, [V.ref a, V.ref b] = [.ref a', .ref b'] ∧ SqL K H a' xs ∧ SqL K H b' ys ∧ Q a' b' := ⟨a, b, xs, ys, rfl, h1, h2, k⟩
theorem s_allM {a : Addr} {n : Nat} {g : Nat → Bool} {Q : VK} (h : H a = some (.lst ((List.range n).map fun i => V.bl (g i)))) (k : Q (.bl ((List.range n).all g)) H) : rAll K [.ref a] H Q := by
  refine ⟨a, (List.range n).map g, rfl, SqL.of (by rw [h, List.map_map]; rfl), ?_⟩
  rw [List.all_map]
  exact k
theorem all_range {α : Type} {p : α → Bool} {d : Nat → Bool} {xs : List α} (h : ∀ i x, xs[i]? = some x → d i = p x) : (List.range xs.length).all d = xs.all p := by
  rw [Bool.eq_iff_iff, List.all_eq_true, List.all_eq_true]
  constructor
  · intro q x hx
    obtain ⟨i, hi⟩ := List.getElem?_of_mem hx
    rw [← h i x hi]
    exact q i (List.mem_range.mpr (List.getElem?_eq_some_iff.mp hi).1)
  · intro q i hi
    have hl := List.mem_range.mp hi
    rw [h i _ (List.getElem?_eq_getElem hl)]
    exact q _ (List.getElem_mem hl)
theorem map_range {α β : Type} {f : α → β} {d : Nat → β} {xs : List α} (h : ∀ i x, xs[i]? = some x → d i = f x) : (List.range xs.length).map d = xs.map f := by
  refine List.ext_getElem? fun i => ?_
  rw [List.getElem?_map, List.getElem?_map]
  by_cases hi : i < xs.length
  · rw [List.getElem?_range hi, List.getElem?_eq_getElem hi]
    show some (d i) = some (f xs[i])
    rw [h i _ (List.getElem?_eq_getElem hi)]
  · rw [List.getElem?_eq_none (by rw [List.length_range]; omega), List.getElem?_eq_none (by omega)]
    rfl
theorem if_d {p : Prop} [Decidable p] {A B : Prop} (h : p) (k : A) : if decide p = true then A else B := by rw [if_pos (decide_eq_true h)]; exact k
theorem if_n {p : Prop} [Decidable p] {A B : Prop} (h : ¬ p) (k : B) : if decide p = true then A else B := by rw [if_neg (by rw [decide_eq_false h]; decide)]; exact k
end

section
variable {K : PySem.W.Frag} {H : Hp}
theorem dp_eachT {f : List V → PyData} : ∀ {as : List Addr} {rows : List (List V)}, as.length = rows.length → (∀ (i : Nat) (b : Addr) (r : List V), as[i]? = some b → rows[i]? = some r → Dp K H (.ref b) (f r)) → DpAll K H (as.map .ref) (rows.map f)
  | [], [], _, _ => .nil
  | [], _ :: _, h, _ => by simp at h
  | _ :: _, [], h, _ => by simp at h
  | a :: as, r :: rows, h, hr => .cons (hr 0 a r rfl rfl) (dp_eachT (by simpa using h) fun i b r hb hrr => hr (i + 1) b r (by simpa using hb) (by simpa using hrr))
def dTups (rows : List (List V)) : PyData := .list (rows.map fun r => .tuple (r.map dV))
theorem dp_tups {a : Addr} {rows : List (List V)} (m : Tups H a rows) (hf : ∀ r ∈ rows, ∀ v ∈ r, flat v = true) : Dp K H (.ref a) (dTups rows) := by
  obtain ⟨as, h1, h2, h3⟩ := m.ex
  exact .lst (SqL.of h2) (dp_eachT h1 fun i b r hb hr => dp_tup (h3 i b r hb hr) (hf r (List.mem_of_getElem? hr)))
theorem s_isi {x c : V} {t u : Value} {b : Bool} {Q : VK} (h1 : ClsV c u) (h2 : TyX K H x t) (h3 : PySem.W.kitOne K t u = some b) (k : Q (.bl b) H) : rIsi K [x, c] H Q := ⟨x, c, t, u, b, rfl, h1, h2, h3, k⟩
theorem s_isiL {a : Addr} {xs : List V} {Q : VK} (h : H a = some (.lst xs)) (k : Q (.bl true) H) : rIsi K [.ref a, .ty "list"] H Q := s_isi (.ty _) (.base (.lst h)) (kit_ty (by decide +kernel)) k
theorem s_isiT {a : Addr} {xs : List V} {Q : VK} (h : H a = some (.tup xs)) (k : Q (.bl true) H) : rIsi K [.ref a, .ty "tuple"] H Q := s_isi (.ty _) (.base (.tup h)) (kit_ty (by decide +kernel)) k
theorem s_isiI {i : Int} {Q : VK} (k : Q (.bl true) H) : rIsi K [.int i, .ty "int"] H Q := s_isi (.ty _) (.base (.int i)) (kit_ty (by decide +kernel)) k
theorem s_isiB {i : Int} {Q : VK} (k : Q (.bl false) H) : rIsi K [.int i, .ty "bool"] H Q := s_isi (.ty _) (.base (.int i)) (kit_ty (by decide +kernel)) k
theorem s_isiS {z : Str} {Q : VK} (k : Q (.bl true) H) : rIsi K [.str z, .ty "str"] H Q := s_isi (.ty _) (.base (.str z)) (kit_ty (by decide +kernel)) k
theorem s_eqD {x y : V} {d e : PyData} {Q : VK} (h1 : Dp K H x d) (h2 : Dp K H y e) (l1 : Lay d 64) (l2 : Lay e 64) (k : Q (.bl (PyData.eqv d e)) H) : rEqU K x y H Q := .inr ⟨d, e, h1, h2, l1.sh (Nat.le_refl _), l2.sh (Nat.le_refl _), k⟩
theorem s_neD {x y : V} {d e : PyData} {Q : VK} (h1 : Dp K H x d) (h2 : Dp K H y e) (l1 : Lay d 64) (l2 : Lay e 64) (k : Q (.bl (!PyData.eqv d e)) H) : rNeU K x y H Q := .inr ⟨d, e, h1, h2, l1.sh (Nat.le_refl _), l2.sh (Nat.le_refl _), k⟩
theorem Lay.mono {d : PyData} {m n : Nat} (h : Lay d m) (hm : m ≤ n) : Lay d n := ⟨h.can, Nat.le_trans h.dep hm⟩
theorem s_tyL {p : Addr} {xs : List V} {A : Prop} (h : SqL K H p xs) (k : A) : tyV K "list" (.ref p) H ∧ A := ⟨Or.inl ⟨rfl, xs, h⟩, k⟩
theorem s_tyS {z : Str} {A : Prop} (k : A) : tyV K "str" (.str z) H ∧ A := ⟨rfl, k⟩
theorem atN {xs : List V} {i : Nat} {v : V} (h : xs[i]? = some v) : atI xs (i : Int) = some v := atI_nat h
end

/-! ### errors -/
structure Xc (K : PySem.W.Frag) (mg : Str → Option Value) (x : Str) (C : Addr) : Prop where
  g : mg x = some (.ref C)
  q : PySem.W.excIn K C [.type "ValueError", .type "Exception", .type "BaseException", .type "object"] "ValueError.__new__" = true
  kp : PySem.W.keepIn K (.ref C) = true
  sb : PySem.W.subIn K (.ref C) (.type "BaseException") = some true
  ty : PySem.W.typeIn K (.ref C) = some (.type "type")
def tRs (W : WX) (C : Addr) : TS := fun _ σ H => W (.ref C) none σ H
theorem s_rs {W : WX} {C : Addr} {D : Ends} {σ : L2.St} {H : Hp} (k : W (.ref C) none σ H) : tRs W C D σ H := k
theorem ps_own_raise {X : Cx} {W : WX} {x m : Str} {C : Addr} {j : Nat} {p p2 pos pos2 : Pos} (h : Xc X.K X.mg x C) (tk : Takes X W) (hc : X.calm = true) (hg : Gl X x) (hdb : (x == ("__debug__" : Str)) = false := by decide) :
    PS X (.Raise (some (.Call (.Name x p) [.Constant (.str m) j p2] [] pos)) none pos2) (tRs W C) :=
  ps_raise hc tk (pmk_own PySem.F.excBase_ValueError h.q h.g h.kp (raises_own h.sb h.ty) hg hdb)

theorem pi_tupK {X : Cx} {K : PySem.W.Frag} (h : X.K = K) {tg l : Expr} {tl : TE} (hl : PE X l tl) : PI X tg l (iTup K tl) := h ▸ pi_tup hl
section
variable {σ : L2.St} {H : Hp} {te : TE} {K : PySem.W.Frag}
theorem s_iTup {R : It → Hp → Prop} (k : te σ H fun x H1 => ∃ a, x = .ref a ∧ (∃ xs, SqT K H1 a xs) ∧ R (Itt K a) H1) : iTup K te σ H R := k
theorem s_lst_t {a : Addr} {xs : List V} {Q : Addr → Prop} (h : H a = some (.tup xs)) (k : Q a) : ∃ b, V.ref a = .ref b ∧ (∃ xs, SqT K H b xs) ∧ Q b := ⟨a, rfl, ⟨xs, SqT.of h⟩, k⟩
end

/-! ### targets of several names -/
section
variable {σ : L2.St} {H : Hp} {K : PySem.W.Frag} {Q : L2.St → Hp → Prop} {t : TGs} {g : TG} {n : Nat}
theorem s_gTup {a : Addr} {xs : List V} (h : H a = some (.tup xs)) (hn : xs.length = n) (k : t xs σ H Q) : gTup K n t (.ref a) σ H Q := ⟨a, xs, rfl, SqT.of h, hn, k⟩
theorem s_gLst {a : Addr} {xs : List V} (h : H a = some (.lst xs)) (hn : xs.length = n) (k : t xs σ H Q) : gLst K n t (.ref a) σ H Q := ⟨a, xs, rfl, SqL.of h, hn, k⟩
theorem s_gCons {v : V} {r : List V} (k : g v σ H fun σ' H' => t r σ' H' Q) : gCons g t (v :: r) σ H Q := ⟨v, r, rfl, k⟩
theorem s_gNil (k : Q σ H) : gNil [] σ H Q := ⟨rfl, k⟩
theorem s_gSub {to ti : TE} {ts : TSet} {v : V} (k : to σ H fun o H1 => ti σ H1 fun i H2 => ts o i v H2 fun H3 => Q σ H3) : gSub to ti ts v σ H Q := k
theorem s_setL {l : Addr} {xs : List V} {i : Int} {j : Nat} {v : V} {R : Hp → Prop} (h : H l = some (.lst xs)) (hj : ixN xs.length i = some j) (k : R (upd H l (.lst (xs.set j v)))) : rSetL (.ref l) (.int i) v H R := ⟨l, xs, i, j, rfl, rfl, h, hj, k⟩
theorem ixN_nat {n j : Nat} (h : j < n) : ixN n (j : Int) = some j := by
  unfold ixN
  rw [if_pos (by omega), if_pos (by omega), Int.toNat_natCast]
theorem s_slL {a : Addr} {xs : List V} {lo hi : Option Int} {R : VK} (h : SqL K H a xs) (k : ∀ p, H p = none → R (.ref p) (upd H p (.lst (cutV xs lo hi)))) : rSlU K (.ref a) lo hi H R := .inl ⟨a, xs, rfl, h, k⟩
theorem s_slS {z : Str} {lo hi : Option Int} {R : VK} (h : z.length ≤ sizeLine) (k : R (.str (cutS z lo hi)) H) : rSlU K (.str z) lo hi H R := .inr ⟨z, rfl, h, k⟩
theorem s_pop {l : Addr} {xs : List V} {y : V} {R : VK} (h : H l = some (.lst xs)) (hy : xs[xs.length - 1]? = some y) (k : R y (upd H l (.lst xs.dropLast))) : rPop (.ref l) [] H R := ⟨l, xs, y, rfl, rfl, h, hy, k⟩
theorem cut_from (xs : List V) (n : Nat) : cutV xs (some (n : Int)) none = xs.drop n := by
  unfold cutV
  rw [HT.sIx_nat, HT.sIx_none]
  by_cases h : n ≤ xs.length
  · rw [Nat.min_eq_left h, List.take_of_length_le (by rw [List.length_drop]; exact Nat.le_refl _)]
  · rw [Nat.min_eq_right (by omega), List.drop_eq_nil_of_le (Nat.le_refl _), List.drop_eq_nil_of_le (by omega), List.take_nil]
theorem cut_to (xs : List V) (n : Nat) : cutV xs none (some (n : Int)) = xs.take n := by
  unfold cutV
  rw [HT.sIx_nat, HT.sIx_none]
  show List.take (min n xs.length - 0) (List.drop 0 xs) = _
  rw [Nat.sub_zero, List.drop_zero, List.take_eq_take_iff]
  omega
end
theorem range_set {α : Type} {f g : Nat → α} {n i : Nat} {v : α} (h : ∀ j, j < n → j ≠ i → f j = g j) (hi : i < n → g i = v) : ((List.range n).map f).set i v = (List.range n).map g := by
  refine List.ext_getElem? fun j => ?_
  by_cases hj : j = i
  · subst hj
    by_cases hl : j < n
    · rw [List.getElem?_set_self (by simpa using hl), List.getElem?_map, List.getElem?_range hl, Option.map_some, hi hl]
    · rw [List.getElem?_eq_none (by simp; omega), List.getElem?_eq_none (by simp; omega)]
  · rw [List.getElem?_set_ne (Ne.symm hj), List.getElem?_map, List.getElem?_map]
    by_cases hl : j < n
    · rw [List.getElem?_range hl, Option.map_some, Option.map_some, h j hl hj]
    · rw [List.getElem?_eq_none (by simp; omega)]
      rfl
theorem Tups.mut {H : Hp} {a b : Addr} {rows : List (List V)} {ys zs : List V} (m : Tups H a rows) (hba : b ≠ a) (hb : H b = some (.lst ys)) : Tups (upd H b (.lst zs)) a rows := by
  obtain ⟨as, h1, h2, h3⟩ := m.ex
  refine ⟨as, h1, by rw [upd_ne (Ne.symm hba)]; exact h2, fun i c r hc hr => ?_⟩
  have h := h3 i c r hc hr
  rw [upd_ne (ne_of h hb (by intro z; cases z))]
  exact h

theorem walk_rg {lo : Int} {n : Nat} : Walk (Itr lo n) n (fun _ => True) (fun i H x H' => H' = H ∧ x = V.int (lo + (i : Int))) := walk_range
theorem walk_r0 {n : Nat} : Walk (Itr 0 n) n (fun _ => True) (fun i H x H' => H' = H ∧ x = V.int (i : Int)) := walk_rg.mono (fun _ _ => trivial) fun i H x H' _ _ y => ⟨y.1, by rw [y.2, Int.zero_add]⟩
theorem walk_rN {lo n : Nat} : Walk (Itr (lo : Int) n) n (fun _ => True) (fun i H x H' => H' = H ∧ x = V.int ((lo + i : Nat) : Int)) := walk_rg.mono (fun _ _ => trivial) fun i H x H' _ _ y => ⟨y.1, by rw [y.2, Int.natCast_add]⟩

theorem gen {H H9 : Hp} {p : Addr} {o : HO} (hE : upd H p o = H9) (hp : H p = none) : Ex H H9 ∧ H9 p = some o := by
  subst hE
  exact ⟨Ex.new hp, upd_same⟩

/-! ### ways that meet again -/
theorem if_join {b : Bool} {ts us : TS} {D : Ends} {σ : L2.St} {H : Hp} (J : L2.St → Hp → Prop) (h1 : b = true → ∀ N : L2.St → Hp → Prop, (∀ σ' H', J σ' H' → N σ' H') → ts { D with nx := N } σ H)
    (h2 : b = false → ∀ N : L2.St → Hp → Prop, (∀ σ' H', J σ' H' → N σ' H') → us { D with nx := N } σ H) (h : ∀ σ' H', J σ' H' → D.nx σ' H') : if b = true then ts D σ H else us D σ H := by
  cases hb : b with
  | true => rw [if_pos rfl]; exact h1 hb D.nx h
  | false => rw [if_neg (by decide)]; exact h2 hb D.nx h
theorem seq_join {ts us : TS} {D : Ends} {σ : L2.St} {H : Hp} (J : L2.St → Hp → Prop) (h1 : ∀ N : L2.St → Hp → Prop, (∀ σ' H', J σ' H' → N σ' H') → ts { D with nx := N } σ H)
    (h : ∀ σ' H', J σ' H' → us D σ' H') : tSeq ts us D σ H := h1 (us D) h
section
variable {H : Hp}
theorem s_cat {H : Hp} {l b : Addr} {xs zs : List V} {Q : VK} (h1 : H l = some (.lst xs)) (h2 : H b = some (.lst zs)) (hz : xs.length + zs.length ≤ sizeLine) (k : ∀ p, H p = none → Q (.ref p) (upd H p (.lst (xs ++ zs)))) : rPlus (.ref l) (.ref b) H Q := .inr (.inr ⟨l, b, xs, zs, rfl, rfl, h1, h2, hz, k⟩)
end
theorem no_f {b : Bool} {A : Prop} (h : b = true) (z : b = false) : A := by rw [h] at z; cases z
/-! ### caught errors -/
def rIsA (K : PySem.W.Frag) (cls : Value) (d : Option Addr) (a : Addr) : List V → Hp → VK → Prop := fun xs H Q =>
  ∃ (D : Addr) (c : V) (cv : Value) (b : Bool), cls = .ref D ∧ d = none ∧ ExcC K D ∧ xs = [.ref a, c] ∧ (∀ u, RelV c u → u = cv) ∧ PySem.W.kitOne K (.ref D) cv = some b ∧ Q (.bl b) H
theorem call_isA {X : Cx} {K : PySem.W.Frag} {a : Addr} {oe : Obj} {cls : Value} {d : Option Addr} {pn : List (Addr × Obj)} (h : X.K = K) (hz : Zc cls d oe) (hf : ∃ vs, oe.data = .fields vs) : CallR (X.suite a ((a, oe) :: pn)) (.builtin "isinstance") (rIsA K cls d a) := by
  subst h
  intro pins s σ H xs us Q I r q
  obtain ⟨D, c, cv, b, rfl, rfl, C, e, hcv, hk, q⟩ := q
  exact call_isE C hz hf pins s σ H xs us Q I r ⟨c, cv, b, e, hcv, hk, q⟩
theorem kit_sub {K : PySem.W.Frag} {C D : Addr} {b : Bool} (ic : PySem.W.isClsIn K D = true) (ty : PySem.W.typeIn K (.ref D) = some (.type "type")) (h : PySem.W.subIn K (.ref C) (.ref D) = some b) (hs : PySem.W.subIn K (.ref C) (.ref C) = some true) : PySem.W.kitOne K (.ref C) (.ref D) = some b := by
  have e2 : ((PySem.W.clsIn K D).isSome && PySem.W.typeIn K (.ref D) == some (.type "type")) = true := by
    have h2' : (PySem.W.clsIn K D).isSome = true := ic
    rw [h2', ty] <;> rfl
  by_cases e : C = D
  · subst e
    have hb : b = true := Option.some.inj (h.symm.trans hs)
    subst hb
    unfold PySem.W.kitOne
    rw [if_pos (by simp)]
  · unfold PySem.W.kitOne
    rw [if_neg (by
      intro z
      exact e (Value.ref.inj (beq_iff_eq.mp z)))]
    show (if _ = true then _ else none) = _
    rw [if_pos e2]
    exact h
theorem kit_val {K : PySem.W.Frag} {C : Addr} (h : PySem.W.subIn K (.ref C) (.type "ValueError") = some true) : PySem.W.kitOne K (.ref C) (.type "ValueError") = some true := by
  unfold PySem.W.kitOne
  rw [if_neg (by
    intro z
    have := beq_iff_eq.mp z
    cases this)]
  show (if PySem.W.kitMeta "ValueError" = true then _ else none) = _
  rw [if_pos (by decide +kernel)]
  exact h
theorem s_isA {K : PySem.W.Frag} {H : Hp} {D a C : Addr} {b : Bool} {Q : VK} (E : ExcC K D) (hk : PySem.W.kitOne K (.ref D) (.ref C) = some b) (k : Q (.bl b) H) : rIsA K (.ref D) none a [.ref a, .ref C] H Q := ⟨D, _, .ref C, b, rfl, rfl, E, rfl, fun _ r => r, hk, k⟩
theorem s_isAV {K : PySem.W.Frag} {H : Hp} {D a : Addr} {Q : VK} (E : ExcC K D) (hk : PySem.W.kitOne K (.ref D) (.type "ValueError") = some true) (k : Q (.bl true) H) : rIsA K (.ref D) none a [.ref a, .ty "ValueError"] H Q := ⟨D, _, .type "ValueError", true, rfl, rfl, E, rfl, fun _ r => r, hk, k⟩
/-- what is known of a class of errors -/
structure Xi (K : PySem.W.Frag) (mg : Str → Option Value) (x : Str) (C : Addr) : Prop where
  g : mg x = some (.ref C)
  e : ExcC K C
  ic : PySem.W.isClsIn K C = true
  ty : PySem.W.typeIn K (.ref C) = some (.type "type")
  v : PySem.W.subIn K (.ref C) (.type "ValueError") = some true
  s : PySem.W.subIn K (.ref C) (.ref C) = some true
theorem Xi.exm {K : PySem.W.Frag} {mg : Str → Option Value} {x : Str} {C D : Addr} {b : Bool} (X : Xi K mg x C) (h : PySem.W.subIn K (.ref D) (.ref C) = some b) : PySem.W.exmOne K (.ref D) (.ref C) = some b := PySem.W.exm_ref X.e.hs X.e.hd X.ty h
theorem Xi.kit {K : PySem.W.Frag} {mg : Str → Option Value} {x y : Str} {C D : Addr} {b : Bool} (X : Xi K mg x C) (Y : Xi K mg y D) (h : PySem.W.subIn K (.ref D) (.ref C) = some b) : PySem.W.kitOne K (.ref D) (.ref C) = some b := kit_sub X.ic X.ty h Y.s
theorem Xi.val {K : PySem.W.Frag} {mg : Str → Option Value} {x : Str} {C : Addr} (X : Xi K mg x C) : PySem.W.kitOne K (.ref C) (.type "ValueError") = some true := kit_val X.v
def topS (i : Nat) : Stmt := PySem.Challenge.pw_evencolumns_k09_not_cut.main.body.getD i (.Pass ⟨0, 0, 0, 0⟩)
structure Cn (mg : Str → Option Value) : Prop where
  MOST_SIGNS : ∃ t, mg "MOST_SIGNS" = some (.int 8 t)
structure XXs (K : PySem.W.Frag) (mg : Str → Option Value) (c_ColumnError c_NoPage c_NoCut : Addr) : Prop where
  i_ColumnError : Xi K mg "ColumnError" c_ColumnError
  i_NoPage : Xi K mg "NoPage" c_NoPage
  i_NoCut : Xi K mg "NoCut" c_NoCut
  u_ColumnError_NoPage : PySem.W.subIn K (.ref c_ColumnError) (.ref c_NoPage) = some false
  u_ColumnError_NoCut : PySem.W.subIn K (.ref c_ColumnError) (.ref c_NoCut) = some false
  u_NoPage_ColumnError : PySem.W.subIn K (.ref c_NoPage) (.ref c_ColumnError) = some true
  u_NoPage_NoCut : PySem.W.subIn K (.ref c_NoPage) (.ref c_NoCut) = some false
  u_NoCut_ColumnError : PySem.W.subIn K (.ref c_NoCut) (.ref c_ColumnError) = some true
  u_NoCut_NoPage : PySem.W.subIn K (.ref c_NoCut) (.ref c_NoPage) = some false
local macro_rules | `(tactic| walk_at "hp") => `(tactic| first
  | assumption
  | exact upd_same
  | (refine' hp_new (by assumption) ?h; (case h => walk_at "hp"))
  | (refine' hp_ex (by assumption) ?h; (case h => walk_at "hp"))
  | (refine' hp_ne (by assumption) ?h; (case h => walk_at "hp"))
  | (refine' hp_ne' (by assumption) ?h; (case h => walk_at "hp")))
local macro_rules | `(tactic| walk_at "sq") => `(tactic| first
  | assumption
  | (refine' SqL.of ?h; (case h => walk_at "hp"))
  | (refine' Evl.ex_l (by assumption) ?h; (case h => walk_at "sq")))
local macro_rules | `(tactic| walk_at "st") => `(tactic| first
  | with_reducible refine s_seq ?_
  | with_reducible refine s_asg ?_
  | with_reducible refine s_name ?_
  | with_reducible refine s_ret ?_
  | with_reducible refine s_drop ?_
  | with_reducible refine s_next ?_
  | with_reducible refine s_ifs ?_
  | ((with_reducible refine' s_var ?h ?k); (case h => rfl))
  | with_reducible refine s_c ?_
  | with_reducible refine s_op ?_
  | with_reducible refine s_test ?_
  | with_reducible refine s_tb ?_
  | with_reducible refine s_and ?_
  | with_reducible refine s_or ?_
  | with_reducible refine s_not ?_
  | with_reducible refine s_yes ?_
  | with_reducible refine s_andV ?_
  | with_reducible refine s_orV ?_
  | with_reducible refine s_notV ?_
  | with_reducible refine s_ifx ?_
  | with_reducible refine s_chain ?_
  | with_reducible refine s_chain3 ?_
  | with_reducible refine s_lstRg ?_
  | with_reducible refine s_lstRg2 ?_
  | with_reducible refine s_call ?_
  | with_reducible refine s_callS ?_
  | with_reducible refine s_cons ?_
  | with_reducible refine s_nil ?_
  | with_reducible refine s_cb ?_
  | with_reducible refine s_bm ?_
  | with_reducible refine s_bm0 ?_
  | with_reducible refine s_sl ?_
  | with_reducible refine s_part ?_
  | with_reducible refine s_nopart ?_
  | with_reducible refine s_un ?_
  | with_reducible refine s_plus ?_
  | with_reducible refine s_minus ?_
  | ((with_reducible refine' s_times ?h ?k); (case h => first | exact Or.inr ⟨by decide, by decide⟩ | exact Or.inl ⟨by decide, by decide⟩ | (refine Or.inl ⟨?_, ?_⟩ <;> omega) | (refine Or.inr ⟨?_, ?_⟩ <;> omega)))
  | ((with_reducible refine' s_div ?h ?k); (case h => exact ⟨by decide, by decide⟩))
  | ((with_reducible refine' s_mod ?h ?k); (case h => first | decide | omega))
  | with_reducible refine s_ltI ?_
  | with_reducible refine s_gtI ?_
  | with_reducible refine s_geI ?_
  | with_reducible refine s_leI ?_
  | with_reducible refine s_leS ?_
  | with_reducible refine s_eqI ?_
  | with_reducible refine s_neI ?_
  | with_reducible refine s_eqS ?_
  | with_reducible refine s_neS ?_
  | with_reducible refine s_isN ?_
  | with_reducible refine s_notN ?_
  | with_reducible refine s_i0 ?_
  | with_reducible refine s_mx2 ?_
  | with_reducible refine s_intI ?_
  | with_reducible refine s_intB ?_
  | with_reducible refine s_bl ?_
  | with_reducible refine s_int ?_
  | ((with_reducible refine' s_lenL ?h ?k); (case h => walk_at "sq"))
  | with_reducible refine s_lst ?_
  | with_reducible refine s_tup ?_
  | with_reducible refine s_lc ?_
  | with_reducible refine s_iStr ?_
  | with_reducible refine s_iList ?_
  | with_reducible refine s_iTup ?_
  | ((with_reducible refine' s_lst_t ?h ?k); (case h => walk_at "hp"))
  | with_reducible refine s_iRng1 ?_
  | with_reducible refine s_iRng2 ?_
  | with_reducible refine s_iZip ?_
  | with_reducible refine s_for ?_
  | with_reducible refine s_str ?_
  | ((with_reducible refine' s_gTup ?h ?g ?k); (case h => walk_at "hp"); (case g => rfl))
  | ((with_reducible refine' s_gLst ?h ?g ?k); (case h => walk_at "hp"); (case g => rfl))
  | with_reducible refine s_gCons ?_
  | with_reducible refine s_gNil ?_
  | with_reducible refine s_gSub ?_
  | ((with_reducible refine' s_slL ?h ?k); (case h => walk_at "sq"))
  | with_reducible refine s_isiI ?_
  | with_reducible refine s_isiB ?_
  | with_reducible refine s_isiS ?_
  | ((with_reducible refine' s_isiL ?h ?k); (case h => walk_at "hp"))
  | ((with_reducible refine' s_isiT ?h ?k); (case h => walk_at "hp"))
  | ((with_reducible refine' s_tyL ?h ?k); (case h => walk_at "sq"))
  | with_reducible refine s_tyS ?_
  | with_reducible refine s_rs ?_
  | with_reducible refine s_callS ?_
  | ((with_reducible refine' s_lsq ?h ?k); (case h => walk_at "sq"))
  | with_reducible refine s_rg1 (by omega) (by omega) ?_
  | with_reducible refine s_rg2 (by omega) ?_
  | ((with_reducible refine' s_zip2 ?h ?g ?k); (case h => walk_at "sq"); (case g => walk_at "sq")))
local macro_rules | `(tactic| walk_at "go") => `(tactic| repeat walk_at "st")
/-! ### is_cell, is_line, is_page -/
def okC (c : Nat) : Bool := decide (33 ≤ c) && decide (c ≤ 126)
def isCell (z : Str) : Bool := decide (z.length ≤ 8) && z.cps.toList.all okC
def isLine (r : List Str) : Bool := decide (1 ≤ r.length) && (decide (r.length ≤ 6) && r.all isCell)
def isPage (P : List (List Str)) : Bool := decide (1 ≤ P.length) && (decide (P.length ≤ 20) && P.all isLine)
abbrev rowV (r : List Str) : List V := r.map V.str
abbrev pgV (P : List (List Str)) : List (List V) := P.map rowV
/-- texts of a size, lines of a size -/
def Small (n : Nat) (P : List (List Str)) : Prop := P.length ≤ n ∧ ∀ r ∈ P, r.length ≤ n ∧ ∀ z ∈ r, z.length ≤ n
theorem code_lt {a b : Nat} : decide (([a] : List Nat) < [b]) = decide (a < b) := by
  rw [decide_eq_decide]
  constructor
  · intro h
    cases h with
    | rel h => exact h
    | cons h => exact absurd h (by simp)
  · intro h
    exact .rel h
theorem le_lo {c : Nat} : (!decide ((⟨#[c]⟩ : Str).cps.toList < (Str.ofString "!").cps.toList)) = decide (33 ≤ c) := by
  have h : (Str.ofString "!").cps.toList = [33] := by decide +kernel
  rw [h]
  show (!decide (([c] : List Nat) < [33])) = _
  rw [code_lt, ← decide_not, decide_eq_decide]
  omega
theorem le_hi {c : Nat} : (!decide ((Str.ofString "~").cps.toList < (⟨#[c]⟩ : Str).cps.toList)) = decide (c ≤ 126) := by
  have h : (Str.ofString "~").cps.toList = [126] := by decide +kernel
  rw [h]
  show (!decide (([126] : List Nat) < [c])) = _
  rw [code_lt, ← decide_not, decide_eq_decide]
  omega
theorem filter_nil {p : Nat → Bool} {z : Str} : ((List.range z.cps.size).filter fun i => !p (z.cps.getD i 0)).length = 0 ↔ z.cps.toList.all p = true := by
  rw [List.length_eq_zero_iff, List.filter_eq_nil_iff, List.all_eq_true]
  constructor
  · intro h c hc
    obtain ⟨i, hi⟩ := List.getElem?_of_mem hc
    have hl : i < z.cps.size := by
      have := (List.getElem?_eq_some_iff.mp hi).1
      simpa using this
    have h2 := h i (List.mem_range.mpr hl)
    rw [Array.getD_eq_getD_getElem?, ← Array.getElem?_toList, hi] at h2
    simpa using h2
  · intro h i hi
    have hl := List.mem_range.mp hi
    rw [Array.getD_eq_getD_getElem?, Array.getElem?_eq_getElem hl]
    have := h _ (Array.getElem_mem_toList hl)
    simpa using this
section
variable {P : Program} {w : World} {K : PySem.W.Frag} {mg : Str → Option Value} {base : Heap}
def sp_is_cell : Sp := fun vs H Q _ => ∃ z : Str, vs = [.str z] ∧ z.length ≤ 100000 ∧ ∀ H', Ex H H' → Q (.bl (isCell z)) H'
abbrev s_is_cell : Stmt := topS 6
abbrev n_is_cell : List Str := ["text", "sign"]
theorem sc_is_cell : FnScope n_is_cell ["text"] (defScope s_is_cell) := ⟨rfl, rfl, rfl, by decide +kernel, rfl, by decide +kernel, by decide +kernel⟩

theorem ok_is_cell (D : Std K mg "is_cell" s_is_cell ["text"]) (T : Bl mg) (C : Cn mg) : Has P w K mg base CX0 1 "is_cell" ["text"] sp_is_cell := by
  refine D.ok sc_is_cell (fun vs H Q E h => ?_) (fun f cdv A outer s H vs Q E hr h => ⟨_, (pss_one (ps_ret (pe_and (pe_cmpR op_leU (pe_callB (call_lenK (K := K) rfl) (by rfl) T.len PySem.boot_len (pa_cons (pv 0) pa_nil)) (pe_num C.MOST_SIGNS (by rfl)) (nomark _)) (pe_one (pe_callB (cr_allK (K := K) rfl rfl) (by rfl) T.all (by decide +kernel) (pa_cons (pe_lc (own := [("sign", 1)]) (g := gName 1) (tt := tYes) rfl sc_is_cell.nd (pi_str (pv 0)) (blkOk_by (N := n_is_cell) (sc := defScope s_is_cell) (by decide +kernel)) (fun _ _ _ _ _ => (pg_name (i := 1) sc_is_cell.nd rfl (Or.inl rfl))) (fun _ _ _ _ _ => pts_nil) (fun _ _ _ _ _ => (pe_chain op_leU op_leU pe_str (pv 1) pe_str))) pa_nil)))))), ?_⟩)
  · obtain ⟨z, rfl, _⟩ := h
    rfl
  · obtain ⟨z, rfl, hz, q⟩ := h
    walk_at "go"
    refine s_lenS (Nat.le_trans hz (by decide)) ?_
    walk_at "go"
    by_cases h8 : z.length ≤ 8
    · refine if_d (by omega) ?_
      walk_at "go"
      intro D hD
      refine lc_val walk_str (fun i => V.bl (okC (z.cps.getD i 0))) hD (fun _ _ => trivial) (Nat.le_trans h8 (by decide)) (fun i x Ha Hb R hi e y k => ?_) (fun H' e h => ?_)
      · obtain ⟨rfl, c, hc, rfl⟩ := y
        have hk := k _ (Ex.refl _)
        have hg : z.cps.getD i 0 = c := by rw [Array.getD_eq_getD_getElem?, hc]; rfl
        simp only [hg] at hk
        refine ⟨rfl, ?_⟩
        walk_at "go"
        rw [le_lo]
        by_cases h1 : 33 ≤ c
        · refine if_d h1 ?_
          walk_at "go"
          rw [le_hi]
          unfold okC at hk
          rw [decide_eq_true h1, Bool.true_and] at hk
          exact hk
        · refine if_n h1 ?_
          unfold okC at hk
          rw [decide_eq_false h1, Bool.false_and] at hk
          exact hk
      · walk_at "go"
        refine s_allM h ?_
        have hq := q _ e
        unfold isCell at hq
        rw [decide_eq_true h8, Bool.true_and] at hq
        have := all_range (xs := z.cps.toList) (p := okC) (d := fun i => okC (z.cps.getD i 0)) (fun i x hx => by
          rw [Array.getD_eq_getD_getElem?, ← Array.getElem?_toList, hx]; rfl)
        rw [Array.length_toList] at this
        rw [this]
        exact hq
    · refine if_n (by omega) ?_
      have hq := q _ (Ex.refl _)
      unfold isCell at hq
      rw [decide_eq_false h8, Bool.false_and] at hq
      exact hq
theorem pgV_len (P : List (List Str)) : (pgV P).length = P.length := List.length_map ..
theorem pgV_get {G : List (List Str)} {i : Nat} {r : List Str} (h : G[i]? = some r) : (pgV G)[i]? = some (rowV r) := by rw [List.getElem?_map, h]; rfl
theorem pgV_at {P : List (List Str)} {i : Nat} {r : List V} (h : (pgV P)[i]? = some r) : ∃ q, P[i]? = some q ∧ r = rowV q := by
  rw [List.getElem?_map] at h
  cases hq : P[i]? with
  | none => rw [hq] at h; cases h
  | some q => rw [hq] at h; exact ⟨q, rfl, (Option.some.inj h).symm⟩
end

/-! ### blocks -/
theorem lastD {α : Type} (l : List α) (x d : α) : (l ++ [x]).getLastD d = x := by
  rw [List.getLastD_eq_getLast?, List.getLast?_concat]
  rfl
/-- the stretches among the first i lines -/
def segs (cl : Nat → Bool) : Nat → List (Nat × Nat)
  | 0 => []
  | i + 1 => if cl i = true then (if 0 < i ∧ cl (i - 1) = true then (segs cl i).dropLast ++ [(((segs cl i).getLastD (0, 0)).1, i)] else segs cl i ++ [(i, i)]) else segs cl i
/-- line i has a closed cell in column c -/
def clo (P : List (List Str)) (c i : Nat) : Bool := decide (c + 1 < (P.getD i []).length)
def blkC (P : List (List Str)) (c : Nat) : List (Nat × Nat × Nat) := (segs (clo P c) P.length).map fun s => (c, s.1, s.2)
def blkTo (P : List (List Str)) (n : Nat) : List (Nat × Nat × Nat) := (List.range n).flatMap (blkC P)
def blk (P : List (List Str)) : List (Nat × Nat × Nat) := blkTo P 5
def bV (b : Nat × Nat × Nat) : List V := [.int b.1, .int b.2.1, .int b.2.2]
abbrev blV (l : List (Nat × Nat × Nat)) : List (List V) := l.map bV
theorem blkTo_succ (P : List (List Str)) (n : Nat) : blkTo P (n + 1) = blkTo P n ++ blkC P n := by
  unfold blkTo
  rw [List.range_succ, List.flatMap_append]
  simp
theorem segs_last {cl : Nat → Bool} : ∀ {i : Nat}, 0 < i → cl (i - 1) = true → ∃ l f, segs cl i = l ++ [(f, i - 1)]
  | 0, h, _ => absurd h (Nat.lt_irrefl _)
  | i + 1, _, hc => by
    rw [Nat.add_sub_cancel] at hc
    unfold segs
    rw [if_pos hc]
    by_cases h : 0 < i ∧ cl (i - 1) = true
    · rw [if_pos h]
      exact ⟨_, _, rfl⟩
    · rw [if_neg h]
      exact ⟨_, _, rfl⟩
theorem segs_on {cl : Nat → Bool} {i : Nat} {l : List (Nat × Nat)} {f : Nat} (hc : cl i = true) (h0 : 0 < i) (h1 : cl (i - 1) = true) (h : segs cl i = l ++ [(f, i - 1)]) : segs cl (i + 1) = l ++ [(f, i)] := by
  rw [segs, if_pos hc, if_pos ⟨h0, h1⟩, h, List.dropLast_concat, lastD]
theorem segs_new {cl : Nat → Bool} {i : Nat} (hc : cl i = true) (h : ¬ (0 < i ∧ cl (i - 1) = true)) : segs cl (i + 1) = segs cl i ++ [(i, i)] := by
  rw [segs, if_pos hc, if_neg h]
theorem segs_off {cl : Nat → Bool} {i : Nat} (hc : cl i = false) : segs cl (i + 1) = segs cl i := by
  rw [segs, if_neg (by rw [hc]; decide)]
theorem segs_len {cl : Nat → Bool} : ∀ i, (segs cl i).length ≤ i
  | 0 => Nat.le_refl _
  | i + 1 => by
    have h := segs_len (cl := cl) i
    unfold segs
    split
    · split
      · rw [List.length_append, List.length_dropLast, List.length_singleton]; omega
      · rw [List.length_append, List.length_singleton]; omega
    · omega
theorem blkTo_len (P : List (List Str)) : ∀ n, (blkTo P n).length ≤ n * P.length
  | 0 => by simp [blkTo]
  | n + 1 => by
    rw [blkTo_succ, List.length_append, blkC, List.length_map]
    have h1 := blkTo_len P n
    have h2 := segs_len (cl := clo P n) P.length
    rw [Nat.succ_mul]
    omega
/-- the stretches lie within the lines; each line of them is closed -/
theorem segs_in {cl : Nat → Bool} : ∀ {i : Nat} {s : Nat × Nat}, s ∈ segs cl i → s.1 ≤ s.2 ∧ s.2 < i ∧ ∀ k, s.1 ≤ k → k ≤ s.2 → cl k = true
  | 0, _, h => by simp [segs] at h
  | i + 1, s, h => by
    unfold segs at h
    split at h
    · rename_i hc
      split at h
      · rename_i hh
        obtain ⟨l, f, e⟩ := segs_last hh.1 hh.2
        rw [e, List.dropLast_concat] at h
        have hf := segs_in (i := i) (s := (f, i - 1)) (by rw [e]; simp)
        rcases List.mem_append.mp h with h | h
        · have := segs_in (i := i) (s := s) (by rw [e]; exact List.mem_append_left _ h)
          exact ⟨this.1, by omega, this.2.2⟩
        · rw [List.mem_singleton] at h
          subst h
          have e2 : (List.getLastD (l ++ [(f, i - 1)]) (0, 0)).1 = f := by rw [lastD]
          refine ⟨?_, Nat.lt_succ_self _, fun k h1 h2 => ?_⟩
          · show (List.getLastD (l ++ [(f, i - 1)]) (0, 0)).1 ≤ i
            rw [e2]
            have := hf.1
            simp only at this
            omega
          · by_cases hk : k = i
            · rw [hk]; exact hc
            · refine hf.2.2 k ?_ ?_
              · have h1' : (List.getLastD (l ++ [(f, i - 1)]) (0, 0)).1 ≤ k := h1
                rw [e2] at h1'
                exact h1'
              · show k ≤ i - 1
                have : k ≤ i := h2
                omega
      · rcases List.mem_append.mp h with h | h
        · have := segs_in (i := i) (s := s) h
          exact ⟨this.1, by omega, this.2.2⟩
        · rw [List.mem_singleton] at h
          subst h
          exact ⟨Nat.le_refl _, Nat.lt_succ_self _, fun k h1 h2 => by
            have : k = i := Nat.le_antisymm h2 h1
            rw [this]; exact hc⟩
    · have := segs_in (i := i) (s := s) h
      exact ⟨this.1, by omega, this.2.2⟩
theorem small_of_page {P : List (List Str)} (h : isPage P = true) : Small 100000 P := by
  unfold isPage at h
  simp only [Bool.and_eq_true, decide_eq_true_eq, List.all_eq_true] at h
  refine ⟨by omega, fun r hr => ?_⟩
  have h2 := h.2.2 r hr
  unfold isLine at h2
  simp only [Bool.and_eq_true, decide_eq_true_eq, List.all_eq_true] at h2
  refine ⟨by omega, fun z hz => ?_⟩
  have h3 := h2.2.2 z hz
  unfold isCell at h3
  simp only [Bool.and_eq_true, decide_eq_true_eq] at h3
  omega
theorem Small.mono {m n : Nat} {G : List (List Str)} (h : Small m G) (hm : m ≤ n) : Small n G := ⟨Nat.le_trans h.1 hm, fun r hr => ⟨Nat.le_trans (h.2 r hr).1 hm, fun z hz => Nat.le_trans ((h.2 r hr).2 z hz) hm⟩⟩
/-! ### the law's page -/
theorem s_ixS {K : PySem.W.Frag} {H : Hp} {z : Str} {i : Int} {c : Nat} {Q : VK} (hz : z.length ≤ sizeLine) (ha : atI z.cps.toList i = some c) (k : Q (.str ⟨#[c]⟩) H) : rIx K (.str z) (.int i) H Q := .inr (.inr ⟨z, i, c, rfl, rfl, hz, ha, k⟩)
theorem join_one : ∀ cs : List Nat, Str.join (Str.ofString "") (cs.map fun c => (⟨#[c]⟩ : Str)) = ⟨cs.toArray⟩
  | [] => rfl
  | [c] => rfl
  | c :: d :: r => by
    have h := join_one (d :: r)
    have he : Str.ofString "" = ⟨#[]⟩ := by decide +kernel
    show (⟨#[c]⟩ : Str) ++ Str.ofString "" ++ Str.join (Str.ofString "") ((d :: r).map fun c => (⟨#[c]⟩ : Str)) = _
    rw [h, he]
    show (⟨#[c] ++ #[] ++ (d :: r).toArray⟩ : Str) = _
    simp
theorem join_ones (cs : List Nat) : Txt.join (Str.ofString "") (cs.map fun c => (⟨#[c]⟩ : Str)) = ⟨cs.toArray⟩ := by
  rw [TL.join_eq]
  exact join_one cs
theorem s_join {K : PySem.W.Frag} {H : Hp} {a : Str} {p : Addr} {ys : List Str} {Q : VK} (h : H p = some (.lst (ys.map V.str))) (hz : (ys.map (·.length)).sum + ys.length * a.length ≤ 16777216) (k : Q (.str (Txt.join a ys)) H) : rJoin K (.str a) [.ref p] H Q :=
  ⟨a, p, ys, rfl, rfl, .inl (SqL.of h), hz, k⟩
theorem sum_le {xs : List Nat} {n : Nat} (h : ∀ x ∈ xs, x ≤ n) : xs.sum ≤ xs.length * n := by
  induction xs with
  | nil => simp
  | cons x r ih =>
    have h1 := h x List.mem_cons_self
    have h2 := ih fun y hy => h y (List.mem_cons_of_mem _ hy)
    rw [List.sum_cons, List.length_cons, Nat.succ_mul]
    omega
section
variable {P : Program} {w : World} {K : PySem.W.Frag} {mg : Str → Option Value} {base : Heap}
def sp_law_cell_at (K : PySem.W.Frag) : Sp := fun vs H Q _ => ∃ (a : Addr) (ns : List Int) (k : Int), vs = [.ref a, .int k] ∧ SqL K H a (ns.map V.int) ∧ 0 ≤ k ∧ ∀ (n : Int) H', n = ns.getD k.toNat 0 → Ex H H' → Q (.int n) H'
abbrev s_law_cell_at : Stmt := topS 11
abbrev n_law_cell_at : List Str := ["script", "k"]
theorem sc_law_cell_at : FnScope n_law_cell_at ["script", "k"] (defScope s_law_cell_at) := ⟨rfl, rfl, rfl, by decide +kernel, rfl, by decide +kernel, by decide +kernel⟩

theorem ok_law_cell_at (D : Std K mg "_law_cell_at" s_law_cell_at ["script", "k"]) (T : Bl mg) : Has P w K mg base CX0 1 "_law_cell_at" ["script", "k"] (sp_law_cell_at K) := by
  refine D.ok sc_law_cell_at (fun vs H Q E h => ?_) (fun f cdv A outer s H vs Q E hr h => ⟨_, (pss_cons (ps_if (pt_cmpR op_ltI (pv 1) (pe_callB (call_lenK (K := K) rfl) (by rfl) T.len PySem.boot_len (pa_cons (pv 0) pa_nil)) (nomark _)) (pss_one (ps_ret (pe_ix (ix_seqK (K := K) rfl) (pv 0) (pv 1) (fun _ _ => rfl)))) pss_nil)
      (pss_one (ps_ret pe_int))), ?_⟩)
  · obtain ⟨b, r, k, rfl, _⟩ := h
    rfl
  · obtain ⟨a, ns, k, rfl, hs, hk, q⟩ := h
    have hlen : (ns.map V.int).length = ns.length := List.length_map ..
    walk_at "go"
    by_cases h : k.toNat < ns.length
    · refine if_d (by omega) ?_
      walk_at "go"
      refine s_ixL hs (v := .int ns[k.toNat]) ?_ ?_
      · obtain ⟨m, rfl⟩ : ∃ m : Nat, k = (m : Int) := ⟨k.toNat, by omega⟩
        refine atN ?_
        simp only [Int.toNat_natCast] at h ⊢
        rw [List.getElem?_map, List.getElem?_eq_getElem h]
        rfl
      · exact q _ _ (by rw [List.getD_eq_getElem?_getD, List.getElem?_eq_getElem h]; rfl) (Ex.refl _)
    · refine if_n (by omega) ?_
      walk_at "go"
      exact q _ _ (by rw [List.getD_eq_getElem?_getD, List.getElem?_eq_none (by omega)]; rfl) (Ex.refl _)
def sp_law_text : Sp := fun vs H Q _ => ∃ (n : Int), vs = [.int n] ∧ 0 ≤ n ∧ n < 1000000 ∧ ∀ z H', isCell z = true → Ex H H' → Q (.str z) H'
abbrev s_law_text : Stmt := topS 13
abbrev n_law_text : List Str := ["seed", "signs", "j"]
theorem sc_law_text : FnScope n_law_text ["seed"] (defScope s_law_text) := ⟨rfl, rfl, rfl, by decide +kernel, rfl, by decide +kernel, by decide +kernel⟩

theorem ok_law_text (D : Std K mg "_law_text" s_law_text ["seed"]) (T : Bl mg) : Has P w K mg base CX0 1 "_law_text" ["seed"] sp_law_text := by
  refine D.ok sc_law_text (fun vs H Q E h => ?_) (fun f cdv A outer s H vs Q E hr h => ⟨_, (pss_cons (ps_set (i := 1) sc_law_text.nd rfl (Or.inr rfl) pe_str)
      (pss_one (ps_ret (pe_bmK (K := K) rfl PySem.F.plainAttrs_str PySem.F.slot_str_join PySem.F.type_str_join (mt_joinK (K := K) rfl) pe_str (pa_cons (pe_lc (own := [("j", 2)]) (g := gName 2) (tt := tYes) rfl sc_law_text.nd (pi_range1 (by rfl) T.range (pa_cons (pe_op op_modd (pv 0) pe_int) pa_nil)) (blkOk_by (N := n_law_text) (sc := defScope s_law_text) (by decide +kernel)) (fun _ _ _ _ _ => (pg_name (i := 2) sc_law_text.nd rfl (Or.inl rfl))) (fun _ _ _ _ _ => pts_nil) (fun _ _ _ _ _ => (pe_ix (ix_seqK (K := K) rfl) (pv 1) (pe_op op_modd (pe_op op_plus (pe_op op_divv (pv 0) pe_int) (pe_op op_times (pv 2) (pe_op op_plus pe_int (pe_op op_modd (pe_op op_divv (pv 0) pe_int) pe_int)))) pe_int) (fun _ _ => rfl)))) pa_nil))))), ?_⟩)
  · obtain ⟨c, rfl, _⟩ := h
    rfl
  · obtain ⟨n, rfl, h0, h1, q⟩ := h
    have a1 := Int.emod_nonneg n (b := 9) (by decide)
    have a2 := Int.emod_lt_of_pos n (b := 9) (by decide)
    have zs : (Str.ofString "ab!~-0.Z").cps.toList = [97, 98, 33, 126, 45, 48, 46, 90] := by decide +kernel
    walk_at "go"
    intro Dl hD
    refine lc_val walk_range (fun i => V.str ⟨#[((Str.ofString "ab!~-0.Z").cps.toList).getD (((n / 9 + (i : Int) * (1 + n / 72 % 7)) % 8).toNat) 0]⟩) hD (fun _ _ => trivial) (by omega) (fun i x Ha Hb R hi e y k => ?_) (fun H' e h => ?_)
    · obtain ⟨rfl, rfl⟩ := y
      refine ⟨rfl, ?_⟩
      walk_at "go"
      simp only [Int.zero_add]
      have b1 := Int.emod_nonneg (n / 9 + (i : Int) * (1 + n / 72 % 7)) (b := 8) (by decide)
      have b2 := Int.emod_lt_of_pos (n / 9 + (i : Int) * (1 + n / 72 % 7)) (b := 8) (by decide)
      refine s_ixS (by decide +kernel) ?_ (k _ (Ex.refl _))
      generalize (n / 9 + (i : Int) * (1 + n / 72 % 7)) % 8 = j at b1 b2 ⊢
      obtain ⟨m, rfl⟩ : ∃ m : Nat, j = (m : Int) := ⟨j.toNat, by omega⟩
      refine atI_nat ?_
      rw [Int.toNat_natCast, List.getD_eq_getElem?_getD, List.getElem?_eq_getElem (by rw [zs]; show m < 8; omega)]
      rfl
    · walk_at "go"
      have hcs : ∀ c ∈ (List.range ((n % 9).toNat)).map (fun i : Nat => ((Str.ofString "ab!~-0.Z").cps.toList).getD (((n / 9 + (i : Int) * (1 + n / 72 % 7)) % 8).toNat) 0), okC c = true := by
        intro c hc
        obtain ⟨i, hi, rfl⟩ := List.mem_map.mp hc
        have b1 := Int.emod_nonneg (n / 9 + (i : Int) * (1 + n / 72 % 7)) (b := 8) (by decide)
        have b2 := Int.emod_lt_of_pos (n / 9 + (i : Int) * (1 + n / 72 % 7)) (b := 8) (by decide)
        generalize (n / 9 + (i : Int) * (1 + n / 72 % 7)) % 8 = j at b1 b2 ⊢
        obtain ⟨m, rfl⟩ : ∃ m : Nat, j = (m : Int) := ⟨j.toNat, by omega⟩
        rw [Int.toNat_natCast, zs]
        have hm : m < 8 := by omega
        match m, hm with
        | 0, _ => rfl
        | 1, _ => rfl
        | 2, _ => rfl
        | 3, _ => rfl
        | 4, _ => rfl
        | 5, _ => rfl
        | 6, _ => rfl
        | 7, _ => rfl
      have hlen : ((List.range ((n % 9).toNat)).map (fun i : Nat => ((Str.ofString "ab!~-0.Z").cps.toList).getD (((n / 9 + (i : Int) * (1 + n / 72 % 7)) % 8).toNat) 0)).length = (n % 9).toNat := by
        rw [List.length_map, List.length_range]
      generalize hcsd : (List.range ((n % 9).toNat)).map (fun i : Nat => ((Str.ofString "ab!~-0.Z").cps.toList).getD (((n / 9 + (i : Int) * (1 + n / 72 % 7)) % 8).toNat) 0) = cs at hcs hlen
      have h' : H' Dl = some (.lst ((cs.map fun c => (⟨#[c]⟩ : Str)).map V.str)) := by
        rw [h, ← hcsd, List.map_map, List.map_map]
        rfl
      have hsz : ((cs.map fun c => (⟨#[c]⟩ : Str)).map (·.length)).sum ≤ 16 := by
        refine Nat.le_trans (sum_le (n := 1) fun x hx => ?_) ?_
        · obtain ⟨z, hz, rfl⟩ := List.mem_map.mp hx
          obtain ⟨c, _, rfl⟩ := List.mem_map.mp hz
          exact Nat.le_refl _
        · rw [List.length_map, List.length_map]
          omega
      refine s_join h' ?_ ?_
      · have he : (Str.ofString "").length = 0 := by decide +kernel
        rw [he]
        omega
      · rw [join_ones]
        refine q _ _ ?_ e
        unfold isCell
        have hl2 : (⟨cs.toArray⟩ : Str).length = cs.length := List.size_toArray ..
        rw [hl2, decide_eq_true (show cs.length ≤ 8 by omega), Bool.true_and, List.all_eq_true]
        intro c hc
        exact hcs c (by simpa using hc)
end

/-! ### data of pages and blocks -/
def daB (b : Nat × Nat × Nat) : PyData := .tuple [.int b.1, .int b.2.1, .int b.2.2]
theorem eqv_B (a b : Nat × Nat × Nat) : PyData.eqv (daB a) (daB b) = decide (a = b) := by
  obtain ⟨a1, a2, a3⟩ := a
  obtain ⟨b1, b2, b3⟩ := b
  show PyData.eqv (.tuple [.int a1, .int a2, .int a3]) (.tuple [.int b1, .int b2, .int b3]) = _
  rw [PyData.eqv, PyData.eqvAll, PyData.eqvAll, PyData.eqvAll, PyData.eqvAll, PyData.eqv, PyData.eqv, PyData.eqv]
  rw [Bool.eq_iff_iff]
  simp only [Bool.and_eq_true, beq_iff_eq, decide_eq_true_eq, Prod.mk.injEq, and_true]
  omega
def daBs (l : List (Nat × Nat × Nat)) : PyData := dL daB l
def daP (G : List (List Str)) : PyData := dL (dL daS) G
theorem eqv_P (G G' : List (List Str)) : PyData.eqv (daP G) (daP G') = decide (G = G') := eqv_L (eqv_L eqv_S) G G'
theorem eqv_Bs (l l' : List (Nat × Nat × Nat)) : PyData.eqv (daBs l) (daBs l') = decide (l = l') := eqv_L eqv_B l l'
theorem lay_Bs (l : List (Nat × Nat × Nat)) : Lay (daBs l) 64 := by
  refine (Lay.L (n := 1) fun b _ => Lay.T (n := 0) fun x hx => ?_).mono (by decide)
  rcases List.mem_cons.mp hx with rfl | hx
  · exact Lay.I
  rcases List.mem_cons.mp hx with rfl | hx
  · exact Lay.I
  rw [List.mem_singleton.mp hx]
  exact Lay.I
/-- every sign of every text is a sign -/
def Okp (G : List (List Str)) : Prop := ∀ r ∈ G, ∀ z ∈ r, PyData.strOk z = true
theorem lay_P {G : List (List Str)} (h : Okp G) : Lay (daP G) 64 := (Lay.L (n := 1) fun r hr => Lay.L (n := 0) fun z hz => Lay.S (h r hr z hz)).mono (by decide)
theorem strOk_cell {z : Str} (h : isCell z = true) : PyData.strOk z = true := by
  unfold isCell at h
  simp only [Bool.and_eq_true, decide_eq_true_eq, List.all_eq_true] at h
  unfold PyData.strOk
  rw [Array.all_eq_true']
  intro c hc
  have h2 := h.2 c (by simpa using hc)
  unfold okC at h2
  simp only [Bool.and_eq_true, decide_eq_true_eq] at h2
  rw [decide_eq_true_eq]
  omega
theorem cells_of_line {r : List Str} (h : isLine r = true) : 1 ≤ r.length ∧ r.length ≤ 6 ∧ ∀ z ∈ r, isCell z = true := by
  unfold isLine at h
  simp only [Bool.and_eq_true, decide_eq_true_eq, List.all_eq_true] at h
  exact h
theorem lines_of_page {G : List (List Str)} (h : isPage G = true) : 1 ≤ G.length ∧ G.length ≤ 20 ∧ ∀ r ∈ G, isLine r = true := by
  unfold isPage at h
  simp only [Bool.and_eq_true, decide_eq_true_eq, List.all_eq_true] at h
  exact h
theorem okp_page {G : List (List Str)} (h : isPage G = true) : Okp G := fun r hr z hz => strOk_cell ((cells_of_line ((lines_of_page h).2.2 r hr)).2.2 z hz)
theorem small20 {G : List (List Str)} (h : isPage G = true) : Small 20 G := ⟨(lines_of_page h).2.1, fun r hr => by
  obtain ⟨h1, h2, h3⟩ := cells_of_line ((lines_of_page h).2.2 r hr)
  refine ⟨by omega, fun z hz => ?_⟩
  have := h3 z hz
  unfold isCell at this
  simp only [Bool.and_eq_true, decide_eq_true_eq] at this
  omega⟩
theorem dp_P {K : PySem.W.Frag} {H : Hp} {a : Addr} {G : List (List Str)} (m : Rows H a (pgV G)) : Dp K H (.ref a) (daP G) := by
  have h := dp_rows (K := K) m (fun r hr v hv => by
    obtain ⟨q, _, rfl⟩ := List.mem_map.mp hr
    obtain ⟨z, _, rfl⟩ := List.mem_map.mp hv
    rfl)
  have e : dRows (pgV G) = daP G := by
    unfold dRows daP dL pgV
    rw [List.map_map]
    congr 1
    refine List.map_congr_left fun r _ => ?_
    show PyData.list ((r.map V.str).map dV) = PyData.list (r.map daS)
    rw [List.map_map]
    rfl
  rw [e] at h
  exact h
theorem dp_Bs {K : PySem.W.Frag} {H : Hp} {a : Addr} {l : List (Nat × Nat × Nat)} (m : Tups H a (blV l)) : Dp K H (.ref a) (daBs l) := by
  have h := dp_tups (K := K) m (fun r hr v hv => by
    obtain ⟨q, _, rfl⟩ := List.mem_map.mp hr
    rcases List.mem_cons.mp hv with rfl | hv
    · rfl
    rcases List.mem_cons.mp hv with rfl | hv
    · rfl
    rw [List.mem_singleton.mp hv]
    rfl)
  have e : dTups (blV l) = daBs l := by
    unfold dTups daBs dL blV
    rw [List.map_map]
    rfl
  rw [e] at h
  exact h

/-! ### slices of texts -/
def St (l : List Nat) : Str := ⟨l.toArray⟩
theorem tl_St (l : List Nat) : TL.tl (St l) = l := by
  show l.toArray.toList = l
  simp
theorem St_tl (z : Str) : St (TL.tl z) = z := TL.ext_tl (tl_St _)
theorem St_len (l : List Nat) : (St l).length = l.length := by rw [TL.len_tl, tl_St]
/-- blanks behind are dropped -/
theorem cutS_to (z : Str) (n : Nat) : TL.tl (cutS z none (some (n : Int))) = (TL.tl z).take n := by
  unfold cutS
  rw [HT.sIx_nat, HT.sIx_none]
  show (List.take (min n z.length - 0) (List.drop 0 z.cps.toList)).toArray.toList = _
  rw [Nat.sub_zero, List.drop_zero]
  show List.take (min n z.length) (TL.tl z) = _
  rw [List.take_eq_take_iff, ← TL.len_tl]
  omega
theorem cutS_mid (z : Str) (a w : Nat) : TL.tl (cutS z (some (a : Int)) (some ((a : Int) + (w : Int)))) = ((TL.tl z).drop a).take w := by
  rw [show (a : Int) + (w : Int) = ((a + w : Nat) : Int) by omega]
  unfold cutS
  rw [HT.sIx_nat, HT.sIx_nat]
  show (List.take (min (a + w) z.length - min a z.length) (List.drop (min a z.length) (TL.tl z))).toArray.toList = _
  rw [List.toList_toArray]
  have hl := TL.len_tl z
  by_cases h : a ≤ z.length
  · rw [Nat.min_eq_left h, List.take_eq_take_iff, List.length_drop]
    omega
  · rw [Nat.min_eq_right (by omega), List.drop_eq_nil_of_le (by omega), List.drop_eq_nil_of_le (by omega), List.take_nil, List.take_nil]
theorem cutS_from (z : Str) (a : Nat) : TL.tl (cutS z (some (a : Int)) none) = (TL.tl z).drop a := by
  unfold cutS
  rw [HT.sIx_nat, HT.sIx_none]
  show (List.take (z.length - min a z.length) (List.drop (min a z.length) (TL.tl z))).toArray.toList = _
  rw [List.toList_toArray]
  have hl := TL.len_tl z
  by_cases h : a ≤ z.length
  · rw [Nat.min_eq_left h, List.take_of_length_le (by rw [List.length_drop]; omega)]
  · rw [Nat.min_eq_right (by omega), List.drop_eq_nil_of_le (by omega), List.drop_eq_nil_of_le (by omega), List.take_nil]
theorem cutS_le (z : Str) (lo hi : Option Int) : (cutS z lo hi).length ≤ z.length := by
  unfold cutS
  show (List.toArray _).size ≤ _
  rw [List.size_toArray, List.length_take, List.length_drop]
  have hl := TL.len_tl z
  unfold TL.tl at hl
  omega
theorem cutS_St (t : Str) (a w : Nat) : cutS t (some (a : Int)) (some ((a : Int) + (w : Int))) = St (((TL.tl t).drop a).take w) := TL.ext_tl (by rw [cutS_mid, tl_St])
theorem cutS_St2 (t : Str) (a : Nat) : cutS t (some (a : Int)) none = St ((TL.tl t).drop a) := TL.ext_tl (by rw [cutS_from, tl_St])
theorem app_len (a b : Str) : (a ++ b).length = a.length + b.length := by
  show (a.cps ++ b.cps).size = _
  rw [Array.size_append]
  rfl
theorem rep_fold (x : Array Nat) : ∀ (n : Nat) (acc : Array Nat), ((List.replicate n x).foldl (· ++ ·) acc).toList = acc.toList ++ (List.replicate n x.toList).flatten
  | 0, acc => by simp
  | n + 1, acc => by
    rw [List.replicate_succ, List.foldl_cons, rep_fold x n, List.replicate_succ, List.flatten_cons, Array.toList_append, List.append_assoc]
theorem cutS_to_len (z : Str) (n : Nat) : (cutS z none (some (n : Int))).length ≤ n := by
  rw [TL.len_tl, cutS_to, List.length_take]
  omega
theorem cutS_from_len (z : Str) (n : Nat) : (cutS z (some (n : Int)) none).length = z.length - n := by
  rw [TL.len_tl, cutS_from, List.length_drop, ← TL.len_tl]
theorem mul_one (c : Nat) (n : Int) : Txt.mul ⟨#[c]⟩ n = ⟨(List.replicate n.toNat c).toArray⟩ := by
  unfold Txt.mul
  by_cases h1 : n < 1
  · rw [if_pos h1, show n.toNat = 0 by omega]
    rfl
  · rw [if_neg h1]
    by_cases h2 : n = 1
    · subst h2
      rfl
    · rw [if_neg (by
        have : (n == 1) = false := by simpa using h2
        rw [this]
        show ¬ (false || false) = true
        decide)]
      refine Str.ext' (Array.toList_inj.mp ?_)
      show ((List.replicate n.toNat #[c]).foldl (· ++ ·) #[]).toList = (List.replicate n.toNat c).toArray.toList
      rw [rep_fold]
      simp
theorem mulOk_one {z : Str} (hl : z.length = 1) {n : Int} (h : n ≤ 1000000) (h2 : -1000000 ≤ n) : MulOk z n := by
  refine ⟨?_, fun h3 _ => ?_, fun _ _ => ?_⟩
  · rw [Bool.or_eq_false_iff, decide_eq_false_iff_not, decide_eq_false_iff_not]
    omega
  · rw [hl]
    have : (2 ^ 63 - 1) / n ≥ 1 := by
      have h4 : 1 * n ≤ 2 ^ 63 - 1 := by omega
      exact (Int.le_ediv_iff_mul_le (by omega)).mpr h4
    omega
  · rw [hl]
    unfold Builtin.Str.tooLong
    rw [decide_eq_false_iff_not]
    have : sizeLine = 16777216 := sizeLine_eq
    omega
theorem s_mulS {H : Hp} {z : Str} {n : Int} {Q : VK} (hl : z.length = 1) (h : n ≤ 1000000) (h2 : -1000000 ≤ n) (k : Q (.str (Txt.mul z n)) H) : rTimes (.str z) (.int n) H Q := .inr (.inl ⟨_, n, rfl, rfl, mulOk_one hl h h2, k⟩)
theorem mul_len {z : Str} (hl : z.length = 1) (n : Int) : (Txt.mul z n).length = n.toNat := by
  obtain ⟨⟨l⟩⟩ := z
  match l, hl with
  | [c], _ =>
    rw [mul_one]
    show (List.replicate n.toNat c).toArray.size = _
    simp

/-! ### texts compared -/
def Okr (r : List Str) : Prop := ∀ z ∈ r, PyData.strOk z = true
theorem lay_R {r : List Str} (h : Okr r) : Lay (dL daS r) 64 := (Lay.L (n := 0) fun z hz => Lay.S (h z hz)).mono (by decide)
theorem dp_R {K : PySem.W.Frag} {H : Hp} {a : Addr} {r : List Str} (m : H a = some (.lst (rowV r))) : Dp K H (.ref a) (dL daS r) := by
  have h := dp_row (K := K) m (fun v hv => by
    obtain ⟨z, _, rfl⟩ := List.mem_map.mp hv
    rfl)
  rw [List.map_map] at h
  exact h
theorem eqv_R (a b : List Str) : PyData.eqv (dL daS a) (dL daS b) = decide (a = b) := eqv_L eqv_S a b
section
variable {P : Program} {w : World} {K : PySem.W.Frag} {mg : Str → Option Value} {base : Heap}
def sp_law_texts : Sp := fun vs H Q _ => ∃ (p q : Addr) (xs ys : List Str), vs = [.ref p, .ref q] ∧ H p = some (.lst (rowV xs)) ∧ H q = some (.lst (rowV ys)) ∧ xs.length ≤ 100000 ∧ Okr xs ∧ Okr ys ∧ ∀ H', Ex H H' → Q (.bl (decide (xs = ys))) H'
abbrev s_law_texts : Stmt := topS 14
abbrev n_law_texts : List Str := ["found", "due", "one"]
theorem sc_law_texts : FnScope n_law_texts ["found", "due"] (defScope s_law_texts) := ⟨rfl, rfl, rfl, by decide +kernel, rfl, by decide +kernel, by decide +kernel⟩

theorem ok_law_texts (D : Std K mg "_law_texts" s_law_texts ["found", "due"]) (T : Bl mg) : Has P w K mg base CX0 1 "_law_texts" ["found", "due"] sp_law_texts := by
  refine D.ok sc_law_texts (fun vs H Q E h => ?_) (fun f cdv A outer s H vs Q E hr h => ⟨_, (pss_cons (ps_if (PW.pt (pw_or (pt_not (pt_val (pe_callB (call_isK (K := K) rfl) (by rfl) T.isi (by decide +kernel) (pa_cons (pv 0) (pa_cons (pe_bltn (v := .ty "list") (by rfl) T.list (by decide +kernel) rfl) pa_nil))))) (pw_or1 (pt_cmpR (op_neK (K := K) rfl hr.units) (pe_callB (call_lenK (K := K) rfl) (by rfl) T.len PySem.boot_len (pa_cons (pv 0) pa_nil)) (pe_callB (call_lenK (K := K) rfl) (by rfl) T.len PySem.boot_len (pa_cons (pv 1) pa_nil)) (nomark _))))) (pss_one (ps_ret pe_bl)) pss_nil)
      (pss_one (ps_ret (pe_and (pe_callB (cr_allK (K := K) rfl rfl) (by rfl) T.all (by decide +kernel) (pa_cons (pe_lc (own := [("one", 2)]) (g := gName 2) (tt := tYes) rfl sc_law_texts.nd (pi_listK (K := K) rfl (pv 0)) (blkOk_by (N := n_law_texts) (sc := defScope s_law_texts) (by decide +kernel)) (fun _ _ _ _ _ => (pg_name (i := 2) sc_law_texts.nd rfl (Or.inl rfl))) (fun _ _ _ _ _ => pts_nil) (fun _ _ _ _ _ => (pe_callB (call_isK (K := K) rfl) (by rfl) T.isi (by decide +kernel) (pa_cons (pv 2) (pa_cons (pe_bltn (v := .ty "str") (by rfl) T.str (by decide +kernel) rfl) pa_nil))))) pa_nil)) (pe_one (pe_cmpR (op_eqK (K := K) rfl hr.units) (pv 0) (pv 1) (nomark _))))))), ?_⟩)
  · obtain ⟨b, r, g, l, rfl, _⟩ := h
    rfl
  · obtain ⟨p, p2, xs, ys, rfl, hp, hq, hl, o1, o2, q⟩ := h
    have l1 : (rowV xs).length = xs.length := List.length_map ..
    have l2 : (rowV ys).length = ys.length := List.length_map ..
    walk_at "go"
    refine if_f rfl ?_
    walk_at "go"
    by_cases h : xs.length = ys.length
    · refine if_f (by rw [l1, l2, h, decide_eq_true rfl]; rfl) ?_
      walk_at "go"
      intro Dl hD
      refine lc_val (walk_list (xs := rowV xs)) (fun _ => V.bl true) hD (fun H' e => SqL.of (e _ _ hp)) (by omega) (fun i x Ha Hb R hi e y k => ?_) (fun H' e h => ?_)
      · obtain ⟨rfl, hx⟩ := y
        obtain ⟨n, _, rfl⟩ := List.mem_map.mp (List.mem_of_getElem? hx)
        refine ⟨rfl, ?_⟩
        walk_at "go"
        exact k _ (Ex.refl _)
      · walk_at "go"
        refine s_allM (g := fun _ => true) h ?_
        walk_at "go"
        refine if_t (by simp) ?_
        walk_at "go"
        refine s_eqD (dp_R (e _ _ hp)) (dp_R (e _ _ hq)) (lay_R o1) (lay_R o2) ?_
        rw [eqv_R]
        exact q _ e
    · refine if_t (by rw [l1, l2, decide_eq_false (by omega)]; rfl) ?_
      walk_at "go"
      have := q _ (Ex.refl _)
      rw [decide_eq_false (fun z => h (by rw [z]))] at this
      exact this
end

/-! ### cut -/
def stripL (l : List Nat) : List Nat := l.take (l.length - (l.reverse.takeWhile (fun c => c == 32)).length)
theorem strip_blank (z : Str) : Txt.rstripChars z (Str.ofString " ") = St (stripL (TL.tl z)) := by
  have hb : (Str.ofString " ").cps = #[32] := by decide +kernel
  unfold Txt.rstripChars
  rw [stripBy_eq]
  refine TL.ext_tl ?_
  rw [tl_St]
  show (Builtin.Str.strSub z (stripLo _ false z) _).cps.toList = _
  rw [StrLaws.strSub_toList]
  show List.take (stripHi (Str.ofString " ").cps.contains true z 0 - 0) (List.drop 0 z.cps.toList) = _
  rw [Nat.sub_zero, List.drop_zero]
  show List.take (z.length - ((List.drop 0 z.cps.toList).reverse.takeWhile (Str.ofString " ").cps.contains).length) z.cps.toList = _
  rw [List.drop_zero, hb]
  unfold stripL
  rw [← TL.len_tl]
  have : (#[32] : Array Nat).contains = fun c => c == 32 := by
    funext c
    simp [Array.contains]
  rw [this]
theorem strip_none {l : List Nat} (h : ∀ c, l.getLast? = some c → c ≠ 32) : stripL l = l := by
  unfold stripL
  have : l.reverse.takeWhile (fun c => c == 32) = [] := by
    cases hl : l.reverse with
    | nil => rfl
    | cons c r =>
      have h1 : l.getLast? = some c := by
        rw [← List.head?_reverse, hl]
        rfl
      have h2 := h c h1
      rw [List.takeWhile_cons, if_neg (by simpa using h2)]
  rw [this]
  show List.take (l.length - 0) l = l
  rw [Nat.sub_zero, List.take_length]
theorem strip_snoc (l : List Nat) : stripL (l ++ [32]) = stripL l := by
  unfold stripL
  rw [List.reverse_append]
  show List.take ((l ++ [32]).length - (List.takeWhile (fun c => c == 32) (32 :: l.reverse)).length) (l ++ [32]) = _
  rw [List.takeWhile_cons, if_pos (by decide), List.length_append, show (32 :: List.takeWhile (fun c => c == 32) l.reverse).length = (List.takeWhile (fun c => c == 32) l.reverse).length + 1 from rfl, List.length_singleton, Nat.add_sub_add_right, List.take_append_of_le_length (Nat.sub_le _ _)]
theorem strip_rep {l : List Nat} (h : ∀ c, l.getLast? = some c → c ≠ 32) : ∀ n, stripL (l ++ List.replicate n 32) = l
  | 0 => by
    rw [List.replicate_zero, List.append_nil]
    exact strip_none h
  | n + 1 => by
    rw [List.replicate_succ', ← List.append_assoc, strip_snoc]
    exact strip_rep h n
def pieceOk (p : List Nat) (w : Nat) : Bool := decide (w ≤ p.length) && (!decide ((stripL p).length = p.length) && isCell (St (stripL p)))
def cutL : List Nat → List Nat → Option (List Str)
  | l, [] => if isCell (St l) = true then some [St l] else none
  | l, w :: ws => if pieceOk (l.take w) w = true then (cutL (l.drop w) ws).map (St (stripL (l.take w)) :: ·) else none
def cutOf (t : Str) (ws : List Nat) : Option (List Str) := cutL (TL.tl t) ws
theorem stripL_le (l : List Nat) : (stripL l).length ≤ l.length := by
  unfold stripL
  rw [List.length_take]
  omega
abbrev natV (ws : List Nat) : List V := ws.map fun (n : Nat) => V.int (n : Int)
theorem natV_at {ws : List Nat} {i : Nat} {x : V} (h : (natV ws)[i]? = some x) : ∃ n, ws[i]? = some n ∧ x = .int (n : Int) := by
  rw [List.getElem?_map] at h
  cases hq : ws[i]? with
  | none => rw [hq] at h; cases h
  | some q => rw [hq] at h; exact ⟨q, rfl, (Option.some.inj h).symm⟩
section
variable {P : Program} {w : World} {K : PySem.W.Frag} {mg : Str → Option Value} {base : Heap}
def sp_cell_of (c : Addr) : Sp := fun vs H Q E => ∃ (p : Str), vs = [.str p] ∧ p.length ≤ 100000 ∧ ((stripL (TL.tl p)).length ≠ p.length → isCell (St (stripL (TL.tl p))) = true → ∀ H', Ex H H' → Q (.str (St (stripL (TL.tl p)))) H') ∧ ((stripL (TL.tl p)).length = p.length ∨ isCell (St (stripL (TL.tl p))) = false → ∀ H', Ex H H' → E (.ref c) none H')
theorem s_rstrip {H : Hp} {z : Str} {Q : VK} (hz : z.length ≤ sizeLine) (k : Q (.str (St (stripL (TL.tl z)))) H) : rStripC (.str z) [.str (Str.ofString " ")] H Q := ⟨z, _, rfl, rfl, hz, by rw [strip_blank]; exact k⟩
abbrev s_cell_of : Stmt := topS 8
abbrev n_cell_of : List Str := ["piece", "cell"]
theorem sc_cell_of : FnScope n_cell_of ["piece"] (defScope s_cell_of) := ⟨rfl, rfl, rfl, by decide +kernel, rfl, by decide +kernel, by decide +kernel⟩

theorem ok_cell_of {c_NoCut : Addr} (D : Std K mg "cell_of" s_cell_of ["piece"]) (T : Bl mg) (x_NoCut : Xc K mg "NoCut" c_NoCut) (h_is_cell : Has P w K mg base CX0 1 "is_cell" ["text"] sp_is_cell) : Has P w K mg base (L2.CX P w) 2 "cell_of" ["piece"] (sp_cell_of c_NoCut) := by
  refine D.okX sc_cell_of (fun vs H Q E h => ?_) (fun f cdv A outer s H vs Q E hr h => ⟨_, (pss_cons (ps_set (i := 1) sc_cell_of.nd rfl (Or.inl rfl) (pe_bmK (K := K) rfl PySem.F.plainAttrs_str PySem.F.slot_str_rstrip PySem.F.type_str_rstrip mt_rstripS (pv 0) (pa_cons pe_str pa_nil)))
      (pss_cons (ps_if (PW.pt (pw_or (pt_cmpR (op_eqK (K := K) rfl hr.units) (pe_callB (call_lenK (K := K) rfl) (by rfl) T.len PySem.boot_len (pa_cons (pv 1) pa_nil)) (pe_callB (call_lenK (K := K) rfl) (by rfl) T.len PySem.boot_len (pa_cons (pv 0) pa_nil)) (nomark _)) (pw_or1 (pt_not (pt_val (pe_own h_is_cell (hr.mono (by decide)) (by rfl) (pa_cons (pv 1) pa_nil))))))) (pss_one (ps_own_raise x_NoCut (takes_of rfl rfl rfl rfl) rfl (by rfl))) pss_nil)
      (pss_one (ps_ret (pv 1))))), ?_⟩)
  · obtain ⟨b, rfl, _⟩ := h
    rfl
  · obtain ⟨p, rfl, hp, q1, q2⟩ := h
    have hl := stripL_le (TL.tl p)
    have hl2 := TL.len_tl p
    walk_at "go"
    refine s_rstrip (Nat.le_trans hp (by decide)) ?_
    walk_at "go"
    refine s_lenS (Nat.le_trans (show _ ≤ 100000 by rw [St_len]; omega) (by decide)) ?_
    walk_at "go"
    refine s_lenS (Nat.le_trans hp (by decide)) ?_
    walk_at "go"
    rw [St_len]
    by_cases h : (stripL (TL.tl p)).length = p.length
    · refine if_d (by omega) ?_
      refine if_t rfl ?_
      walk_at "go"
      exact q2 (.inl h) _ (Ex.refl _)
    · refine if_n (by omega) ?_
      walk_at "go"
      refine ⟨_, rfl, by rw [St_len]; omega, fun H1 e1 => ?_⟩
      walk_at "go"
      cases hc : isCell (St (stripL (TL.tl p))) with
      | true =>
        refine if_f rfl ?_
        walk_at "go"
        exact q1 h hc _ e1
      | false =>
        refine if_t rfl ?_
        walk_at "go"
        exact q2 (.inr hc) _ e1
def sp_cut (c : Addr) : Sp := fun vs H Q E => ∃ (t : Str) (o : Addr) (ws : List Nat), vs = [.str t, .ref o] ∧ H o = some (.lst (natV ws)) ∧ t.length ≤ 100000 ∧ ws.length ≤ 1000 ∧ (∀ n ∈ ws, n ≤ 1000) ∧
  (∀ r, cutOf t ws = some r → ∀ p H', Ex H H' → H p = none → H' p = some (.lst (rowV r)) → Q (.ref p) H') ∧ (cutOf t ws = none → ∀ H', Ex H H' → E (.ref c) none H')
abbrev s_cut : Stmt := topS 9
abbrev n_cut : List Str := ["text", "widths", "found", "at", "width", "piece"]
theorem sc_cut : FnScope n_cut ["text", "widths"] (defScope s_cut) := ⟨rfl, rfl, rfl, by decide +kernel, rfl, by decide +kernel, by decide +kernel⟩

theorem ok_cut {c_NoCut : Addr} (D : Std K mg "cut" s_cut ["text", "widths"]) (T : Bl mg) (x_NoCut : Xc K mg "NoCut" c_NoCut) (h_is_cell : Has P w K mg base CX0 1 "is_cell" ["text"] sp_is_cell) (h_cell_of : Has P w K mg base (L2.CX P w) 2 "cell_of" ["piece"] (sp_cell_of c_NoCut)) : Has P w K mg base (L2.CX P w) 3 "cut" ["text", "widths"] (sp_cut c_NoCut) := by
  refine D.okX sc_cut (fun vs H Q E h => ?_) (fun f cdv A outer s H vs Q E hr h => ⟨_, (pss_cons (ps_set (i := 2) sc_cut.nd rfl (Or.inl rfl) (pe_lst pa_nil))
      (pss_cons (ps_set (i := 3) sc_cut.nd rfl (Or.inl rfl) pe_int)
      (pss_cons (ps_for (passes_of rfl) rfl (pi_listK (K := K) rfl (pv 1)) (pg_name (i := 4) sc_cut.nd rfl (Or.inl rfl)) (pss_cons (ps_set (i := 5) sc_cut.nd rfl (Or.inl rfl) (pe_slice (sl_K (K := K) rfl) (pv 0) (po_some (pv 3)) (po_some (pe_op op_plus (pv 3) (pv 4)))))
      (pss_cons (ps_if (pt_cmpR op_ltI (pe_callB (call_lenK (K := K) rfl) (by rfl) T.len PySem.boot_len (pa_cons (pv 5) pa_nil)) (pv 4) (nomark _)) (pss_one (ps_own_raise x_NoCut (takes_of rfl rfl rfl rfl) rfl (by rfl))) pss_nil)
      (pss_cons (ps_expr (pe_bmK (K := K) rfl PySem.F.plainAttrs_list PySem.F.slot_list_append PySem.F.type_list_append mt_append (pv 2) (pa_cons (pe_ownX h_cell_of (takes_of rfl rfl rfl rfl) (hr.mono (by decide)) (by rfl) (pa_cons (pv 5) pa_nil)) pa_nil)))
      (pss_one (ps_set (i := 3) sc_cut.nd rfl (Or.inl rfl) (pe_op op_plus (pv 3) (pv 4))))))))
      (pss_cons (ps_if (pt_not (pt_val (pe_own h_is_cell (hr.mono (by decide)) (by rfl) (pa_cons (pe_slice (sl_K (K := K) rfl) (pv 0) (po_some (pv 3)) po_none) pa_nil)))) (pss_one (ps_own_raise x_NoCut (takes_of rfl rfl rfl rfl) rfl (by rfl))) pss_nil)
      (pss_one (ps_ret (pe_op op_plus (pv 2) (pe_lst (pa_cons (pe_slice (sl_K (K := K) rfl) (pv 0) (po_some (pv 3)) po_none) pa_nil))))))))), ?_⟩)
  · obtain ⟨b, o, l, rfl, _⟩ := h
    rfl
  · obtain ⟨t, o, ws, rfl, ho, ht, hwl, hw, q1, q2⟩ := h
    have hl2 := TL.len_tl t
    walk_at "go"
    refine ⟨Nat.zero_le _, fun fd hfd => ?_⟩
    generalize hE1 : upd _ fd _ = H0
    obtain ⟨e0, h0⟩ := gen hE1 hfd
    clear hE1
    walk_at "go"
    refine for_it (walk_list (xs := natV ws)) (fun i σ' H' => ∃ (at' : Nat) (y4 y5 : Option V) (done : List Str), σ' = [some (.str t), some (.ref o), some (.ref fd), some (.int (at' : Int)), y4, y5] ∧ Ex H H' ∧ H' fd = some (.lst (rowV done)) ∧ done.length = i ∧ cutL (TL.tl t) ws = (cutL ((TL.tl t).drop at') (ws.drop i)).map (done ++ ·)) ?_ (fun i σ' H' _ hh => ?_) ?_ ?_
    · refine ⟨0, _, _, [], rfl, e0, h0, rfl, ?_⟩
      rw [List.drop_zero, List.drop_zero]
      cases cutL (TL.tl t) ws <;> rfl
    · obtain ⟨_, _, _, _, _, e, _⟩ := hh
      exact SqL.of (e _ _ ho)
    · rintro i x σ' Ha Hb hi ⟨at', y4, y5, done, rfl, e, hf, hd, hcut⟩ ⟨rfl, hx⟩
      obtain ⟨n, hn, rfl⟩ := natV_at hx
      have hn2 := hw n (List.mem_of_getElem? hn)
      have hdrop : ws.drop i = n :: ws.drop (i + 1) := by
        have hil := (List.getElem?_eq_some_iff.mp hn)
        rw [← hil.2]
        exact List.drop_eq_getElem_cons hil.1
      rw [hdrop, cutL] at hcut
      walk_at "go"
      refine s_slS (Nat.le_trans ht (by decide)) ?_
      rw [cutS_St]
      have hpl : (((TL.tl t).drop at').take n).length ≤ 100000 := by
        rw [List.length_take, List.length_drop]
        omega
      walk_at "go"
      refine s_lenS (Nat.le_trans (show _ ≤ 100000 by rw [St_len]; exact hpl) (by decide)) ?_
      walk_at "go"
      rw [St_len]
      by_cases hlt : (((TL.tl t).drop at').take n).length < n
      · refine if_d (by omega) ?_
        walk_at "go"
        refine q2 ?_ _ e
        unfold cutOf
        rw [hcut, if_neg]
        · rfl
        · unfold pieceOk
          rw [decide_eq_false (by omega), Bool.false_and]
          decide
      · refine if_n (by omega) ?_
        walk_at "go"
        refine ⟨_, rfl, by rw [St_len]; exact hpl, fun h1 h2 H1 e1 => ?_, fun h1 H1 e1 => ?_⟩
        · rw [tl_St, St_len] at h1
          rw [tl_St] at h2 ⊢
          walk_at "go"
          refine s_app (e1 _ _ hf) (by rw [List.length_map, hd]; have : i < ws.length := by rw [List.length_map] at hi; exact hi
                                       exact Nat.lt_of_lt_of_le (show i < 100000 by omega) (by decide)) ?_
          walk_at "go"
          refine ⟨at' + n, some (.int (n : Int)), some (.str (St (((TL.tl t).drop at').take n))), done ++ [St (stripL (((TL.tl t).drop at').take n))], ?_, Ex.mut (e.trans e1) hfd, ?_, by rw [List.length_append, hd]; rfl, ?_⟩
          · rw [Int.natCast_add]
            rfl
          · rw [upd_same]
            unfold rowV
            rw [List.map_append]
            rfl
          · rw [hcut, if_pos, List.drop_drop]
            · rw [Option.map_map]
              congr 1
              funext r
              show done ++ (_ :: r) = (done ++ [_]) ++ r
              rw [List.append_assoc]
              rfl
            · unfold pieceOk
              rw [decide_eq_true (show n ≤ _ by omega), decide_eq_false h1, h2]
              rfl
        · rw [tl_St, St_len] at h1
          refine q2 ?_ _ (e.trans e1)
          unfold cutOf
          rw [hcut, if_neg]
          · rfl
          · unfold pieceOk
            rcases h1 with h1 | h1
            · rw [decide_eq_true h1]
              simp
            · rw [h1]
              simp
    · rintro σ' Hc ⟨at', y4, y5, done, rfl, e, hf, hd, hcut⟩
      rw [List.length_map, List.drop_length, cutL] at hcut
      have hpl : ((TL.tl t).drop at').length ≤ 100000 := by
        rw [List.length_drop]
        omega
      rw [List.length_map] at hd
      walk_at "go"
      refine s_slS (Nat.le_trans ht (by decide)) ?_
      rw [cutS_St2]
      walk_at "go"
      refine ⟨_, rfl, by rw [St_len]; exact hpl, fun H1 e1 => ?_⟩
      walk_at "go"
      cases hc : isCell (St ((TL.tl t).drop at')) with
      | true =>
        refine if_f rfl ?_
        walk_at "go"
        refine s_slS (Nat.le_trans ht (by decide)) ?_
        rw [cutS_St2]
        walk_at "go"
        refine ⟨(show 1 ≤ sizeLine by decide), fun p hp => ?_⟩
        generalize hE2 : upd _ p _ = H2
        obtain ⟨e2, h2⟩ := gen hE2 hp
        clear hE2
        refine s_cat (e2 _ _ (e1 _ _ hf)) h2 (Nat.le_trans (show _ ≤ 2000 by rw [List.length_map, hd]; show ws.length + 1 ≤ 2000; omega) (by decide)) (fun p2 hp2 => ?_)
        have e3 := ((e.trans e1).trans e2)
        refine q1 (done ++ [St ((TL.tl t).drop at')]) ?_ p2 _ (e3.trans (Ex.new hp2)) (Evl.fresh_back e3 hp2) ?_
        · unfold cutOf
          rw [hcut, hc]
          rfl
        · rw [upd_same]
          unfold rowV
          rw [List.map_append]
          rfl
      | false =>
        refine if_t rfl ?_
        walk_at "go"
        refine q2 ?_ _ (e.trans e1)
        unfold cutOf
        rw [hcut, hc]
        rfl
end

/-! ### blanks behind are dropped, sign by sign -/
theorem cutS_last (l : List Nat) : cutS (St l) (some (-1)) none = St (l.drop (l.length - 1)) := by
  refine TL.ext_tl ?_
  unfold cutS
  rw [HT.sIx_none]
  have hl := St_len l
  show (List.take _ (List.drop _ (TL.tl (St l)))).toArray.toList = _
  rw [List.toList_toArray, tl_St, tl_St]
  have e : HT.sIx (St l).length 0 (some (-1)) = l.length - 1 := by
    show (if (-1 : Int) < 0 then ((-1 : Int) + ((St l).length : Int)).toNat else min (-1 : Int).toNat (St l).length) = _
    rw [if_pos (by decide), hl]
    omega
  rw [e, List.take_of_length_le (by rw [List.length_drop, hl]; omega)]
theorem cutS_init (l : List Nat) : cutS (St l) none (some (-1)) = St l.dropLast := by
  refine TL.ext_tl ?_
  unfold cutS
  rw [HT.sIx_none]
  have hl := St_len l
  show (List.take _ (List.drop 0 (TL.tl (St l)))).toArray.toList = _
  rw [List.toList_toArray, tl_St, tl_St, List.drop_zero]
  have e : HT.sIx (St l).length (St l).length (some (-1)) = l.length - 1 := by
    show (if (-1 : Int) < 0 then ((-1 : Int) + ((St l).length : Int)).toNat else min (-1 : Int).toNat (St l).length) = _
    rw [if_pos (by decide), hl]
    omega
  rw [e, Nat.sub_zero, List.dropLast_eq_take]
theorem bl_St : Str.ofString " " = St [32] := by decide +kernel
theorem St_inj {a b : List Nat} (h : St a = St b) : a = b := by rw [← tl_St a, h, tl_St]
theorem drop_last {l : List Nat} (h : l.drop (l.length - 1) = [32]) : l = l.dropLast ++ [32] := by
  have h2 := List.take_append_drop (l.length - 1) l
  rw [h, ← List.dropLast_eq_take] at h2
  exact h2.symm
theorem drop_last_no {l : List Nat} (h : l.drop (l.length - 1) ≠ [32]) : ∀ c, l.getLast? = some c → c ≠ 32 := fun c hc e => by
  subst e
  refine h ?_
  have hl := List.getLast?_eq_getElem? (l := l)
  rw [hc] at hl
  have h1 := (List.getElem?_eq_some_iff.mp hl.symm)
  rw [List.drop_eq_getElem_cons h1.1, h1.2, List.drop_eq_nil_of_le (by omega)]
theorem strip_same {l : List Nat} (h : (stripL l).length = l.length) : stripL l = l := by
  have h1 : (l.length - (l.reverse.takeWhile (fun c => c == 32)).length) = (stripL l).length ∨ True := .inr trivial
  unfold stripL at h ⊢
  rw [List.length_take] at h
  rw [List.take_of_length_le (by omega)]
section
variable {P : Program} {w : World} {K : PySem.W.Frag} {mg : Str → Option Value} {base : Heap}
def sp_law_pieces (K : PySem.W.Frag) : Sp := fun vs H Q _ => ∃ (a : Addr) (ns : List Int), vs = [.ref a] ∧ SqL K H a (ns.map V.int) ∧
  ∀ (p o t : Addr) (ws : List Nat) (ts : List Str) H', Ex H H' → H' p = some (.tup [.ref o, .ref t]) → H' o = some (.lst (natV ws)) → H' t = some (.lst (rowV ts)) → ws.length ≤ 5 → (∀ n ∈ ws, n ≤ 30) → ts.length ≤ 6 → (∀ z ∈ ts, z.length ≤ 30) → Q (.ref p) H'
abbrev s_law_pieces : Stmt := topS 15
abbrev n_law_pieces : List Str := ["script", "own", "pieces", "k", "cell", "text", "width"]
theorem sc_law_pieces : FnScope n_law_pieces ["script"] (defScope s_law_pieces) := ⟨rfl, rfl, rfl, by decide +kernel, rfl, by decide +kernel, by decide +kernel⟩

theorem ok_law_pieces (D : Std K mg "_law_pieces" s_law_pieces ["script"]) (T : Bl mg) (h_law_cell_at : Has P w K mg base CX0 1 "_law_cell_at" ["script", "k"] (sp_law_cell_at K)) (h_law_text : Has P w K mg base CX0 1 "_law_text" ["seed"] sp_law_text) : Has P w K mg base CX0 2 "_law_pieces" ["script"] (sp_law_pieces K) := by
  refine D.ok sc_law_pieces (fun vs H Q E h => ?_) (fun f cdv A outer s H vs Q E hr h => ⟨_, (pss_cons (ps_set (i := 1) sc_law_pieces.nd rfl (Or.inl rfl) (pe_lst pa_nil))
      (pss_cons (ps_set (i := 2) sc_law_pieces.nd rfl (Or.inl rfl) (pe_lst pa_nil))
      (pss_cons (ps_for PassesOwn.never rfl (pi_range1 (by rfl) T.range (pa_cons (pe_op op_modd (pe_own h_law_cell_at (hr.mono (by decide)) (by rfl) (pa_cons (pv 0) (pa_cons pe_int pa_nil))) pe_int) pa_nil)) (pg_name (i := 3) sc_law_pieces.nd rfl (Or.inl rfl)) (pss_cons (ps_set (i := 4) sc_law_pieces.nd rfl (Or.inl rfl) (pe_own h_law_cell_at (hr.mono (by decide)) (by rfl) (pa_cons (pv 0) (pa_cons (pe_op op_plus pe_int (pv 3)) pa_nil))))
      (pss_cons (ps_set (i := 5) sc_law_pieces.nd rfl (Or.inl rfl) (pe_own h_law_text (hr.mono (by decide)) (by rfl) (pa_cons (pe_op op_modd (pe_op op_divv (pv 4) pe_int) pe_int) pa_nil)))
      (pss_cons (ps_set (i := 6) sc_law_pieces.nd rfl (Or.inl rfl) (pe_callB (call_mx2 rfl) (by rfl) T.max (by decide +kernel) (pa_cons (pe_op op_plus pe_int (pe_op op_modd (pv 4) pe_int)) (pa_cons (pe_op op_plus (pe_callB (call_lenK (K := K) rfl) (by rfl) T.len PySem.boot_len (pa_cons (pv 5) pa_nil)) pe_int) pa_nil))))
      (pss_cons (ps_expr (pe_bmK (K := K) rfl PySem.F.plainAttrs_list PySem.F.slot_list_append PySem.F.type_list_append mt_append (pv 1) (pa_cons (pv 6) pa_nil)))
      (pss_one (ps_expr (pe_bmK (K := K) rfl PySem.F.plainAttrs_list PySem.F.slot_list_append PySem.F.type_list_append mt_append (pv 2) (pa_cons (pe_slice (sl_K (K := K) rfl) (pe_op op_plus (pv 5) (pe_op op_times pe_str pe_int)) po_none (po_some (pv 6))) pa_nil)))))))))
      (pss_cons (ps_expr (pe_bmK (K := K) rfl PySem.F.plainAttrs_list PySem.F.slot_list_append PySem.F.type_list_append mt_append (pv 2) (pa_cons (pe_own h_law_text (hr.mono (by decide)) (by rfl) (pa_cons (pe_op op_modd (pe_own h_law_cell_at (hr.mono (by decide)) (by rfl) (pa_cons (pv 0) (pa_cons pe_int pa_nil))) pe_int) pa_nil)) pa_nil)))
      (pss_one (ps_ret (pe_tup (pa_cons (pv 1) (pa_cons (pv 2) pa_nil))))))))), ?_⟩)
  · obtain ⟨a, ns, rfl, _⟩ := h
    rfl
  · obtain ⟨a, ns, rfl, hs, q⟩ := h
    walk_at "go"
    refine ⟨Nat.zero_le _, fun o ho => ?_⟩
    generalize hE1 : upd _ o _ = H1
    obtain ⟨e1, h1⟩ := gen hE1 ho
    clear hE1
    walk_at "go"
    refine ⟨Nat.zero_le _, fun t ht => ?_⟩
    generalize hE1 : upd _ t _ = H2
    obtain ⟨e2, h2⟩ := gen hE1 ht
    clear hE1
    have hot : o ≠ t := ne_of_none h1 ht
    have ht0 := Evl.fresh_back e1 ht
    walk_at "go"
    refine ⟨a, ns, 0, rfl, Evl.ex_l (e1.trans e2) hs, Int.le_refl _, fun c H3 _ e3 => ?_⟩
    have a1 := Int.emod_nonneg c (b := 6) (by decide)
    have a2 := Int.emod_lt_of_pos c (b := 6) (by decide)
    walk_at "go"
    refine for_it walk_r0 (fun i σ' H' => ∃ (y3 y4 y5 y6 : Option V) (ws : List Nat) (ts : List Str), σ' = [some (.ref a), some (.ref o), some (.ref t), y3, y4, y5, y6] ∧ Ex H H' ∧ H' o = some (.lst (natV ws)) ∧ H' t = some (.lst (rowV ts)) ∧ ws.length = i ∧ ts.length = i ∧ (∀ n ∈ ws, n ≤ 30) ∧ (∀ z ∈ ts, z.length ≤ 30)) ?_ (fun _ _ _ _ _ => trivial) ?_ ?_
    · exact ⟨_, _, _, _, [], [], rfl, (e1.trans e2).trans e3, e3 _ _ (e2 _ _ h1), e3 _ _ h2, rfl, rfl, fun n hn => by simp at hn, fun z hz => by simp at hz⟩
    · rintro i x σ' Ha Hb hi ⟨y3, y4, y5, y6, ws, ts, rfl, e, hO, hT, wl, tl, wb, tb⟩ ⟨rfl, rfl⟩
      have hi : i < 6 := by omega
      walk_at "go"
      refine ⟨a, ns, 2 + (i : Int), rfl, Evl.ex_l e hs, by omega, fun c2 H4 _ e4 => ?_⟩
      have b1 := Int.emod_nonneg (c2 / 30) (b := 504) (by decide)
      have b2 := Int.emod_lt_of_pos (c2 / 30) (b := 504) (by decide)
      have d1 := Int.emod_nonneg c2 (b := 30) (by decide)
      have d2 := Int.emod_lt_of_pos c2 (b := 30) (by decide)
      walk_at "go"
      refine ⟨_, rfl, b1, by omega, fun z H5 hz e5 => ?_⟩
      have hz8 : z.length ≤ 8 := by
        unfold isCell at hz
        simp only [Bool.and_eq_true, decide_eq_true_eq] at hz
        exact hz.1
      walk_at "go"
      refine s_lenS (Nat.le_trans hz8 (by decide)) ?_
      walk_at "go"
      obtain ⟨W, hW, hW1, hW2⟩ : ∃ W : Nat, (if (z.length : Int) + 1 > 1 + c2 % 30 then (z.length : Int) + 1 else 1 + c2 % 30) = (W : Int) ∧ 1 ≤ W ∧ W ≤ 30 := by
        by_cases hh : (z.length : Int) + 1 > 1 + c2 % 30
        · rw [if_pos hh]
          exact ⟨z.length + 1, by omega, by omega, by omega⟩
        · rw [if_neg hh]
          exact ⟨(1 + c2 % 30).toNat, by omega, by omega, by omega⟩
      rw [hW]
      have e45 := e4.trans e5
      have hO5 := e45 _ _ hO
      have hT5 := e45 _ _ hT
      walk_at "go"
      refine s_app hO5 (by rw [List.length_map, wl]; exact Nat.lt_of_lt_of_le (show i < 100 by omega) (by decide)) ?_
      generalize hHn : upd H5 o _ = H6
      have e6 : Ex H H6 := by rw [← hHn]; exact Ex.mut (e.trans e45) ho
      have hT6 : H6 t = some (.lst (rowV ts)) := by rw [← hHn, upd_ne (Ne.symm hot)]; exact hT5
      have hO6 : H6 o = some (.lst (natV (ws ++ [W]))) := by
        rw [← hHn, upd_same]
        unfold natV
        rw [List.map_append]
        rfl
      clear hHn
      walk_at "go"
      refine s_mulS (by decide +kernel) (by decide) (by decide) ?_
      have hml := mul_len (z := Str.ofString " ") (by decide +kernel) 40
      refine s_plusS (Nat.le_trans (show _ ≤ 100 by rw [hml]; show z.length + 40 ≤ 100; omega) (by decide)) ?_
      walk_at "go"
      refine s_slS (Nat.le_trans (show _ ≤ 100 by rw [app_len, hml]; show z.length + 40 ≤ 100; omega) (by decide)) ?_
      have hcl := cutS_to_len (z ++ Txt.mul (Str.ofString " ") 40) W
      walk_at "go"
      refine s_app hT6 (by rw [List.length_map, tl]; exact Nat.lt_of_lt_of_le (show i < 100 by omega) (by decide)) ?_
      walk_at "go"
      refine ⟨_, _, _, _, ws ++ [W], ts ++ [cutS (z ++ Txt.mul (Str.ofString " ") 40) none (some (W : Int))], rfl, Ex.mut e6 ht0, ?_, ?_, by rw [List.length_append, wl]; rfl, by rw [List.length_append, tl]; rfl, fun n hn => ?_, fun y hy => ?_⟩
      · rw [upd_ne hot]
        exact hO6
      · rw [upd_same]
        unfold rowV
        rw [List.map_append]
        rfl
      · rcases List.mem_append.mp hn with hn | hn
        · exact wb n hn
        · rw [List.mem_singleton.mp hn]; exact hW2
      · rcases List.mem_append.mp hy with hy | hy
        · exact tb y hy
        · rw [List.mem_singleton.mp hy]; omega
    · rintro σ' Hc ⟨y3, y4, y5, y6, ws, ts, rfl, e, hO, hT, wl, tl, wb, tb⟩
      walk_at "go"
      refine ⟨a, ns, 8, rfl, Evl.ex_l e hs, by decide, fun c2 H4 _ e4 => ?_⟩
      have b1 := Int.emod_nonneg c2 (b := 504) (by decide)
      have b2 := Int.emod_lt_of_pos c2 (b := 504) (by decide)
      walk_at "go"
      refine ⟨_, rfl, b1, by omega, fun z H5 hz e5 => ?_⟩
      have hz8 : z.length ≤ 8 := by
        unfold isCell at hz
        simp only [Bool.and_eq_true, decide_eq_true_eq] at hz
        exact hz.1
      have e45 := e4.trans e5
      walk_at "go"
      refine s_app (e45 _ _ hT) (by rw [List.length_map, tl]; exact Nat.lt_of_lt_of_le (show _ < 100 by omega) (by decide)) ?_
      generalize hHn : upd H5 t _ = H6
      have e6 : Ex H H6 := by rw [← hHn]; exact Ex.mut (e.trans e45) ht0
      have hO6 : H6 o = some (.lst (natV ws)) := by rw [← hHn, upd_ne hot]; exact e45 _ _ hO
      have hT6 : H6 t = some (.lst (rowV (ts ++ [z]))) := by
        rw [← hHn, upd_same]
        unfold rowV
        rw [List.map_append]
        rfl
      clear hHn
      walk_at "go"
      refine ⟨(show 2 ≤ sizeLine by decide), fun p hp => ?_⟩
      refine q p o t ws (ts ++ [z]) _ (e6.trans (Ex.new hp)) upd_same (hp_new hp hO6) (hp_new hp hT6) (by omega) wb (by rw [List.length_append, tl]; show _ + 1 ≤ 6; omega) fun y hy => ?_
      rcases List.mem_append.mp hy with hy | hy
      · exact tb y hy
      · rw [List.mem_singleton.mp hy]; omega
def sp_law_spoiled (K : PySem.W.Frag) : Sp := fun vs H Q _ => ∃ (a : Addr) (ns : List Int) (z : Str), vs = [.ref a, .str z] ∧ SqL K H a (ns.map V.int) ∧ z.length ≤ 9000 ∧ ∀ (z' : Str) H', z'.length ≤ z.length + 100 → Ex H H' → Q (.str z') H'
abbrev s_law_spoiled : Stmt := topS 16
abbrev n_law_spoiled : List Str := ["script", "text", "at", "sign", "way"]
theorem sc_law_spoiled : FnScope n_law_spoiled ["script", "text"] (defScope s_law_spoiled) := ⟨rfl, rfl, rfl, by decide +kernel, rfl, by decide +kernel, by decide +kernel⟩

theorem ok_law_spoiled (D : Std K mg "_law_spoiled" s_law_spoiled ["script", "text"]) (T : Bl mg) (h_law_cell_at : Has P w K mg base CX0 1 "_law_cell_at" ["script", "k"] (sp_law_cell_at K)) : Has P w K mg base CX0 2 "_law_spoiled" ["script", "text"] (sp_law_spoiled K) := by
  refine D.ok sc_law_spoiled (fun vs H Q E h => ?_) (fun f cdv A outer s H vs Q E hr h => ⟨_, (pss_cons (ps_set (i := 2) sc_law_spoiled.nd rfl (Or.inl rfl) (pe_op op_modd (pe_own h_law_cell_at (hr.mono (by decide)) (by rfl) (pa_cons (pv 0) (pa_cons pe_int pa_nil))) (pe_op op_plus (pe_callB (call_lenK (K := K) rfl) (by rfl) T.len PySem.boot_len (pa_cons (pv 1) pa_nil)) pe_int)))
      (pss_cons (ps_set (i := 3) sc_law_spoiled.nd rfl (Or.inl rfl) (pe_ix (ix_seqK (K := K) rfl) pe_str (pe_op op_modd (pe_own h_law_cell_at (hr.mono (by decide)) (by rfl) (pa_cons (pv 0) (pa_cons pe_int pa_nil))) pe_int) (fun _ _ => rfl)))
      (pss_cons (ps_set (i := 4) sc_law_spoiled.nd rfl (Or.inl rfl) (pe_op op_modd (pe_own h_law_cell_at (hr.mono (by decide)) (by rfl) (pa_cons (pv 0) (pa_cons pe_int pa_nil))) pe_int))
      (pss_cons (ps_if (pt_cmpR (op_eqK (K := K) rfl hr.units) (pv 4) pe_int (nomark _)) (pss_one (ps_ret (pv 1))) pss_nil)
      (pss_cons (ps_if (pt_cmpR (op_eqK (K := K) rfl hr.units) (pv 4) pe_int (nomark _)) (pss_one (ps_ret (pe_op op_plus (pe_op op_plus (pe_slice (sl_K (K := K) rfl) (pv 1) po_none (po_some (pv 2))) (pv 3)) (pe_slice (sl_K (K := K) rfl) (pv 1) (po_some (pv 2)) po_none)))) pss_nil)
      (pss_cons (ps_if (pt_cmpR (op_eqK (K := K) rfl hr.units) (pv 4) pe_int (nomark _)) (pss_one (ps_ret (pe_op op_plus (pe_slice (sl_K (K := K) rfl) (pv 1) po_none (po_some (pv 2))) (pe_slice (sl_K (K := K) rfl) (pv 1) (po_some (pe_op op_plus (pv 2) pe_int)) po_none)))) pss_nil)
      (pss_cons (ps_if (pt_cmpR (op_eqK (K := K) rfl hr.units) (pv 4) pe_int (nomark _)) (pss_one (ps_ret (pe_op op_plus (pe_op op_plus (pe_slice (sl_K (K := K) rfl) (pv 1) po_none (po_some (pv 2))) (pv 3)) (pe_slice (sl_K (K := K) rfl) (pv 1) (po_some (pe_op op_plus (pv 2) pe_int)) po_none)))) pss_nil)
      (pss_cons (ps_if (pt_cmpR (op_eqK (K := K) rfl hr.units) (pv 4) pe_int (nomark _)) (pss_one (ps_ret (pe_op op_plus (pv 1) (pe_slice (sl_K (K := K) rfl) pe_str po_none (po_some (pe_op op_plus pe_int (pe_op op_modd (pv 2) pe_int))))))) pss_nil)
      (pss_one (ps_ret (pe_op op_plus (pe_op op_plus (pe_slice (sl_K (K := K) rfl) (pv 1) po_none (po_some (pv 2))) pe_str) (pe_slice (sl_K (K := K) rfl) (pv 1) (po_some (pe_op op_plus (pv 2) pe_int)) po_none)))))))))))), ?_⟩)
  · obtain ⟨a, ns, z, rfl, _⟩ := h
    rfl
  · obtain ⟨a, ns, z, rfl, hs, hz, q⟩ := h
    have zl : ∀ {n : Nat}, n ≤ 20000 → n ≤ sizeLine := fun h => Nat.le_trans h (by decide)
    walk_at "go"
    refine ⟨a, ns, 9, rfl, hs, by decide, fun c2 H1 _ e1 => ?_⟩
    walk_at "go"
    refine s_lenS (zl (by omega)) ?_
    have b1 := Int.emod_nonneg c2 (b := (z.length : Int) + 1) (by omega)
    have b2 := Int.emod_lt_of_pos c2 (b := (z.length : Int) + 1) (by omega)
    walk_at "go"
    obtain ⟨n, hn⟩ : ∃ n : Nat, c2 % ((z.length : Int) + 1) = (n : Int) := ⟨(c2 % ((z.length : Int) + 1)).toNat, by omega⟩
    rw [hn] at b1 b2 ⊢
    refine ⟨a, ns, 10, rfl, Evl.ex_l e1 hs, by decide, fun c1 H2 _ e2 => ?_⟩
    walk_at "go"
    have a1 := Int.emod_nonneg c1 (b := 8) (by decide)
    have a2 := Int.emod_lt_of_pos c1 (b := 8) (by decide)
    have zs : (Str.ofString " a!-\t\n~b").cps.toList.length = 8 := by decide +kernel
    obtain ⟨m, hm⟩ : ∃ m : Nat, c1 % 8 = (m : Int) := ⟨(c1 % 8).toNat, by omega⟩
    rw [hm] at a1 a2 ⊢
    refine s_ixS (c := (Str.ofString " a!-\t\n~b").cps.toList[m]'(by omega)) (by decide +kernel) (atI_nat (List.getElem?_eq_getElem _)) ?_
    generalize hsg : (⟨#[(Str.ofString " a!-\t\n~b").cps.toList[m]'(by omega)]⟩ : Str) = sg
    have sg1 : sg.length = 1 := by rw [← hsg]; rfl
    walk_at "go"
    refine ⟨a, ns, 11, rfl, Evl.ex_l (e1.trans e2) hs, by decide, fun c3 H3 _ e3 => ?_⟩
    have d1 := Int.emod_nonneg c3 (b := 6) (by decide)
    have d2 := Int.emod_lt_of_pos c3 (b := 6) (by decide)
    walk_at "go"
    generalize c3 % 6 = wy at *
    have e03 := (e1.trans e2).trans e3
    have l1 := cutS_to_len z n
    have l2 := cutS_from_len z n
    have l3 := cutS_le z (some ((n : Int) + 1)) none
    have l4 := cutS_le z (some ((n : Int) + 9)) none
    by_cases w0 : wy = 0
    · refine if_d w0 ?_
      walk_at "go"
      exact q _ _ (by omega) e03
    refine if_n w0 ?_
    walk_at "go"
    by_cases w1 : wy = 1
    · refine if_d w1 ?_
      walk_at "go"
      refine s_slS (zl (by omega)) ?_
      walk_at "go"
      refine s_plusS (zl (by omega)) ?_
      walk_at "go"
      refine s_slS (zl (by omega)) ?_
      refine s_plusS (zl (by rw [app_len]; omega)) ?_
      exact q _ _ (by rw [app_len, app_len]; omega) e03
    refine if_n w1 ?_
    walk_at "go"
    have l3' : (cutS z (some ((n : Int) + 1)) none).length ≤ z.length - n := by
      rw [show (n : Int) + 1 = ((n + 1 : Nat) : Int) by omega, cutS_from_len]
      omega
    have l4' : (cutS z (some ((n : Int) + 9)) none).length ≤ z.length - n := by
      rw [show (n : Int) + 9 = ((n + 9 : Nat) : Int) by omega, cutS_from_len]
      omega
    by_cases w2 : wy = 2
    · refine if_d w2 ?_
      walk_at "go"
      refine s_slS (zl (by omega)) ?_
      walk_at "go"
      refine s_slS (zl (by omega)) ?_
      refine s_plusS (zl (by omega)) ?_
      exact q _ _ (by rw [app_len]; omega) e03
    refine if_n w2 ?_
    walk_at "go"
    by_cases w3 : wy = 3
    · refine if_d w3 ?_
      walk_at "go"
      refine s_slS (zl (by omega)) ?_
      walk_at "go"
      refine s_plusS (zl (by omega)) ?_
      walk_at "go"
      refine s_slS (zl (by omega)) ?_
      refine s_plusS (zl (by rw [app_len]; omega)) ?_
      exact q _ _ (by rw [app_len, app_len]; omega) e03
    refine if_n w3 ?_
    walk_at "go"
    have k9 : (Str.ofString "abcdefghi").length ≤ 20 := by decide +kernel
    by_cases w4 : wy = 4
    · refine if_d w4 ?_
      walk_at "go"
      refine s_slS (zl (by omega)) ?_
      have hle := cutS_le (Str.ofString "abcdefghi") none (some (1 + (n : Int) % 9))
      refine s_plusS (zl (by omega)) ?_
      exact q _ _ (by rw [app_len]; omega) e03
    refine if_n w4 ?_
    walk_at "go"
    refine s_slS (zl (by omega)) ?_
    walk_at "go"
    refine s_plusS (zl (by omega)) ?_
    walk_at "go"
    refine s_slS (zl (by omega)) ?_
    refine s_plusS (zl (by rw [app_len]; omega)) ?_
    exact q _ _ (by rw [app_len, app_len]; omega) e03
def sp_law_is_cell : Sp := fun vs H Q _ => ∃ z : Str, vs = [.str z] ∧ z.length ≤ 100000 ∧ ∀ H', Ex H H' → Q (.bl (isCell z)) H'
abbrev s_law_is_cell : Stmt := topS 17
abbrev n_law_is_cell : List Str := ["text", "sign"]
theorem sc_law_is_cell : FnScope n_law_is_cell ["text"] (defScope s_law_is_cell) := ⟨rfl, rfl, rfl, by decide +kernel, rfl, by decide +kernel, by decide +kernel⟩

theorem ok_law_is_cell (D : Std K mg "_law_is_cell" s_law_is_cell ["text"]) (T : Bl mg) : Has P w K mg base CX0 1 "_law_is_cell" ["text"] sp_law_is_cell := by
  refine D.ok sc_law_is_cell (fun vs H Q E h => ?_) (fun f cdv A outer s H vs Q E hr h => ⟨_, (pss_one (ps_ret (pe_and (pe_cmpR op_leU (pe_callB (call_lenK (K := K) rfl) (by rfl) T.len PySem.boot_len (pa_cons (pv 0) pa_nil)) pe_int (nomark _)) (pe_one (pe_cmpR (op_eqK (K := K) rfl hr.units) (pe_callB (call_lenK (K := K) rfl) (by rfl) T.len PySem.boot_len (pa_cons (pe_lc (own := [("sign", 1)]) (g := gName 1) rfl sc_law_is_cell.nd (pi_str (pv 0)) (blkOk_by (N := n_law_is_cell) (sc := defScope s_law_is_cell) (by decide +kernel)) (fun _ _ _ _ _ => (pg_name (i := 1) sc_law_is_cell.nd rfl (Or.inl rfl))) (fun _ _ _ _ _ => (pts_one (pt_not (pt_chain op_leU op_leU pe_str (pv 1) pe_str)))) (fun _ _ _ _ _ => (pv 1))) pa_nil)) pe_int (nomark _)))))), ?_⟩)
  · obtain ⟨z, rfl, _⟩ := h
    rfl
  · obtain ⟨z, rfl, hz, q⟩ := h
    walk_at "go"
    refine s_lenS (Nat.le_trans hz (by decide)) ?_
    walk_at "go"
    by_cases h8 : z.length ≤ 8
    · refine if_d (by omega) ?_
      walk_at "go"
      intro Dl hD
      refine lc_fil walk_str (fun j => !okC (z.cps.getD j 0)) (fun j => V.str ⟨#[z.cps.getD j 0]⟩) hD (fun _ _ => trivial) (Nat.le_trans h8 (by decide)) (fun j x Hc Hd R S hj e2 y kt kf => ?_) (fun H3 e3 h3 => ?_)
      · obtain ⟨rfl, c, hc, rfl⟩ := y
        have hg : z.cps.getD j 0 = c := by rw [Array.getD_eq_getD_getElem?, hc]; rfl
        simp only [hg] at kt kf
        refine ⟨rfl, ?_⟩
        walk_at "go"
        rw [le_lo]
        unfold okC at kt kf
        by_cases g1 : 33 ≤ c
        · refine if_d g1 ?_
          walk_at "go"
          rw [le_hi]
          rw [decide_eq_true g1, Bool.true_and] at kt kf
          cases g2 : decide (c ≤ 126) with
          | true =>
            refine if_f rfl ?_
            exact kf (by rw [g2]; rfl) _ (Ex.refl _)
          | false =>
            refine if_t rfl ?_
            walk_at "go"
            exact kt (by rw [g2]; rfl) _ (Ex.refl _)
        · refine if_n g1 ?_
          walk_at "go"
          rw [decide_eq_false g1, Bool.false_and] at kt
          refine if_t rfl ?_
          walk_at "go"
          exact kt rfl _ (Ex.refl _)
      · walk_at "go"
        rw [List.length_map]
        have hf := filter_nil (p := okC) (z := z)
        have hq := q _ e3
        unfold isCell at hq
        rw [decide_eq_true h8, Bool.true_and] at hq
        have : decide ((((List.range z.cps.size).filter fun i => !okC (z.cps.getD i 0)).length : Int) = 0) = z.cps.toList.all okC := by
          rw [Bool.eq_iff_iff, decide_eq_true_eq, ← hf]
          omega
        rw [this]
        exact hq
    · refine if_n (by omega) ?_
      have hq := q _ (Ex.refl _)
      unfold isCell at hq
      rw [decide_eq_false h8, Bool.false_and] at hq
      exact hq
def sp_law_due : Sp := fun vs H Q _ => ∃ (t : Str) (o : Addr) (ws : List Nat), vs = [.str t, .ref o] ∧ H o = some (.lst (natV ws)) ∧ t.length ≤ 100000 ∧ ws.length ≤ 1000 ∧ (∀ n ∈ ws, n ≤ 1000) ∧
  (∀ r, cutOf t ws = some r → ∀ p H', Ex H H' → H p = none → H' p = some (.lst (rowV r)) → Q (.ref p) H') ∧ (cutOf t ws = none → ∀ H', Ex H H' → Q .non H')
abbrev s_law_due : Stmt := topS 18
abbrev n_law_due : List Str := ["text", "own", "found", "at", "width", "piece", "cell"]
theorem sc_law_due : FnScope n_law_due ["text", "own"] (defScope s_law_due) := ⟨rfl, rfl, rfl, by decide +kernel, rfl, by decide +kernel, by decide +kernel⟩

theorem ok_law_due (D : Std K mg "_law_due" s_law_due ["text", "own"]) (T : Bl mg) (h_law_is_cell : Has P w K mg base CX0 1 "_law_is_cell" ["text"] sp_law_is_cell) : Has P w K mg base CX0 2 "_law_due" ["text", "own"] sp_law_due := by
  refine D.ok sc_law_due (fun vs H Q E h => ?_) (fun f cdv A outer s H vs Q E hr h => ⟨_, (pss_cons (ps_set (i := 2) sc_law_due.nd rfl (Or.inl rfl) (pe_lst pa_nil))
      (pss_cons (ps_set (i := 3) sc_law_due.nd rfl (Or.inl rfl) pe_int)
      (pss_cons (ps_for PassesOwn.never rfl (pi_listK (K := K) rfl (pv 1)) (pg_name (i := 4) sc_law_due.nd rfl (Or.inl rfl)) (pss_cons (ps_set (i := 5) sc_law_due.nd rfl (Or.inl rfl) (pe_slice (sl_K (K := K) rfl) (pv 0) (po_some (pv 3)) (po_some (pe_op op_plus (pv 3) (pv 4)))))
      (pss_cons (ps_set (i := 3) sc_law_due.nd rfl (Or.inl rfl) (pe_op op_plus (pv 3) (pv 4)))
      (pss_cons (ps_set (i := 6) sc_law_due.nd rfl (Or.inl rfl) (pv 5))
      (pss_cons (ps_while PassesOwn.never (pt_cmpR (op_eqK (K := K) rfl hr.units) (pe_slice (sl_K (K := K) rfl) (pv 6) (po_some (pe_un un_neg pe_int)) po_none) pe_str (nomark _)) (pss_one (ps_set (i := 6) sc_law_due.nd rfl (Or.inl rfl) (pe_slice (sl_K (K := K) rfl) (pv 6) po_none (po_some (pe_un un_neg pe_int))))))
      (pss_cons (ps_if (PW.pt (pw_or (pt_cmpR op_ltI (pe_callB (call_lenK (K := K) rfl) (by rfl) T.len PySem.boot_len (pa_cons (pv 5) pa_nil)) (pv 4) (nomark _)) (pw_or (pt_cmpR (op_eqK (K := K) rfl hr.units) (pv 6) (pv 5) (nomark _)) (pw_or1 (pt_not (pt_val (pe_own h_law_is_cell (hr.mono (by decide)) (by rfl) (pa_cons (pv 6) pa_nil)))))))) (pss_one (ps_ret pe_non)) pss_nil)
      (pss_one (ps_expr (pe_bmK (K := K) rfl PySem.F.plainAttrs_list PySem.F.slot_list_append PySem.F.type_list_append mt_append (pv 2) (pa_cons (pv 6) pa_nil))))))))))
      (pss_cons (ps_if (pt_not (pt_val (pe_own h_law_is_cell (hr.mono (by decide)) (by rfl) (pa_cons (pe_slice (sl_K (K := K) rfl) (pv 0) (po_some (pv 3)) po_none) pa_nil)))) (pss_one (ps_ret pe_non)) pss_nil)
      (pss_one (ps_ret (pe_op op_plus (pv 2) (pe_lst (pa_cons (pe_slice (sl_K (K := K) rfl) (pv 0) (po_some (pv 3)) po_none) pa_nil))))))))), ?_⟩)
  · obtain ⟨b, o, l, rfl, _⟩ := h
    rfl
  · obtain ⟨t, o, ws, rfl, ho, ht, hwl, hw, q1, q2⟩ := h
    have hl2 := TL.len_tl t
    walk_at "go"
    refine ⟨Nat.zero_le _, fun fd hfd => ?_⟩
    generalize hE1 : upd _ fd _ = H0
    obtain ⟨e0, h0⟩ := gen hE1 hfd
    clear hE1
    walk_at "go"
    refine for_it (walk_list (xs := natV ws)) (fun i σ' H' => ∃ (at' : Nat) (y4 y5 y6 : Option V) (done : List Str), σ' = [some (.str t), some (.ref o), some (.ref fd), some (.int (at' : Int)), y4, y5, y6] ∧ Ex H H' ∧ H' fd = some (.lst (rowV done)) ∧ done.length = i ∧ cutL (TL.tl t) ws = (cutL ((TL.tl t).drop at') (ws.drop i)).map (done ++ ·)) ?_ (fun i σ' H' _ hh => ?_) ?_ ?_
    · refine ⟨0, _, _, _, [], rfl, e0, h0, rfl, ?_⟩
      rw [List.drop_zero, List.drop_zero]
      cases cutL (TL.tl t) ws <;> rfl
    · obtain ⟨_, _, _, _, _, _, e, _⟩ := hh
      exact SqL.of (e _ _ ho)
    · rintro i x σ' Ha Hb hi ⟨at', y4, y5, y6, done, rfl, e, hf, hd, hcut⟩ ⟨rfl, hx⟩
      obtain ⟨n, hn, rfl⟩ := natV_at hx
      have hn2 := hw n (List.mem_of_getElem? hn)
      have hdrop : ws.drop i = n :: ws.drop (i + 1) := by
        have hil := (List.getElem?_eq_some_iff.mp hn)
        rw [← hil.2]
        exact List.drop_eq_getElem_cons hil.1
      rw [hdrop, cutL] at hcut
      walk_at "go"
      refine s_slS (Nat.le_trans ht (by decide)) ?_
      rw [cutS_St]
      have hpl : (((TL.tl t).drop at').take n).length ≤ 100000 := by
        rw [List.length_take, List.length_drop]
        omega
      generalize hp : ((TL.tl t).drop at').take n = pc at *
      have bad : pieceOk pc n = false → ∀ H', Ex H H' → Q .non H' := fun h H' e' => by
        refine q2 ?_ _ e'
        unfold cutOf
        rw [hcut, if_neg (by rw [h]; decide)]
        rfl
      walk_at "go"
      refine ⟨fun m σ' H' => ∃ l : List Nat, m = l.length ∧ σ' = [some (.str t), some (.ref o), some (.ref fd), some (.int ((at' : Int) + (n : Int))), some (.int (n : Int)), some (.str (St pc)), some (.str (St l))] ∧ H' = Hb ∧ stripL l = stripL pc ∧ l.length ≤ pc.length, ⟨_, pc, rfl, rfl, rfl, rfl, Nat.le_refl _⟩, ?_⟩
      rintro m σ' H' ⟨l, rfl, rfl, rfl, hsl, hll⟩
      walk_at "go"
      refine ⟨1, rfl, ?_⟩
      walk_at "go"
      refine s_slS (Nat.le_trans (show _ ≤ 100000 by rw [St_len]; omega) (by decide)) ?_
      rw [cutS_last, bl_St]
      walk_at "go"
      by_cases hlast : l.drop (l.length - 1) = [32]
      · refine if_d (by rw [hlast]) ?_
        have hle := drop_last hlast
        refine ⟨fun σ' H'' => σ' = [some (.str t), some (.ref o), some (.ref fd), some (.int ((at' : Int) + (n : Int))), some (.int (n : Int)), some (.str (St pc)), some (.str (St l.dropLast))] ∧ H'' = H', fun σ2 H2 h2 => ⟨l.dropLast.length, ?_, l.dropLast, rfl, h2.1, h2.2, ?_, ?_⟩, ?_⟩
        · have := congrArg List.length hle
          rw [List.length_append, List.length_singleton] at this
          omega
        · rw [← hsl]
          conv => rhs; rw [hle, strip_snoc]
        · rw [List.length_dropLast]
          omega
        · walk_at "go"
          refine ⟨1, rfl, ?_⟩
          walk_at "go"
          refine s_slS (Nat.le_trans (show _ ≤ 100000 by rw [St_len]; omega) (by decide)) ?_
          rw [cutS_init]
          walk_at "go"
          exact ⟨rfl, rfl⟩
      · refine if_n (fun z => hlast (St_inj z)) ?_
        have hcell : l = stripL pc := by rw [← hsl, strip_none (drop_last_no hlast)]
        subst hcell
        have hsl' := stripL_le pc
        walk_at "go"
        refine s_lenS (Nat.le_trans (show _ ≤ 100000 by rw [St_len]; exact hpl) (by decide)) ?_
        walk_at "go"
        rw [St_len]
        by_cases hlt : pc.length < n
        · refine if_d (by omega) ?_
          refine if_t rfl ?_
          walk_at "go"
          refine bad ?_ _ e
          unfold pieceOk
          rw [decide_eq_false (by omega), Bool.false_and]
        · refine if_n (by omega) ?_
          walk_at "go"
          by_cases heq : St (stripL pc) = St pc
          · refine if_d heq ?_
            refine if_t rfl ?_
            walk_at "go"
            refine bad ?_ _ e
            unfold pieceOk
            rw [St_inj heq, decide_eq_true rfl]
            simp
          · refine if_n heq ?_
            walk_at "go"
            refine ⟨_, rfl, by rw [St_len]; omega, fun H1 e1 => ?_⟩
            have hne : (stripL pc).length ≠ pc.length := fun z => heq (by rw [strip_same z])
            walk_at "go"
            cases hc : isCell (St (stripL pc)) with
            | false =>
              refine if_t rfl ?_
              walk_at "go"
              refine bad ?_ _ (e.trans e1)
              unfold pieceOk
              rw [hc]
              simp
            | true =>
              refine if_f rfl ?_
              have hf1 := e1 _ _ hf
              walk_at "go"
              refine s_app hf1 (by rw [List.length_map, hd]; have : i < ws.length := by rw [List.length_map] at hi; exact hi
                                   exact Nat.lt_of_lt_of_le (show i < 100000 by omega) (by decide)) ?_
              walk_at "go"
              refine ⟨at' + n, some (.int (n : Int)), some (.str (St pc)), some (.str (St (stripL pc))), done ++ [St (stripL pc)], ?_, Ex.mut (e.trans e1) hfd, ?_, by rw [List.length_append, hd]; rfl, ?_⟩
              · rw [Int.natCast_add]
              · rw [upd_same]
                unfold rowV
                rw [List.map_append]
                rfl
              · rw [hcut, if_pos, List.drop_drop]
                · rw [Option.map_map]
                  congr 1
                  funext r
                  show done ++ (_ :: r) = (done ++ [_]) ++ r
                  rw [List.append_assoc]
                  rfl
                · unfold pieceOk
                  rw [decide_eq_true (show n ≤ _ by omega), decide_eq_false hne, hc]
                  rfl
    · rintro σ' Hc ⟨at', y4, y5, y6, done, rfl, e, hf, hd, hcut⟩
      rw [List.length_map, List.drop_length, cutL] at hcut
      have hpl : ((TL.tl t).drop at').length ≤ 100000 := by
        rw [List.length_drop]
        omega
      rw [List.length_map] at hd
      walk_at "go"
      refine s_slS (Nat.le_trans ht (by decide)) ?_
      rw [cutS_St2]
      walk_at "go"
      refine ⟨_, rfl, by rw [St_len]; exact hpl, fun H1 e1 => ?_⟩
      walk_at "go"
      cases hc : isCell (St ((TL.tl t).drop at')) with
      | true =>
        refine if_f rfl ?_
        walk_at "go"
        refine s_slS (Nat.le_trans ht (by decide)) ?_
        rw [cutS_St2]
        walk_at "go"
        refine ⟨(show 1 ≤ sizeLine by decide), fun p hp => ?_⟩
        generalize hE2 : upd _ p _ = H2
        obtain ⟨e2, h2⟩ := gen hE2 hp
        clear hE2
        refine s_cat (e2 _ _ (e1 _ _ hf)) h2 (Nat.le_trans (show _ ≤ 2000 by rw [List.length_map, hd]; show ws.length + 1 ≤ 2000; omega) (by decide)) (fun p2 hp2 => ?_)
        have e3 := ((e.trans e1).trans e2)
        refine q1 (done ++ [St ((TL.tl t).drop at')]) ?_ p2 _ (e3.trans (Ex.new hp2)) (Evl.fresh_back e3 hp2) ?_
        · unfold cutOf
          rw [hcut, hc]
          rfl
        · rw [upd_same]
          unfold rowV
          rw [List.map_append]
          rfl
      | false =>
        refine if_t rfl ?_
        walk_at "go"
        refine q2 ?_ _ (e.trans e1)
        unfold cutOf
        rw [hcut, hc]
        rfl
def sp_law_refused : Sp := fun vs H Q _ => ∃ (t : Str) (o : Addr) (ws : List Nat), vs = [.str t, .ref o] ∧ H o = some (.lst (natV ws)) ∧ t.length ≤ 100000 ∧ ws.length ≤ 1000 ∧ (∀ n ∈ ws, n ≤ 1000) ∧ cutOf t ws = none ∧ ∀ H', Ex H H' → Q (.bl true) H'
abbrev s_law_refused : Stmt := topS 19
abbrev n_law_refused : List Str := ["text", "own", "bad", "e"]
theorem sc_law_refused : FnScope n_law_refused ["text", "own"] (defScope s_law_refused) := ⟨rfl, rfl, rfl, by decide +kernel, rfl, by decide +kernel, by decide +kernel⟩

theorem ok_law_refused {c_ColumnError c_NoPage c_NoCut : Addr} (D : Std K mg "_law_refused" s_law_refused ["text", "own"]) (T : Bl mg) (XX : XXs K mg c_ColumnError c_NoPage c_NoCut) (h_cut : Has P w K mg base (L2.CX P w) 3 "cut" ["text", "widths"] (sp_cut c_NoCut)) : Has P w K mg base CX0 4 "_law_refused" ["text", "own"] sp_law_refused := by
  refine D.ok sc_law_refused (fun vs H Q E h => ?_) (fun f cdv A outer s H vs Q E hr h => ⟨_, (pss_cons (ps_set (i := 2) sc_law_refused.nd rfl (Or.inl rfl) pe_bl)
      (pss_cons (ps_try_as (i := 3) rfl rfl sc_law_refused.nd rfl rfl ⟨rfl, by decide, .inl XX.i_NoCut.g⟩ takes0 (fun W pn xe tk _ => (pss_one (ps_expr (pe_ownX h_cut tk (hr.mono (by decide)) (by rfl) (pa_cons (pv 0) (pa_cons (pv 1) pa_nil)))))) (fun a oe cls d pn hz hf => (pss_one (ps_set (i := 2) sc_law_refused.nd rfl (Or.inl rfl) (pe_and (pe_callB (call_isA (K := K) rfl hz hf) (by rfl) T.isi (by decide +kernel) (pa_cons (pv 3) (pa_cons (pe_glob (v := .ref c_ColumnError) (by rfl) XX.i_ColumnError.g rfl) pa_nil))) (pe_and (pe_callB (call_isA (K := K) rfl hz hf) (by rfl) T.isi (by decide +kernel) (pa_cons (pv 3) (pa_cons (pe_bltn (v := .ty "ValueError") (by rfl) T.ValueError (by decide +kernel) rfl) pa_nil))) (pe_one (pe_not (pe_callB (call_isA (K := K) rfl hz hf) (by rfl) T.isi (by decide +kernel) (pa_cons (pv 3) (pa_cons (pe_glob (v := .ref c_NoPage) (by rfl) XX.i_NoPage.g rfl) pa_nil)))))))))))
      (pss_one (ps_ret (pv 2))))), ?_⟩)
  · obtain ⟨z, o, ws, rfl, _⟩ := h
    rfl
  · obtain ⟨t, o, ws, rfl, ho, ht, hwl, hw, hc, q⟩ := h
    walk_at "go"
    refine ⟨t, o, ws, rfl, ho, ht, hwl, hw, fun r hr2 => ?_, fun _ H1 e1 => ?_⟩
    · rw [hc] at hr2; cases hr2
    refine ⟨true, XX.i_NoCut.exm XX.i_NoCut.s, fun _ a na => ?_, fun z => nomatch z⟩
    walk_at "go"
    refine s_isA XX.i_NoCut.e (XX.i_ColumnError.kit XX.i_NoCut XX.u_NoCut_ColumnError) ?_
    walk_at "go"
    refine if_t rfl ?_
    walk_at "go"
    refine s_isAV XX.i_NoCut.e XX.i_NoCut.val ?_
    walk_at "go"
    refine if_t rfl ?_
    walk_at "go"
    refine s_isA XX.i_NoCut.e (XX.i_NoPage.kit XX.i_NoCut XX.u_NoCut_NoPage) ?_
    walk_at "go"
    exact q _ e1
end
/-! ### the law -/
theorem cutL_ok : ∀ {ws : List Nat} {l : List Nat} {r : List Str}, cutL l ws = some r → Okr r ∧ r.length = ws.length + 1
  | [], l, r, h => by
    unfold cutL at h
    by_cases hc : isCell (St l) = true
    · rw [if_pos hc] at h
      cases h
      exact ⟨fun z hz => by rw [List.mem_singleton.mp hz]; exact strOk_cell hc, rfl⟩
    · rw [if_neg hc] at h
      cases h
  | w :: ws, l, r, h => by
    unfold cutL at h
    by_cases hp : pieceOk (l.take w) w = true
    · rw [if_pos hp] at h
      cases hr : cutL (l.drop w) ws with
      | none => rw [hr] at h; cases h
      | some r' =>
        rw [hr] at h
        cases h
        obtain ⟨h1, h2⟩ := cutL_ok hr
        refine ⟨fun z hz => ?_, by rw [List.length_cons, h2, List.length_cons]⟩
        rcases List.mem_cons.mp hz with rfl | hz
        · unfold pieceOk at hp
          rw [Bool.and_eq_true, Bool.and_eq_true] at hp
          exact strOk_cell hp.2.2
        · exact h1 z hz
    · rw [if_neg hp] at h
      cases h
section
variable {P : Program} {w : World} {K : PySem.W.Frag} {mg : Str → Option Value} {base : Heap}
def sp_law (K : PySem.W.Frag) : Sp := fun vs H Q _ => ∃ (a : Addr) (ns : List Int), vs = [.ref a] ∧ SqL K H a (ns.map V.int) ∧ ∀ H', Q (.bl true) H'
abbrev s_law : Stmt := topS 20
abbrev n_law : List Str := ["script", "own", "pieces", "text", "due"]
theorem sc_law : FnScope n_law ["script"] (defScope s_law) := ⟨rfl, rfl, rfl, by decide +kernel, rfl, by decide +kernel, by decide +kernel⟩

theorem ok_law {c_ColumnError c_NoPage c_NoCut : Addr} (D : Std K mg "law" s_law ["script"]) (T : Bl mg) (XX : XXs K mg c_ColumnError c_NoPage c_NoCut) (h_law_pieces : Has P w K mg base CX0 2 "_law_pieces" ["script"] (sp_law_pieces K)) (h_law_spoiled : Has P w K mg base CX0 2 "_law_spoiled" ["script", "text"] (sp_law_spoiled K)) (h_law_due : Has P w K mg base CX0 2 "_law_due" ["text", "own"] sp_law_due)
    (h_law_refused : Has P w K mg base CX0 4 "_law_refused" ["text", "own"] sp_law_refused) (h_cut : Has P w K mg base (L2.CX P w) 3 "cut" ["text", "widths"] (sp_cut c_NoCut)) (h_law_texts : Has P w K mg base CX0 1 "_law_texts" ["found", "due"] sp_law_texts) : Has P w K mg base CX0 5 "law" ["script"] (sp_law K) := by
  refine D.ok sc_law (fun vs H Q E h => ?_) (fun f cdv A outer s H vs Q E hr h => ⟨_, (pss_cons (ps_asg (pe_own h_law_pieces (hr.mono (by decide)) (by rfl) (pa_cons (pv 0) pa_nil)) (pg_tupK (K := K) rfl rfl (pgs_cons (pg_name (i := 1) sc_law.nd rfl (Or.inl rfl)) (pgs_cons (pg_name (i := 2) sc_law.nd rfl (Or.inl rfl)) pgs_nil))))
      (pss_cons (ps_set (i := 3) sc_law.nd rfl (Or.inl rfl) (pe_own h_law_spoiled (hr.mono (by decide)) (by rfl) (pa_cons (pv 0) (pa_cons (pe_bmK (K := K) rfl PySem.F.plainAttrs_str PySem.F.slot_str_join PySem.F.type_str_join (mt_joinK (K := K) rfl) pe_str (pa_cons (pv 2) pa_nil)) pa_nil))))
      (pss_cons (ps_set (i := 4) sc_law.nd rfl (Or.inl rfl) (pe_own h_law_due (hr.mono (by decide)) (by rfl) (pa_cons (pv 3) (pa_cons (pv 1) pa_nil))))
      (pss_cons (ps_if (pt_cmpR op_isNn (pv 4) pe_non (nomark _)) (pss_one (ps_ret (pe_and (pe_own h_law_refused (hr.mono (by decide)) (by rfl) (pa_cons (pv 3) (pa_cons (pe_callTy (call_listK (K := K) rfl) (by rfl) T.list (by decide +kernel) (pa_cons (pv 1) pa_nil)) pa_nil))) (pe_one (pe_own h_law_refused (hr.mono (by decide)) (by rfl) (pa_cons (pv 3) (pa_cons (pe_callTy (call_listK (K := K) rfl) (by rfl) T.list (by decide +kernel) (pa_cons (pv 1) pa_nil)) pa_nil))))))) pss_nil)
      (pss_one (ps_ret (pe_own h_law_texts (hr.mono (by decide)) (by rfl) (pa_cons (pe_ownL h_cut (hr.mono (by decide)) (by rfl) (pa_cons (pv 3) (pa_cons (pe_callTy (call_listK (K := K) rfl) (by rfl) T.list (by decide +kernel) (pa_cons (pv 1) pa_nil)) pa_nil))) (pa_cons (pv 4) pa_nil))))))))), ?_⟩)
  · obtain ⟨c, r, rfl, _⟩ := h
    rfl
  · obtain ⟨a, ns, rfl, hs, q⟩ := h
    walk_at "go"
    refine ⟨a, ns, rfl, hs, fun p o t ws ts H1 e1 hp ho ht wl wb tl tb => ?_⟩
    walk_at "go"
    have he : (Str.ofString "").length = 0 := by decide +kernel
    have hsum := sum_le (xs := ts.map (·.length)) (n := 30) (fun x hx => by
      obtain ⟨z, hz', rfl⟩ := List.mem_map.mp hx
      exact tb z hz')
    rw [List.length_map] at hsum
    refine s_join ht (by rw [he]; omega) ?_
    have hj : (Txt.join (Str.ofString "") ts).length ≤ 9000 := by
      have h2 : (Txt.join (Str.ofString "") ts).length = (ts.map (·.length)).sum + (ts.length - 1) * (Str.ofString "").length := size_glued _ _
      rw [h2, he]
      omega
    refine ⟨a, ns, _, rfl, Evl.ex_l e1 hs, hj, fun z H2 hz e2 => ?_⟩
    have ho2 := e2 _ _ ho
    have wb2 : ∀ n ∈ ws, n ≤ 1000 := fun n hn => by have := wb n hn; omega
    walk_at "go"
    refine ⟨z, o, ws, rfl, ho2, by omega, by omega, wb2, fun r hr2 d H3 e3 hd h3 => ?_, fun hc H3 e3 => ?_⟩
    · obtain ⟨k1, k2⟩ := cutL_ok hr2
      walk_at "go"
      refine if_n (by intro z; cases z) ?_
      walk_at "go"
      refine ⟨o, _, rfl, .inl (SqL.of (e3 _ _ ho2)), fun l hl => ?_⟩
      generalize hE1 : upd _ l _ = H4
      obtain ⟨e4, h4⟩ := gen hE1 hl
      clear hE1
      walk_at "go"
      refine ⟨z, l, ws, rfl, h4, by omega, by omega, wb2, fun r2 hr3 u H5 e5 hu h5 => ?_, fun hc => ?_⟩
      · cases hr2.symm.trans hr3
        walk_at "go"
        refine ⟨u, d, r, r, rfl, h5, (e4.trans e5) _ _ h3, by omega, k1, k1, fun H6 e6 => ?_⟩
        rw [decide_eq_true rfl]
        exact q _
      · rw [hr2] at hc; cases hc
    · walk_at "go"
      refine if_d rfl ?_
      have ho3 := e3 _ _ ho2
      walk_at "go"
      refine ⟨o, _, rfl, .inl (SqL.of ho3), fun l hl => ?_⟩
      generalize hE1 : upd _ l _ = H4
      obtain ⟨e4, h4⟩ := gen hE1 hl
      clear hE1
      refine ⟨z, l, ws, rfl, h4, by omega, by omega, wb2, hc, fun H5 e5 => ?_⟩
      walk_at "go"
      refine if_t rfl ?_
      walk_at "go"
      refine ⟨o, _, rfl, .inl (SqL.of ((e4.trans e5) _ _ ho3)), fun l2 hl2 => ?_⟩
      generalize hE1 : upd _ l2 _ = H6
      obtain ⟨e6, h6⟩ := gen hE1 hl2
      clear hE1
      exact ⟨z, l2, ws, rfl, h6, by omega, by omega, wb2, hc, fun H7 e7 => q _⟩
end

theorem fin {P : Program} {w : World} {K : PySem.W.Frag} {h : Heap} {mg : Str → Option Value} {fa : Addr} (X : K.In h) (G : h.Ns mainGlobals mg) (hfa : mg "law" = some (.ref fa))
    {f_is_cell : Addr} {od_is_cell an_is_cell : Option Addr} {sl_is_cell : Array (Option Value)} {oc_is_cell kV_is_cell dc_is_cell pm_is_cell cd_is_cell ct_is_cell : Value}
    {f_law_cell_at : Addr} {od_law_cell_at an_law_cell_at : Option Addr} {sl_law_cell_at : Array (Option Value)} {oc_law_cell_at kV_law_cell_at dc_law_cell_at pm_law_cell_at cd_law_cell_at ct_law_cell_at : Value}
    {f_law_text : Addr} {od_law_text an_law_text : Option Addr} {sl_law_text : Array (Option Value)} {oc_law_text kV_law_text dc_law_text pm_law_text cd_law_text ct_law_text : Value}
    {f_law_texts : Addr} {od_law_texts an_law_texts : Option Addr} {sl_law_texts : Array (Option Value)} {oc_law_texts kV_law_texts dc_law_texts pm_law_texts cd_law_texts ct_law_texts : Value}
    {f_cell_of : Addr} {od_cell_of an_cell_of : Option Addr} {sl_cell_of : Array (Option Value)} {oc_cell_of kV_cell_of dc_cell_of pm_cell_of cd_cell_of ct_cell_of : Value}
    {f_cut : Addr} {od_cut an_cut : Option Addr} {sl_cut : Array (Option Value)} {oc_cut kV_cut dc_cut pm_cut cd_cut ct_cut : Value}
    {f_law_pieces : Addr} {od_law_pieces an_law_pieces : Option Addr} {sl_law_pieces : Array (Option Value)} {oc_law_pieces kV_law_pieces dc_law_pieces pm_law_pieces cd_law_pieces ct_law_pieces : Value}
    {f_law_spoiled : Addr} {od_law_spoiled an_law_spoiled : Option Addr} {sl_law_spoiled : Array (Option Value)} {oc_law_spoiled kV_law_spoiled dc_law_spoiled pm_law_spoiled cd_law_spoiled ct_law_spoiled : Value}
    {f_law_is_cell : Addr} {od_law_is_cell an_law_is_cell : Option Addr} {sl_law_is_cell : Array (Option Value)} {oc_law_is_cell kV_law_is_cell dc_law_is_cell pm_law_is_cell cd_law_is_cell ct_law_is_cell : Value}
    {f_law_due : Addr} {od_law_due an_law_due : Option Addr} {sl_law_due : Array (Option Value)} {oc_law_due kV_law_due dc_law_due pm_law_due cd_law_due ct_law_due : Value}
    {f_law_refused : Addr} {od_law_refused an_law_refused : Option Addr} {sl_law_refused : Array (Option Value)} {oc_law_refused kV_law_refused dc_law_refused pm_law_refused cd_law_refused ct_law_refused : Value}
    {f_law : Addr} {od_law an_law : Option Addr} {sl_law : Array (Option Value)} {oc_law kV_law dc_law pm_law cd_law ct_law : Value}
    {c_NoCut : Addr}
    {c_ColumnError : Addr}
    {c_NoPage : Addr}
    {t_MOST_SIGNS : Tok}
    (a_is_cell : PySem.W.nsIn K mainGlobals "is_cell" = some (some (.ref f_is_cell))) (l_is_cell : K.lookup f_is_cell = some ⟨oc_is_cell, od_is_cell, .func (PySem.W.fnOf "is_cell" "is_cell" (defArgs s_is_cell) (defBody s_is_cell) (defScope s_is_cell) .none kV_is_cell dc_is_cell pm_is_cell an_is_cell cd_is_cell ct_is_cell), sl_is_cell⟩) (c_is_cell : PySem.W.codeIn K cd_is_cell "is_cell" = true) (k_is_cell : PySem.W.keepIn K (.ref f_is_cell) = true)
    (a_law_cell_at : PySem.W.nsIn K mainGlobals "_law_cell_at" = some (some (.ref f_law_cell_at))) (l_law_cell_at : K.lookup f_law_cell_at = some ⟨oc_law_cell_at, od_law_cell_at, .func (PySem.W.fnOf "_law_cell_at" "_law_cell_at" (defArgs s_law_cell_at) (defBody s_law_cell_at) (defScope s_law_cell_at) .none kV_law_cell_at dc_law_cell_at pm_law_cell_at an_law_cell_at cd_law_cell_at ct_law_cell_at), sl_law_cell_at⟩) (c_law_cell_at : PySem.W.codeIn K cd_law_cell_at "_law_cell_at" = true) (k_law_cell_at : PySem.W.keepIn K (.ref f_law_cell_at) = true)
    (a_law_text : PySem.W.nsIn K mainGlobals "_law_text" = some (some (.ref f_law_text))) (l_law_text : K.lookup f_law_text = some ⟨oc_law_text, od_law_text, .func (PySem.W.fnOf "_law_text" "_law_text" (defArgs s_law_text) (defBody s_law_text) (defScope s_law_text) .none kV_law_text dc_law_text pm_law_text an_law_text cd_law_text ct_law_text), sl_law_text⟩) (c_law_text : PySem.W.codeIn K cd_law_text "_law_text" = true) (k_law_text : PySem.W.keepIn K (.ref f_law_text) = true)
    (a_law_texts : PySem.W.nsIn K mainGlobals "_law_texts" = some (some (.ref f_law_texts))) (l_law_texts : K.lookup f_law_texts = some ⟨oc_law_texts, od_law_texts, .func (PySem.W.fnOf "_law_texts" "_law_texts" (defArgs s_law_texts) (defBody s_law_texts) (defScope s_law_texts) .none kV_law_texts dc_law_texts pm_law_texts an_law_texts cd_law_texts ct_law_texts), sl_law_texts⟩) (c_law_texts : PySem.W.codeIn K cd_law_texts "_law_texts" = true) (k_law_texts : PySem.W.keepIn K (.ref f_law_texts) = true)
    (a_cell_of : PySem.W.nsIn K mainGlobals "cell_of" = some (some (.ref f_cell_of))) (l_cell_of : K.lookup f_cell_of = some ⟨oc_cell_of, od_cell_of, .func (PySem.W.fnOf "cell_of" "cell_of" (defArgs s_cell_of) (defBody s_cell_of) (defScope s_cell_of) .none kV_cell_of dc_cell_of pm_cell_of an_cell_of cd_cell_of ct_cell_of), sl_cell_of⟩) (c_cell_of : PySem.W.codeIn K cd_cell_of "cell_of" = true) (k_cell_of : PySem.W.keepIn K (.ref f_cell_of) = true)
    (a_cut : PySem.W.nsIn K mainGlobals "cut" = some (some (.ref f_cut))) (l_cut : K.lookup f_cut = some ⟨oc_cut, od_cut, .func (PySem.W.fnOf "cut" "cut" (defArgs s_cut) (defBody s_cut) (defScope s_cut) .none kV_cut dc_cut pm_cut an_cut cd_cut ct_cut), sl_cut⟩) (c_cut : PySem.W.codeIn K cd_cut "cut" = true) (k_cut : PySem.W.keepIn K (.ref f_cut) = true)
    (a_law_pieces : PySem.W.nsIn K mainGlobals "_law_pieces" = some (some (.ref f_law_pieces))) (l_law_pieces : K.lookup f_law_pieces = some ⟨oc_law_pieces, od_law_pieces, .func (PySem.W.fnOf "_law_pieces" "_law_pieces" (defArgs s_law_pieces) (defBody s_law_pieces) (defScope s_law_pieces) .none kV_law_pieces dc_law_pieces pm_law_pieces an_law_pieces cd_law_pieces ct_law_pieces), sl_law_pieces⟩) (c_law_pieces : PySem.W.codeIn K cd_law_pieces "_law_pieces" = true) (k_law_pieces : PySem.W.keepIn K (.ref f_law_pieces) = true)
    (a_law_spoiled : PySem.W.nsIn K mainGlobals "_law_spoiled" = some (some (.ref f_law_spoiled))) (l_law_spoiled : K.lookup f_law_spoiled = some ⟨oc_law_spoiled, od_law_spoiled, .func (PySem.W.fnOf "_law_spoiled" "_law_spoiled" (defArgs s_law_spoiled) (defBody s_law_spoiled) (defScope s_law_spoiled) .none kV_law_spoiled dc_law_spoiled pm_law_spoiled an_law_spoiled cd_law_spoiled ct_law_spoiled), sl_law_spoiled⟩) (c_law_spoiled : PySem.W.codeIn K cd_law_spoiled "_law_spoiled" = true) (k_law_spoiled : PySem.W.keepIn K (.ref f_law_spoiled) = true)
    (a_law_is_cell : PySem.W.nsIn K mainGlobals "_law_is_cell" = some (some (.ref f_law_is_cell))) (l_law_is_cell : K.lookup f_law_is_cell = some ⟨oc_law_is_cell, od_law_is_cell, .func (PySem.W.fnOf "_law_is_cell" "_law_is_cell" (defArgs s_law_is_cell) (defBody s_law_is_cell) (defScope s_law_is_cell) .none kV_law_is_cell dc_law_is_cell pm_law_is_cell an_law_is_cell cd_law_is_cell ct_law_is_cell), sl_law_is_cell⟩) (c_law_is_cell : PySem.W.codeIn K cd_law_is_cell "_law_is_cell" = true) (k_law_is_cell : PySem.W.keepIn K (.ref f_law_is_cell) = true)
    (a_law_due : PySem.W.nsIn K mainGlobals "_law_due" = some (some (.ref f_law_due))) (l_law_due : K.lookup f_law_due = some ⟨oc_law_due, od_law_due, .func (PySem.W.fnOf "_law_due" "_law_due" (defArgs s_law_due) (defBody s_law_due) (defScope s_law_due) .none kV_law_due dc_law_due pm_law_due an_law_due cd_law_due ct_law_due), sl_law_due⟩) (c_law_due : PySem.W.codeIn K cd_law_due "_law_due" = true) (k_law_due : PySem.W.keepIn K (.ref f_law_due) = true)
    (a_law_refused : PySem.W.nsIn K mainGlobals "_law_refused" = some (some (.ref f_law_refused))) (l_law_refused : K.lookup f_law_refused = some ⟨oc_law_refused, od_law_refused, .func (PySem.W.fnOf "_law_refused" "_law_refused" (defArgs s_law_refused) (defBody s_law_refused) (defScope s_law_refused) .none kV_law_refused dc_law_refused pm_law_refused an_law_refused cd_law_refused ct_law_refused), sl_law_refused⟩) (c_law_refused : PySem.W.codeIn K cd_law_refused "_law_refused" = true) (k_law_refused : PySem.W.keepIn K (.ref f_law_refused) = true)
    (a_law : PySem.W.nsIn K mainGlobals "law" = some (some (.ref f_law))) (l_law : K.lookup f_law = some ⟨oc_law, od_law, .func (PySem.W.fnOf "law" "law" (defArgs s_law) (defBody s_law) (defScope s_law) .none kV_law dc_law pm_law an_law cd_law ct_law), sl_law⟩) (c_law : PySem.W.codeIn K cd_law "law" = true) (k_law : PySem.W.keepIn K (.ref f_law) = true)
    (xg_NoCut : PySem.W.nsIn K mainGlobals "NoCut" = some (some (.ref c_NoCut))) (xq_NoCut : PySem.W.excIn K c_NoCut [.type "ValueError", .type "Exception", .type "BaseException", .type "object"] "ValueError.__new__" = true) (xk_NoCut : PySem.W.keepIn K (.ref c_NoCut) = true) (xs_NoCut : PySem.W.subIn K (.ref c_NoCut) (.type "BaseException") = some true) (xt_NoCut : PySem.W.typeIn K (.ref c_NoCut) = some (.type "type"))
    (xn : PySem.W.specialIn K (.builtin "object.__class__") "__get__" = some (some (.builtin "getset_descriptor.__get__"))) (xt : PySem.W.takesIn K (.builtin "object.__class__") = some true)
    (xg_ColumnError : PySem.W.nsIn K mainGlobals "ColumnError" = some (some (.ref c_ColumnError)))
    (xg_NoPage : PySem.W.nsIn K mainGlobals "NoPage" = some (some (.ref c_NoPage)))
    (xx_hg_ColumnError : PySem.W.findIn K (.ref c_ColumnError) "__getattribute__" = some (some (.builtin "BaseException.__getattribute__")))
    (xx_hk_ColumnError : PySem.W.findIn K (.ref c_ColumnError) "__getattr__" = some none)
    (xx_hs_ColumnError : PySem.W.subIn K (.ref c_ColumnError) (.type "BaseException") = some true)
    (xx_hd_ColumnError : PySem.W.hasDictIn K c_ColumnError = true)
    (xx_ha_ColumnError : PySem.W.findIn K (.ref c_ColumnError) "__class__" = some (some (.builtin "object.__class__")))
    (xx_hm_ColumnError : PySem.W.mroIn K c_ColumnError (.type "object") = some true)
    (xx_ic_ColumnError : PySem.W.isClsIn K c_ColumnError = true)
    (xx_ty_ColumnError : PySem.W.typeIn K (.ref c_ColumnError) = some (.type "type"))
    (xx_v_ColumnError : PySem.W.subIn K (.ref c_ColumnError) (.type "ValueError") = some true)
    (xu_ColumnError_ColumnError : PySem.W.subIn K (.ref c_ColumnError) (.ref c_ColumnError) = some true)
    (xu_ColumnError_NoPage : PySem.W.subIn K (.ref c_ColumnError) (.ref c_NoPage) = some false)
    (xu_ColumnError_NoCut : PySem.W.subIn K (.ref c_ColumnError) (.ref c_NoCut) = some false)
    (xx_hg_NoPage : PySem.W.findIn K (.ref c_NoPage) "__getattribute__" = some (some (.builtin "BaseException.__getattribute__")))
    (xx_hk_NoPage : PySem.W.findIn K (.ref c_NoPage) "__getattr__" = some none)
    (xx_hs_NoPage : PySem.W.subIn K (.ref c_NoPage) (.type "BaseException") = some true)
    (xx_hd_NoPage : PySem.W.hasDictIn K c_NoPage = true)
    (xx_ha_NoPage : PySem.W.findIn K (.ref c_NoPage) "__class__" = some (some (.builtin "object.__class__")))
    (xx_hm_NoPage : PySem.W.mroIn K c_NoPage (.type "object") = some true)
    (xx_ic_NoPage : PySem.W.isClsIn K c_NoPage = true)
    (xx_ty_NoPage : PySem.W.typeIn K (.ref c_NoPage) = some (.type "type"))
    (xx_v_NoPage : PySem.W.subIn K (.ref c_NoPage) (.type "ValueError") = some true)
    (xu_NoPage_ColumnError : PySem.W.subIn K (.ref c_NoPage) (.ref c_ColumnError) = some true)
    (xu_NoPage_NoPage : PySem.W.subIn K (.ref c_NoPage) (.ref c_NoPage) = some true)
    (xu_NoPage_NoCut : PySem.W.subIn K (.ref c_NoPage) (.ref c_NoCut) = some false)
    (xx_hg_NoCut : PySem.W.findIn K (.ref c_NoCut) "__getattribute__" = some (some (.builtin "BaseException.__getattribute__")))
    (xx_hk_NoCut : PySem.W.findIn K (.ref c_NoCut) "__getattr__" = some none)
    (xx_hs_NoCut : PySem.W.subIn K (.ref c_NoCut) (.type "BaseException") = some true)
    (xx_hd_NoCut : PySem.W.hasDictIn K c_NoCut = true)
    (xx_ha_NoCut : PySem.W.findIn K (.ref c_NoCut) "__class__" = some (some (.builtin "object.__class__")))
    (xx_hm_NoCut : PySem.W.mroIn K c_NoCut (.type "object") = some true)
    (xx_ic_NoCut : PySem.W.isClsIn K c_NoCut = true)
    (xx_ty_NoCut : PySem.W.typeIn K (.ref c_NoCut) = some (.type "type"))
    (xx_v_NoCut : PySem.W.subIn K (.ref c_NoCut) (.type "ValueError") = some true)
    (xu_NoCut_ColumnError : PySem.W.subIn K (.ref c_NoCut) (.ref c_ColumnError) = some true)
    (xu_NoCut_NoPage : PySem.W.subIn K (.ref c_NoCut) (.ref c_NoPage) = some false)
    (xu_NoCut_NoCut : PySem.W.subIn K (.ref c_NoCut) (.ref c_NoCut) = some true)
    (z_len : PySem.W.nsIn K mainGlobals "len" = some none)
    (z_all : PySem.W.nsIn K mainGlobals "all" = some none)
    (z_range : PySem.W.nsIn K mainGlobals "range" = some none)
    (z_zip : PySem.W.nsIn K mainGlobals "zip" = some none)
    (z_max : PySem.W.nsIn K mainGlobals "max" = some none)
    (z_sum : PySem.W.nsIn K mainGlobals "sum" = some none)
    (z_isinstance : PySem.W.nsIn K mainGlobals "isinstance" = some none)
    (z_list : PySem.W.nsIn K mainGlobals "list" = some none)
    (z_int : PySem.W.nsIn K mainGlobals "int" = some none)
    (z_str : PySem.W.nsIn K mainGlobals "str" = some none)
    (z_tuple : PySem.W.nsIn K mainGlobals "tuple" = some none)
    (z_bool : PySem.W.nsIn K mainGlobals "bool" = some none)
    (z_ValueError : PySem.W.nsIn K mainGlobals "ValueError" = some none)
    (n_MOST_SIGNS : PySem.W.nsIn K mainGlobals "MOST_SIGNS" = some (some (.int 8 t_MOST_SIGNS))) :
    ∃ fd : FuncData, (∀ (s : Shared) (u : Value), BindsTo s fd ⟨[u], []⟩ [("script", u)]) ∧ ∀ base : Heap, K.In base → base.Ns mainGlobals mg → FnOk P w K mg base CX0 5 fa fd ["script"] (sp_law K) := by
  have D_is_cell : Std K mg "is_cell" s_is_cell ["text"] := std_mk X G a_is_cell l_is_cell c_is_cell k_is_cell fun us hl => match us, hl with | [_], _ => rfl
  have D_law_cell_at : Std K mg "_law_cell_at" s_law_cell_at ["script", "k"] := std_mk X G a_law_cell_at l_law_cell_at c_law_cell_at k_law_cell_at fun us hl => match us, hl with | [_, _], _ => rfl
  have D_law_text : Std K mg "_law_text" s_law_text ["seed"] := std_mk X G a_law_text l_law_text c_law_text k_law_text fun us hl => match us, hl with | [_], _ => rfl
  have D_law_texts : Std K mg "_law_texts" s_law_texts ["found", "due"] := std_mk X G a_law_texts l_law_texts c_law_texts k_law_texts fun us hl => match us, hl with | [_, _], _ => rfl
  have D_cell_of : Std K mg "cell_of" s_cell_of ["piece"] := std_mk X G a_cell_of l_cell_of c_cell_of k_cell_of fun us hl => match us, hl with | [_], _ => rfl
  have D_cut : Std K mg "cut" s_cut ["text", "widths"] := std_mk X G a_cut l_cut c_cut k_cut fun us hl => match us, hl with | [_, _], _ => rfl
  have D_law_pieces : Std K mg "_law_pieces" s_law_pieces ["script"] := std_mk X G a_law_pieces l_law_pieces c_law_pieces k_law_pieces fun us hl => match us, hl with | [_], _ => rfl
  have D_law_spoiled : Std K mg "_law_spoiled" s_law_spoiled ["script", "text"] := std_mk X G a_law_spoiled l_law_spoiled c_law_spoiled k_law_spoiled fun us hl => match us, hl with | [_, _], _ => rfl
  have D_law_is_cell : Std K mg "_law_is_cell" s_law_is_cell ["text"] := std_mk X G a_law_is_cell l_law_is_cell c_law_is_cell k_law_is_cell fun us hl => match us, hl with | [_], _ => rfl
  have D_law_due : Std K mg "_law_due" s_law_due ["text", "own"] := std_mk X G a_law_due l_law_due c_law_due k_law_due fun us hl => match us, hl with | [_, _], _ => rfl
  have D_law_refused : Std K mg "_law_refused" s_law_refused ["text", "own"] := std_mk X G a_law_refused l_law_refused c_law_refused k_law_refused fun us hl => match us, hl with | [_, _], _ => rfl
  have D_law : Std K mg "law" s_law ["script"] := std_mk X G a_law l_law c_law k_law fun us hl => match us, hl with | [_], _ => rfl
  have x_NoCut : Xc K mg "NoCut" c_NoCut := ⟨PySem.W.mg_of X G xg_NoCut, xq_NoCut, xk_NoCut, xs_NoCut, xt_NoCut⟩
  have XX : XXs K mg c_ColumnError c_NoPage c_NoCut := ⟨⟨PySem.W.mg_of X G xg_ColumnError, ⟨xx_hg_ColumnError, xx_hk_ColumnError, xx_hs_ColumnError, xx_hd_ColumnError, xx_ha_ColumnError, xn, xt, xx_hm_ColumnError⟩, xx_ic_ColumnError, xx_ty_ColumnError, xx_v_ColumnError, xu_ColumnError_ColumnError⟩, ⟨PySem.W.mg_of X G xg_NoPage, ⟨xx_hg_NoPage, xx_hk_NoPage, xx_hs_NoPage, xx_hd_NoPage, xx_ha_NoPage, xn, xt, xx_hm_NoPage⟩, xx_ic_NoPage, xx_ty_NoPage, xx_v_NoPage, xu_NoPage_NoPage⟩, ⟨PySem.W.mg_of X G xg_NoCut, ⟨xx_hg_NoCut, xx_hk_NoCut, xx_hs_NoCut, xx_hd_NoCut, xx_ha_NoCut, xn, xt, xx_hm_NoCut⟩, xx_ic_NoCut, xx_ty_NoCut, xx_v_NoCut, xu_NoCut_NoCut⟩, xu_ColumnError_NoPage, xu_ColumnError_NoCut, xu_NoPage_ColumnError, xu_NoPage_NoCut, xu_NoCut_ColumnError, xu_NoCut_NoPage⟩
  have T : Bl mg := ⟨PySem.W.mg_none_of X G z_len, PySem.W.mg_none_of X G z_all, PySem.W.mg_none_of X G z_range, PySem.W.mg_none_of X G z_zip, PySem.W.mg_none_of X G z_max, PySem.W.mg_none_of X G z_sum, PySem.W.mg_none_of X G z_isinstance, PySem.W.mg_none_of X G z_list, PySem.W.mg_none_of X G z_int, PySem.W.mg_none_of X G z_str, PySem.W.mg_none_of X G z_tuple, PySem.W.mg_none_of X G z_bool, PySem.W.mg_none_of X G z_ValueError⟩
  have C : Cn mg := ⟨⟨_, PySem.W.mg_of X G n_MOST_SIGNS⟩⟩
  refine law_end D_law hfa fun base _ _ => ?_
  have h_is_cell := ok_is_cell (P := P) (w := w) (base := base) (D := D_is_cell) (T := T) (C := C)
  have h_law_cell_at := ok_law_cell_at (P := P) (w := w) (base := base) (D := D_law_cell_at) (T := T)
  have h_law_text := ok_law_text (P := P) (w := w) (base := base) (D := D_law_text) (T := T)
  have h_law_texts := ok_law_texts (P := P) (w := w) (base := base) (D := D_law_texts) (T := T)
  have h_cell_of := ok_cell_of (P := P) (w := w) (base := base) (D := D_cell_of) (T := T) (x_NoCut := x_NoCut) (h_is_cell := h_is_cell)
  have h_cut := ok_cut (P := P) (w := w) (base := base) (D := D_cut) (T := T) (x_NoCut := x_NoCut) (h_is_cell := h_is_cell) (h_cell_of := h_cell_of)
  have h_law_pieces := ok_law_pieces (P := P) (w := w) (base := base) (D := D_law_pieces) (T := T) (h_law_cell_at := h_law_cell_at) (h_law_text := h_law_text)
  have h_law_spoiled := ok_law_spoiled (P := P) (w := w) (base := base) (D := D_law_spoiled) (T := T) (h_law_cell_at := h_law_cell_at)
  have h_law_is_cell := ok_law_is_cell (P := P) (w := w) (base := base) (D := D_law_is_cell) (T := T)
  have h_law_due := ok_law_due (P := P) (w := w) (base := base) (D := D_law_due) (T := T) (h_law_is_cell := h_law_is_cell)
  have h_law_refused := ok_law_refused (P := P) (w := w) (base := base) (D := D_law_refused) (T := T) (XX := XX) (h_cut := h_cut)
  exact ok_law (D := D_law) (T := T) (XX := XX) (h_law_pieces := h_law_pieces) (h_law_spoiled := h_law_spoiled) (h_law_due := h_law_due) (h_law_refused := h_law_refused) (h_cut := h_cut) (h_law_texts := h_law_texts)
end Ec
open PySem PySem.W PyProof.Rows in
set_option maxRecDepth 100000 in
set_option maxHeartbeats 0 in
theorem PySem.Challenge.cw_evencolumns_k09_not_cut_holds : PySem.Challenge.rw_evencolumns_k09_not_cut.Holds := by
  w_on; o_law; k_head; (case hw => w_witness2)
  k_fill
  refine L2.walk_ofK (l := PySem.Challenge.rw_evencolumns_k09_not_cut) (n := 63) (k := 5) (x := "script") (CX := L2.CX0) (sp := Ec.sp_law) rfl (by decide) rfl ⟨rfl, by decide, by decide⟩ (fun w h Y => PySem.W.kIn_of Y) ?F (fun K H a ns hl _ hS => ⟨a, ns, rfl, hS, fun _ => rfl⟩) fun _ _ _ _ z => z
  case F =>
    intro w mg fa h KX G hmg
    refine' Ec.fin KX G hmg ?a_is_cell ?l_is_cell ?c_is_cell ?k_is_cell ?a_law_cell_at ?l_law_cell_at ?c_law_cell_at ?k_law_cell_at ?a_law_text ?l_law_text ?c_law_text ?k_law_text ?a_law_texts ?l_law_texts ?c_law_texts ?k_law_texts ?a_cell_of ?l_cell_of ?c_cell_of ?k_cell_of ?a_cut ?l_cut ?c_cut ?k_cut ?a_law_pieces ?l_law_pieces ?c_law_pieces ?k_law_pieces ?a_law_spoiled ?l_law_spoiled ?c_law_spoiled ?k_law_spoiled ?a_law_is_cell ?l_law_is_cell ?c_law_is_cell ?k_law_is_cell ?a_law_due ?l_law_due ?c_law_due ?k_law_due ?a_law_refused ?l_law_refused ?c_law_refused ?k_law_refused ?a_law ?l_law ?c_law ?k_law ?xg_NoCut ?xq_NoCut ?xk_NoCut ?xs_NoCut ?xt_NoCut ?xn ?xt ?xg_ColumnError ?xg_NoPage ?xx_hg_ColumnError ?xx_hk_ColumnError ?xx_hs_ColumnError ?xx_hd_ColumnError ?xx_ha_ColumnError ?xx_hm_ColumnError ?xx_ic_ColumnError ?xx_ty_ColumnError ?xx_v_ColumnError ?xu_ColumnError_ColumnError ?xu_ColumnError_NoPage ?xu_ColumnError_NoCut ?xx_hg_NoPage ?xx_hk_NoPage ?xx_hs_NoPage ?xx_hd_NoPage ?xx_ha_NoPage ?xx_hm_NoPage ?xx_ic_NoPage ?xx_ty_NoPage ?xx_v_NoPage ?xu_NoPage_ColumnError ?xu_NoPage_NoPage ?xu_NoPage_NoCut ?xx_hg_NoCut ?xx_hk_NoCut ?xx_hs_NoCut ?xx_hd_NoCut ?xx_ha_NoCut ?xx_hm_NoCut ?xx_ic_NoCut ?xx_ty_NoCut ?xx_v_NoCut ?xu_NoCut_ColumnError ?xu_NoCut_NoPage ?xu_NoCut_NoCut ?z_len ?z_all ?z_range ?z_zip ?z_max ?z_sum ?z_isinstance ?z_list ?z_int ?z_str ?z_tuple ?z_bool ?z_ValueError ?n_MOST_SIGNS
    (case a_is_cell => k_is)
    (case l_is_cell => k_is)
    (case c_is_cell => k_is)
    (case k_is_cell => k_is)
    (case a_law_cell_at => k_is)
    (case l_law_cell_at => k_is)
    (case c_law_cell_at => k_is)
    (case k_law_cell_at => k_is)
    (case a_law_text => k_is)
    (case l_law_text => k_is)
    (case c_law_text => k_is)
    (case k_law_text => k_is)
    (case a_law_texts => k_is)
    (case l_law_texts => k_is)
    (case c_law_texts => k_is)
    (case k_law_texts => k_is)
    (case a_cell_of => k_is)
    (case l_cell_of => k_is)
    (case c_cell_of => k_is)
    (case k_cell_of => k_is)
    (case a_cut => k_is)
    (case l_cut => k_is)
    (case c_cut => k_is)
    (case k_cut => k_is)
    (case a_law_pieces => k_is)
    (case l_law_pieces => k_is)
    (case c_law_pieces => k_is)
    (case k_law_pieces => k_is)
    (case a_law_spoiled => k_is)
    (case l_law_spoiled => k_is)
    (case c_law_spoiled => k_is)
    (case k_law_spoiled => k_is)
    (case a_law_is_cell => k_is)
    (case l_law_is_cell => k_is)
    (case c_law_is_cell => k_is)
    (case k_law_is_cell => k_is)
    (case a_law_due => k_is)
    (case l_law_due => k_is)
    (case c_law_due => k_is)
    (case k_law_due => k_is)
    (case a_law_refused => k_is)
    (case l_law_refused => k_is)
    (case c_law_refused => k_is)
    (case k_law_refused => k_is)
    (case a_law => k_is)
    (case l_law => k_is)
    (case c_law => k_is)
    (case k_law => k_is)
    (case xg_NoCut => k_is)
    (case xq_NoCut => k_exc)
    (case xk_NoCut => k_is)
    (case xs_NoCut => k_is)
    (case xt_NoCut => k_is)
    (case xn => k_is)
    (case xt => k_is)
    (case xg_ColumnError => k_is)
    (case xg_NoPage => k_is)
    (case xx_hg_ColumnError => k_is)
    (case xx_hk_ColumnError => k_is)
    (case xx_hs_ColumnError => k_is)
    (case xx_hd_ColumnError => k_is)
    (case xx_ha_ColumnError => k_is)
    (case xx_hm_ColumnError => k_is)
    (case xx_ic_ColumnError => k_is)
    (case xx_ty_ColumnError => k_is)
    (case xx_v_ColumnError => k_is)
    (case xu_ColumnError_ColumnError => k_is)
    (case xu_ColumnError_NoPage => k_is)
    (case xu_ColumnError_NoCut => k_is)
    (case xx_hg_NoPage => k_is)
    (case xx_hk_NoPage => k_is)
    (case xx_hs_NoPage => k_is)
    (case xx_hd_NoPage => k_is)
    (case xx_ha_NoPage => k_is)
    (case xx_hm_NoPage => k_is)
    (case xx_ic_NoPage => k_is)
    (case xx_ty_NoPage => k_is)
    (case xx_v_NoPage => k_is)
    (case xu_NoPage_ColumnError => k_is)
    (case xu_NoPage_NoPage => k_is)
    (case xu_NoPage_NoCut => k_is)
    (case xx_hg_NoCut => k_is)
    (case xx_hk_NoCut => k_is)
    (case xx_hs_NoCut => k_is)
    (case xx_hd_NoCut => k_is)
    (case xx_ha_NoCut => k_is)
    (case xx_hm_NoCut => k_is)
    (case xx_ic_NoCut => k_is)
    (case xx_ty_NoCut => k_is)
    (case xx_v_NoCut => k_is)
    (case xu_NoCut_ColumnError => k_is)
    (case xu_NoCut_NoPage => k_is)
    (case xu_NoCut_NoCut => k_is)
    (case z_len => k_is)
    (case z_all => k_is)
    (case z_range => k_is)
    (case z_zip => k_is)
    (case z_max => k_is)
    (case z_sum => k_is)
    (case z_isinstance => k_is)
    (case z_list => k_is)
    (case z_int => k_is)
    (case z_str => k_is)
    (case z_tuple => k_is)
    (case z_bool => k_is)
    (case z_ValueError => k_is)
    (case n_MOST_SIGNS => k_is)
#print axioms PySem.Challenge.cw_evencolumns_k09_not_cut_holds

