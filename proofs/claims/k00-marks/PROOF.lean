import PyProof.Rows.All
import Wide.All
import OpenK.AllK
import Wide.FinOn
import HandS.ForMost
import HandS.IsInst
import HandS.Zip
import HandS.Style
import HandS.Star
import HandS.StrMore
import HandS.Codes
import HandS.Lambda
import HandS.EndTab
import HandS.Evl
import HandS.Conv
import HandS.Flow
import HandS.TupAny
import HandS.Wide
import HandS.Walk
import KE.GoesEnum
import KE.KNest
import PyProof.Rows.StrCountLaw
import PyProof.StrLawsLast
import KE.GoesMore
import KE.GoesZip
import PySem.Challenge.RW_kindcopies_k00_marks_of_all_sorts_in_all
set_option Elab.async false
set_option linter.all false
set_option maxRecDepth 100000
set_option maxHeartbeats 4000000
namespace Kc
open PySem PySem.Spec PyProof.Rows L2

structure Dfn (K : PySem.W.Frag) (mg : Str → Option Value) (x : Str) (st : Stmt) (ps : List Str) : Prop where
  ex : ∃ (f : Addr) (fd : FuncData), L2.Fun K x x st f fd ∧ mg x = some (.ref f) ∧ Binds K fd ps []
structure Cal (P : Program) (w : World) (K : PySem.W.Frag) (mg : Str → Option Value) (base : Heap) (k : Nat) (x : Str) (sp : Sp) : Prop where
  ex : ∃ (f : Addr) (fd : FuncData) (ps : List Str), FnOk P w K mg base CX0 k f fd ps sp ∧ mg x = some (.ref f) ∧ PySem.W.keepIn K (.ref f) = true ∧ Binds K fd ps []
section
variable {P : Program} {w : World} {K : PySem.W.Frag} {mg : Str → Option Value} {base : Heap}
theorem Dfn.cal {x : Str} {st : Stmt} {ps N : List Str} {k : Nat} {sp : Sp} (D : Dfn K mg x st ps) (S : FnScope N ps (defScope st)) (len : ∀ vs H Q E, sp vs H Q E → vs.length = ps.length)
    (hbody : ∀ (f : Addr) (cdv : Value) (A : Around) (outer : List Env) (s : Shared) (H : Hp) (vs : List V) (Q : VK) (E : XK), Room k (A.deeper (envOfC x (defScope st) s.heap.objs.size f cdv)) → sp vs H Q E →
      ∃ t, PSs (cxOf CX0 P w K mg base N x (defScope st) f cdv A outer s H E).nox (defBody st) t ∧ t { nx := fun _ H' => Q .non H', rt := Q } (start N vs) H) : Cal P w K mg base (k + 1) x sp := by
  obtain ⟨f, fd, F, hm, b⟩ := D.ex
  exact ⟨f, fd, ps, F.ok S len fun cdv A outer s H vs Q E hr h => hbody f cdv A outer s H vs Q E hr h, hm, F.kp, b⟩
theorem Cal.mono {x : Str} {j k : Nat} {sp : Sp} (c : Cal P w K mg base j x sp) (h : j ≤ k) : Cal P w K mg base k x sp := by
  obtain ⟨f, fd, ps, F, hm, kp, b⟩ := c.ex
  exact ⟨f, fd, ps, F.mono h, hm, kp, b⟩
theorem Cal.imp {x : Str} {k : Nat} {sp sp' : Sp} (c : Cal P w K mg base k x sp) (h : ∀ vs H Q E, sp' vs H Q E → sp vs H Q E) : Cal P w K mg base k x sp' := by
  obtain ⟨f, fd, ps, F, hm, kp, b⟩ := c.ex
  exact ⟨f, fd, ps, F.imp h, hm, kp, b⟩
theorem Dfn.none {x : Str} {st : Stmt} {ps : List Str} {k : Nat} {sp : Sp} (D : Dfn K mg x st ps) (no : ∀ vs H Q E, ¬ sp vs H Q E) : Cal P w K mg base k x sp := by
  obtain ⟨f, fd, F, hm, b⟩ := D.ex
  exact ⟨f, fd, ps, ⟨fun vs H Q E h => absurd h (no vs H Q E), fun A outer s H args us vs Q E _ _ _ _ h => absurd h (no vs H Q E)⟩, hm, F.kp, b⟩
end
def tCal (sp : Sp) (t : TA) : TE := fun σ H Q => t σ H fun vs H1 => sp vs H1 Q E0
section
variable {X : Cx} {k j : Nat} {x : Str} {sp : Sp} {p pos : Pos} {e : Expr} {es : List Expr} {t : TA}
theorem pe_c (c : Cal X.prog X.w X.K X.mg X.base k x sp) (hr : Room j X.A) (hk : k ≤ j) (hg : Gl X x) (ha : PA X (e :: es) t)
    (hdb : (x == ("__debug__" : Str)) = false := by decide) (he : starEach (e :: es) X.env = (false, eval e X.env) :: starEach es X.env := by rfl) (hpl : (backTo pos (starEach es X.env)).any (·.1) = false := by rfl) :
    PE X (.Call (.Name x p) (e :: es) [] pos) (tCal sp t) := by
  obtain ⟨f, fd, ps, F, hm, kp, b⟩ := c.ex
  have h := pe_call (pos := pos) (p := p) F (hr.mono hk) hg hm kp b .nil pass0 ha hdb he hpl
  refine ⟨fun pins s σ H Q I hq => h.run pins s σ H Q I ?_⟩
  have hq : t σ H fun vs H1 => sp vs H1 Q E0 := hq
  show t σ H fun vs H1 => sp (vs ++ []) H1 Q E0
  simpa only [List.append_nil] using hq
theorem pe_c0 (c : Cal X.prog X.w X.K X.mg X.base k x sp) (hr : Room j X.A) (hk : k ≤ j) (hg : Gl X x)
    (hdb : (x == ("__debug__" : Str)) = false := by decide) :
    PE X (.Call (.Name x p) [] [] pos) (tCal sp tNil) := by
  obtain ⟨f, fd, ps, F, hm, kp, b⟩ := c.ex
  have h := pe_call0 (pos := pos) (p := p) F (hr.mono hk) hg hm kp b .nil pass0 hdb
  exact ⟨fun pins s σ H Q I hq => h.run pins s σ H Q I hq⟩
theorem PI.or {tg it : Expr} {w1 w2 : TI} (h1 : PI X tg it w1) (h2 : PI X tg it w2) : PI X tg it (fun σ H R => w1 σ H R ∨ w2 σ H R) := by
  refine ⟨fun pins s σ H R I h => ?_⟩
  rcases h with h | h
  · exact h1.run pins s σ H R I h
  · exact h2.run pins s σ H R I h
def iSeq (K : PySem.W.Frag) (te : TE) : TI := fun σ H R => iList K te σ H R ∨ iTup K te σ H R
theorem pi_seq {tg l : Expr} {tl : TE} (hl : PE X l tl) : PI X tg l (iSeq X.K tl) := PI.or (pi_list hl) (pi_tup hl)
end

abbrev Ex := Evl.Ex
mutual
theorem dp_ex {K : PySem.W.Frag} {H H' : Hp} (e : Ex H H') : ∀ (d : PyData) (v : V), Dp K H v d → Dp K H' v d
  | .none, _, h => by cases h; exact .non
  | .bool b, _, h => by cases h; exact .bl b
  | .int i, _, h => by cases h; exact .int i
  | .str x, _, h => by cases h; exact .str x
  | .list ds, _, h => by
    cases h with
    | lst hs ha => exact .lst (Evl.ex_l e hs) (dpAll_ex e ds _ ha)
  | .tuple ds, _, h => by
    cases h with
    | tup hs ha => exact .tup (Evl.ex_t e hs) (dpAll_ex e ds _ ha)
theorem dpAll_ex {K : PySem.W.Frag} {H H' : Hp} (e : Ex H H') : ∀ (ds : List PyData) (vs : List V), DpAll K H vs ds → DpAll K H' vs ds
  | [], _, h => by cases h; exact .nil
  | d :: ds, _, h => by
    cases h with
    | cons hv ht => exact .cons (dp_ex e d _ hv) (dpAll_ex e ds _ ht)
end
theorem dpl_len {K : PySem.W.Frag} {H : Hp} : ∀ {ds : List PyData} {vs : List V}, DpAll K H vs ds → vs.length = ds.length
  | [], _, h => by cases h; rfl
  | d :: ds, _, h => by
    cases h with
    | cons hv ht => exact congrArg (· + 1) (dpl_len ht)
theorem dpl_get {K : PySem.W.Frag} {H : Hp} : ∀ {ds : List PyData} {vs : List V} {i : Nat} {v : V}, DpAll K H vs ds → vs[i]? = some v → ∃ d, ds[i]? = some d ∧ Dp K H v d
  | [], _, _, _, h, q => by cases h; simp at q
  | d :: ds, _, 0, v, h, q => by
    cases h with
    | cons hv ht =>
      simp at q
      subst q
      exact ⟨d, rfl, hv⟩
  | d :: ds, _, i + 1, v, h, q => by
    cases h with
    | cons hv ht =>
      simp at q
      obtain ⟨d', h1, h2⟩ := dpl_get ht q
      exact ⟨d', by simpa using h1, h2⟩
theorem dpl_app {K : PySem.W.Frag} {H : Hp} : ∀ {ds es : List PyData} {vs us : List V}, DpAll K H vs ds → DpAll K H us es → DpAll K H (vs ++ us) (ds ++ es)
  | [], _, _, _, h, h' => by cases h; exact h'
  | d :: ds, es, _, us, h, h' => by
    cases h with
    | cons hv ht => exact .cons hv (dpl_app ht h')
end Kc

namespace Kc
open PySem PySem.Spec PyProof.Rows L2
theorem bt_len : bootBuiltins "len" = some (.builtin "len") := by decide +kernel
theorem bt_abs : bootBuiltins "abs" = some (.builtin "abs") := by decide +kernel
theorem bt_all : bootBuiltins "all" = some (.builtin "all") := by decide +kernel
theorem bt_any : bootBuiltins "any" = some (.builtin "any") := by decide +kernel
theorem bt_ord : bootBuiltins "ord" = some (.builtin "ord") := by decide +kernel
theorem bt_sorted : bootBuiltins "sorted" = some (.builtin "sorted") := by decide +kernel
theorem bt_isinstance : bootBuiltins "isinstance" = some (.builtin "isinstance") := by decide +kernel
theorem bt_int : bootBuiltins "int" = some (.type "int") := by decide +kernel
theorem bt_str : bootBuiltins "str" = some (.type "str") := by decide +kernel
theorem bt_bool : bootBuiltins "bool" = some (.type "bool") := by decide +kernel
theorem bt_list : bootBuiltins "list" = some (.type "list") := by decide +kernel
theorem bt_tuple : bootBuiltins "tuple" = some (.type "tuple") := by decide +kernel
theorem bt_dict : bootBuiltins "dict" = some (.type "dict") := by decide +kernel
theorem bt_set : bootBuiltins "set" = some (.type "set") := by decide +kernel
theorem bt_type : bootBuiltins "type" = some (.type "type") := by decide +kernel
structure Bi (mg : Str → Option Value) : Prop where
  all_ : ∀ x ∈ (["len", "abs", "all", "any", "ord", "sorted", "isinstance", "int", "str", "bool", "list", "tuple", "dict", "set", "type", "range", "zip", "enumerate", "reversed", "sum", "max", "min"] : List Str), mg x = none
namespace Bi
variable {mg : Str → Option Value} (b : Bi mg)
include b
theorem len : mg "len" = none := b.all_ _ (by decide +kernel)
theorem abs : mg "abs" = none := b.all_ _ (by decide +kernel)
theorem all : mg "all" = none := b.all_ _ (by decide +kernel)
theorem any : mg "any" = none := b.all_ _ (by decide +kernel)
theorem ord : mg "ord" = none := b.all_ _ (by decide +kernel)
theorem sorted : mg "sorted" = none := b.all_ _ (by decide +kernel)
theorem isinstance : mg "isinstance" = none := b.all_ _ (by decide +kernel)
theorem int : mg "int" = none := b.all_ _ (by decide +kernel)
theorem str : mg "str" = none := b.all_ _ (by decide +kernel)
theorem bool : mg "bool" = none := b.all_ _ (by decide +kernel)
theorem list : mg "list" = none := b.all_ _ (by decide +kernel)
theorem tuple : mg "tuple" = none := b.all_ _ (by decide +kernel)
theorem dict : mg "dict" = none := b.all_ _ (by decide +kernel)
theorem set : mg "set" = none := b.all_ _ (by decide +kernel)
theorem type : mg "type" = none := b.all_ _ (by decide +kernel)
theorem range : mg "range" = none := b.all_ _ (by decide +kernel)
theorem zip : mg "zip" = none := b.all_ _ (by decide +kernel)
theorem enumerate : mg "enumerate" = none := b.all_ _ (by decide +kernel)
theorem reversed : mg "reversed" = none := b.all_ _ (by decide +kernel)
theorem sum : mg "sum" = none := b.all_ _ (by decide +kernel)
theorem max : mg "max" = none := b.all_ _ (by decide +kernel)
theorem min : mg "min" = none := b.all_ _ (by decide +kernel)
end Bi

def rAddX (K : PySem.W.Frag) : R2 := fun x y H Q => (rI0 (fun i j => .int (i + j)) x y H Q ∨ ∃ i j, x = .str i ∧ y = .str j ∧ i.length + j.length ≤ sizeLine ∧ Q (.str (i ++ j)) H) ∨ rCat x y H Q ∨ rCatA K x y H Q
def rMulX : R2 := fun x y H Q => rI CMul (fun i j => .int (i * j)) x y H Q ∨ rRep x y H Q
def rEqX (K : PySem.W.Frag) : R2 := fun x y H Q => rEq x y H Q ∨ rEqD K x y H Q
def rNeX (K : PySem.W.Frag) : R2 := fun x y H Q => rNe x y H Q ∨ rNeD K x y H Q
def rInX (K : PySem.W.Frag) : R2 := fun x y H Q => (∃ i j, x = .str i ∧ y = .str j ∧ Q (.bl (!(Builtin.Str.occurrences j i 0 j.length 1).isEmpty)) H) ∨ rIn K false x y H Q
def rNotInX (K : PySem.W.Frag) : R2 := fun x y H Q => (∃ i j, x = .str i ∧ y = .str j ∧ Q (.bl (!(!(Builtin.Str.occurrences j i 0 j.length 1).isEmpty))) H) ∨ rIn K true x y H Q
def rIsX : R2 := fun x y H Q => (y = .non ∧ Q (.bl (decide (x = .non))) H) ∨ ∃ m n, x = .ty m ∧ y = .ty n ∧ Q (.bl (decide (m = n))) H
def rIsNotX : R2 := fun x y H Q => (y = .non ∧ Q (.bl (!decide (x = .non))) H) ∨ ∃ m n, x = .ty m ∧ y = .ty n ∧ Q (.bl (!decide (m = n))) H
def rSlX (K : PySem.W.Frag) : V → Option Int → Option Int → Hp → VK → Prop := fun x lo hi H Q => rSlL K x lo hi H Q ∨ C8.rSlX x lo hi H Q
section
variable {X : Cx}
theorem op_addX : OpR X (binaryOp .Add) (rAddX X.K) := OpR.or (OpR.or op_add op_add_str) (OpR.or op_cat op_catA)
theorem op_mulX : OpR X (binaryOp .Mult) rMulX := OpR.or op_mul op_rep
theorem op_eqX (hu : X.A.units + 64 < cLine) : OpR X (compareOp .Eq) (rEqX X.K) := OpR.or op_eq (op_eqD hu)
theorem op_neX (hu : X.A.units + 64 < cLine) : OpR X (compareOp .NotEq) (rNeX X.K) := OpR.or op_ne (op_neD hu)
theorem op_inX : OpR X (compareOp .In) (rInX X.K) := OpR.or op_in_str op_in_seq
theorem op_notInX : OpR X (compareOp .NotIn) (rNotInX X.K) := OpR.or op_notin_str op_notIn_seq
theorem op_isX : OpR X (compareOp .Is) rIsX := OpR.or op_isN op_isTy
theorem op_isNotX : OpR X (compareOp .IsNot) rIsNotX := OpR.or op_notN op_isNotTy
theorem sl_X : SlR X (rSlX X.K) := SlR.or sl_list C8.sl_txt
def rIntX : List V → Hp → VK → Prop := fun xs H Q => ((∃ i, xs = [.int i] ∧ Q (.int i) H) ∨ ∃ k, xs = [.bl k] ∧ Q (.int (if k then 1 else 0)) H) ∨ ∃ a n, xs = [.str a] ∧ PySem.intText? a = some n ∧ a.length ≤ 640 ∧ Q (.int n) H
theorem call_intX : CallR X (.type "int") rIntX := CallR.or call_int1 call_int_str
def rLenX (K : PySem.W.Frag) : List V → Hp → VK → Prop := fun xs H Q => ∃ x n, xs = [x] ∧ LenV K x H n ∧ Q (.int (n : Nat)) H
theorem call_lenX : CallR X (.builtin "len") (rLenX X.K) := call_len
def rAbsX : List V → Hp → VK → Prop := fun xs H Q => ∃ i, xs = [.int i] ∧ Q (.int (if i < 0 then -i else i)) H
theorem call_absX : CallR X (.builtin "abs") rAbsX := call_abs
def rListX (K : PySem.W.Frag) : List V → Hp → VK → Prop := fun xs H Q => ∃ p ys, xs = [.ref p] ∧ (SqL K H p ys ∨ SqT K H p ys) ∧ ∀ l, H l = none → Q (.ref l) (upd H l (.lst ys))
theorem call_listX : CallR X (.type "list") (rListX X.K) := call_list_of
def rTupleX (K : PySem.W.Frag) : List V → Hp → VK → Prop := fun xs H Q => ∃ p ys, xs = [.ref p] ∧ ((SqL K H p ys ∧ ∀ l, H l = none → Q (.ref l) (upd H l (.tup ys))) ∨ (SqT K H p ys ∧ Q (.ref p) H))
theorem call_tupleX : CallR X (.type "tuple") (rTupleX X.K) := call_tuple_of
def rStrX : List V → Hp → VK → Prop := fun xs H Q => ∃ i : Int, xs = [.int i] ∧ i.natAbs.log2 < 1920 ∧ Q (.str (Str.ofString (toString i))) H
theorem call_strX : CallR X (.type "str") rStrX := call_str_int
theorem pe_gl {x : Str} {v : V} {pos : Pos} (hg : Gl X x) (h : ∃ u, X.mg x = some u ∧ RelV v u) (hd : (x == ("__debug__" : Str)) = false := by decide) : PE X (.Name x pos) (tC v) := C8.pe_gc hg h hd
end
def constV : Expr → Option V
  | .Constant (.int i) _ _ => some (.int i)
  | .Constant (.str x) _ _ => some (.str x)
  | .Constant (.bool b) _ _ => some (.bl b)
  | .Constant .none _ _ => some .non
  | _ => none
def constsV : List Expr → Option (List V)
  | [] => some []
  | e :: es => match constV e, constsV es with
    | some v, some vs => some (v :: vs)
    | _, _ => none
def tVals (vs : List V) : TA := fun _ H Q => Q vs H
theorem pe_constV {X : Cx} {e : Expr} {v : V} (h : constV e = some v) : PE X e (tC v) ∧ ∀ es, starEach (e :: es) X.env = (false, eval e X.env) :: starEach es X.env := by
  cases e with
  | Constant c k pos =>
    refine ⟨?_, fun _ => rfl⟩
    cases c with
    | int i => cases h; exact pe_int
    | str x => cases h; exact pe_str
    | bool b => cases h; exact pe_bl
    | none => cases h; exact pe_non
    | _ => cases h
  | _ => cases h
theorem pa_cs {X : Cx} : ∀ {es : List Expr} {vs : List V}, constsV es = some vs → PA X es (tVals vs)
  | [], _, h => by
    cases h
    exact pa_nil
  | e :: es, vs, h => by
    unfold constsV at h
    cases h1 : constV e with
    | none => rw [h1] at h; cases h
    | some v =>
      cases h2 : constsV es with
      | none => rw [h1, h2] at h; cases h
      | some ws =>
        rw [h1, h2] at h
        cases h
        obtain ⟨p, q⟩ := pe_constV (X := X) h1
        exact pa_cons p (pa_cs h2) (q es)
section
variable {K : PySem.W.Frag} {H : Hp} {Q : VK} {a p q : Addr} {i j : Int} {s t : Str} {xs ys : List V} {v x y : V} {c : Nat}
theorem addX_int (h : Q (.int (i + j)) H) : rAddX K (.int i) (.int j) H Q := .inl (.inl ⟨i, j, rfl, rfl, h⟩)
theorem addX_str (hz : s.length + t.length ≤ sizeLine) (h : Q (.str (s ++ t)) H) : rAddX K (.str s) (.str t) H Q := .inl (.inr ⟨s, t, rfl, rfl, hz, h⟩)
theorem addX_lst (h1 : H p = some (.lst xs)) (h2 : H q = some (.lst ys)) (hz : xs.length + ys.length ≤ sizeLine) (h : ∀ r, H r = none → Q (.ref r) (upd H r (.lst (xs ++ ys)))) : rAddX K (.ref p) (.ref q) H Q := .inr (.inl ⟨p, q, xs, ys, rfl, rfl, h1, h2, hz, h⟩)
theorem mulX_int (hc : CMul i j) (h : Q (.int (i * j)) H) : rMulX (.int i) (.int j) H Q := .inl ⟨i, j, rfl, rfl, hc, h⟩
theorem mulX_l (hc : -(2 ^ 64) < i ∧ i < 2 ^ 64) (h : Q (.int (i * j)) H) : rMulX (.int i) (.int j) H Q := mulX_int (.inl hc) h
theorem mulX_r (hc : -(2 ^ 64) < j ∧ j < 2 ^ 64) (h : Q (.int (i * j)) H) : rMulX (.int i) (.int j) H Q := mulX_int (.inr hc) h
theorem mulX_rep (h1 : H p = some (.lst xs)) (hk : -(2 ^ 63) ≤ i ∧ i < 2 ^ 63) (hz : xs.length * i.toNat ≤ sizeLine) (h : ∀ r, H r = none → Q (.ref r) (upd H r (.lst (List.replicate i.toNat xs).flatten))) : rMulX (.ref p) (.int i) H Q := .inr ⟨p, i, xs, rfl, rfl, h1, hk.1, hk.2, hz, h⟩
theorem eqX_sc (hs : scal x y = true) (h : Q (.bl (decide (x = y))) H) : rEqX K x y H Q := .inl ⟨hs, h⟩
theorem eqX_int (h : Q (.bl (decide (i = j))) H) : rEqX K (.int i) (.int j) H Q := eqX_sc rfl (by
  have e : decide (V.int i = V.int j) = decide (i = j) := by by_cases z : i = j <;> simp [z]
  rw [e]; exact h)
theorem eqX_str (h : Q (.bl (decide (s = t))) H) : rEqX K (.str s) (.str t) H Q := eqX_sc rfl (by
  have e : decide (V.str s = V.str t) = decide (s = t) := by by_cases z : s = t <;> simp [z]
  rw [e]; exact h)
theorem neX_sc (hs : scal x y = true) (h : Q (.bl (!decide (x = y))) H) : rNeX K x y H Q := .inl ⟨hs, h⟩
theorem neX_int (h : Q (.bl (!decide (i = j))) H) : rNeX K (.int i) (.int j) H Q := neX_sc rfl (by
  have e : decide (V.int i = V.int j) = decide (i = j) := by by_cases z : i = j <;> simp [z]
  rw [e]; exact h)
theorem neX_bl {m n : Bool} (h : Q (.bl (!decide (m = n))) H) : rNeX K (.bl m) (.bl n) H Q := neX_sc rfl (by
  have e : decide (V.bl m = V.bl n) = decide (m = n) := by by_cases z : m = n <;> simp [z]
  rw [e]; exact h)
theorem neX_d {d e : PyData} (hd : Dp K H x d) (he : Dp K H y e) (sd : SeqAt.shaped d = true) (se : SeqAt.shaped e = true) (h : Q (.bl (!PyData.eqv d e)) H) : rNeX K x y H Q := .inr ⟨d, e, hd, he, sd, se, h⟩
theorem eqX_d {d e : PyData} (hd : Dp K H x d) (he : Dp K H y e) (sd : SeqAt.shaped d = true) (se : SeqAt.shaped e = true) (h : Q (.bl (PyData.eqv d e)) H) : rEqX K x y H Q := .inr ⟨d, e, hd, he, sd, se, h⟩
theorem inX_str (h : Q (.bl (!(Builtin.Str.occurrences t s 0 t.length 1).isEmpty)) H) : rInX K (.str s) (.str t) H Q := .inl ⟨s, t, rfl, rfl, h⟩
theorem inX_sign (h : Q (.bl (decide (c ∈ t.cps.toList))) H) : rInX K (.str ⟨#[c]⟩) (.str t) H Q := inX_str (by
  rw [StrLaws.found_one]; exact h)
theorem inX_seq (hs : SqL K H p xs ∨ SqT K H p xs) (hf : flatV x = true) (ha : xs.all flatV = true) (h : Q (.bl (inV x xs)) H) : rInX K x (.ref p) H Q := .inr ⟨p, xs, rfl, hs, hf, ha, h⟩
theorem intX_int (h : Q (.int i) H) : rIntX [.int i] H Q := .inl (.inl ⟨i, rfl, h⟩)
theorem intX_str (hn : PySem.intText? s = some i) (hl : s.length ≤ 640) (h : Q (.int i) H) : rIntX [.str s] H Q := .inr ⟨s, i, rfl, hn, hl, h⟩
theorem isX_non (h : Q (.bl (decide (x = .non))) H) : rIsX x .non H Q := .inl ⟨rfl, h⟩
theorem isNotX_non (h : Q (.bl (!decide (x = .non))) H) : rIsNotX x .non H Q := .inl ⟨rfl, h⟩
theorem isNotX_ty {m n : String} (h : Q (.bl (!decide (m = n))) H) : rIsNotX (.ty m) (.ty n) H Q := .inr ⟨m, n, rfl, rfl, h⟩
theorem ix_l (hs : SqL K H p xs) (ha : atI xs i = some v) (h : Q v H) : rIx K (.ref p) (.int i) H Q := .inl ⟨p, xs, i, v, rfl, rfl, hs, ha, h⟩
theorem ix_t (hs : SqT K H p xs) (ha : atI xs i = some v) (h : Q v H) : rIx K (.ref p) (.int i) H Q := .inr (.inl ⟨p, xs, i, v, rfl, rfl, hs, ha, h⟩)
theorem ix_s (hz : s.length ≤ sizeLine) (ha : atI s.cps.toList i = some c) (h : Q (.str ⟨#[c]⟩) H) : rIx K (.str s) (.int i) H Q := .inr (.inr ⟨s, i, c, rfl, rfl, hz, ha, h⟩)
end
end Kc

namespace Kc
open PySem PySem.Spec PyProof.Rows L2
structure Strm (H : Hp) (st L : Addr) (n : Nat) : Prop where
  ne : st ≠ L
  ex : ∃ (cells : List Int) (c1 c2 c3 : Int), cells.length ≤ 63 ∧ H st = some (.lst [.ref L, .int c1, .int c2, .int c3]) ∧ H L = some (.lst (cells.map V.int)) ∧ 0 ≤ c1 ∧ 0 ≤ c2 ∧ c2 ≤ (n : Int) ∧ 0 ≤ c3 ∧ c3 < 2147483647
def ExS (st L : Addr) (H H' : Hp) : Prop := ∀ a o, H a = some o → a ≠ st → a ≠ L → H' a = some o
theorem ExS.refl {st L : Addr} (H : Hp) : ExS st L H H := fun _ _ h _ _ => h
theorem ExS.trans {st L : Addr} {H H1 H2 : Hp} (a : ExS st L H H1) (b : ExS st L H1 H2) : ExS st L H H2 := fun c o h n m => b c o (a c o h n m) n m
theorem ExS.of {st L : Addr} {H H' : Hp} (e : Ex H H') : ExS st L H H' := fun c o h _ _ => e c o h
theorem ExS.st {st L : Addr} {H H' : Hp} {o : HO} (e : ExS st L H H') : ExS st L H (upd H' st o) := fun c u h n m => by
  rw [upd_ne n]
  exact e c u h n m
theorem ExS.l {st L : Addr} {H H' : Hp} {o : HO} (e : ExS st L H H') : ExS st L H (upd H' L o) := fun c u h n m => by
  rw [upd_ne m]
  exact e c u h n m
theorem Strm.mono {H : Hp} {st L : Addr} {n m : Nat} (h : Strm H st L n) (e : n ≤ m) : Strm H st L m := by
  obtain ⟨cells, c1, c2, c3, a, b, c, d, f, g, i⟩ := h.ex
  exact ⟨h.ne, cells, c1, c2, c3, a, b, c, d, f, by omega, i⟩
theorem Strm.ext {H H' : Hp} {st L : Addr} {n : Nat} (h : Strm H st L n) (e : Ex H H') : Strm H' st L n := by
  obtain ⟨cells, c1, c2, c3, a, b, c, d⟩ := h.ex
  exact ⟨h.ne, cells, c1, c2, c3, a, e _ _ b, e _ _ c, d⟩
theorem Strm.stS {H : Hp} {st L : Addr} {n : Nat} (h : Strm H st L n) : ∃ o, H st = some o := by
  obtain ⟨cells, c1, c2, c3, a, b, c, d⟩ := h.ex
  exact ⟨_, b⟩
theorem Strm.lS {H : Hp} {st L : Addr} {n : Nat} (h : Strm H st L n) : ∃ o, H L = some o := by
  obtain ⟨cells, c1, c2, c3, a, b, c, d⟩ := h.ex
  exact ⟨_, c⟩
theorem Strm.new {H : Hp} {st L p : Addr} {n : Nat} (h : Strm H st L n) (hp : H p = none) : p ≠ st ∧ p ≠ L := by
  obtain ⟨o, h1⟩ := h.stS
  obtain ⟨u, h2⟩ := h.lS
  exact ⟨(ne_of_none h1 hp).symm, (ne_of_none h2 hp).symm⟩
theorem ints_dp {K : PySem.W.Frag} {H : Hp} : ∀ ns : List Int, DpAll K H (ns.map V.int) (ns.map PyData.int)
  | [] => .nil
  | n :: ns => .cons (.int n) (ints_dp ns)
theorem ints_lay : ∀ ns : List Int, PyData.canLayAll0 (ns.map PyData.int) = true
  | [] => by simp [PyData.canLayAll0]
  | n :: ns => by
    have h := ints_lay ns
    simp [PyData.canLayAll0, PyData.canLay0, h]
theorem ints_depth : ∀ ns : List Int, PyData.depthAll (ns.map PyData.int) = 0
  | [] => by simp [PyData.depthAll]
  | n :: ns => by
    have h := ints_depth ns
    simp [PyData.depthAll, PyData.depth, h]
theorem ints_shaped (ns : List Int) : SeqAt.shaped (.list (ns.map PyData.int)) = true := by
  unfold SeqAt.shaped
  simp [PyData.canLay0, PyData.depth, ints_lay, ints_depth]
theorem ints_nil (ns : List Int) : PyData.eqv (.list (ns.map PyData.int)) (.list []) = decide (ns = []) := by
  cases ns with
  | nil => simp [PyData.eqv, PyData.eqvAll]
  | cons n r => simp [PyData.eqv, PyData.eqvAll]
def spStream (K : PySem.W.Frag) : Sp := fun vs H Q _ => ∃ (a : Addr) (ns : List Int), vs = [.ref a] ∧ SqL K H a (ns.map V.int) ∧ ns.length ≤ 63 ∧ ∀ (st L : Addr) (H' : Hp), Ex H H' → Strm H' st L 0 → Q (.ref st) H'
def spDraw : Sp := fun vs H Q _ => ∃ (st L : Addr) (n : Nat) (many : Int), vs = [.ref st, .int many] ∧ Strm H st L n ∧ 0 < many ∧ many ≤ 2147483647 ∧ n < 1000000000 ∧
  ∀ (d : Int) (H' : Hp), 0 ≤ d → d < many → Strm H' st L (n + 1) → ExS st L H H' → Q (.int d) H'
def spPick : Sp := fun vs H Q _ => ∃ (st L a : Addr) (n : Nat) (xs : List V), vs = [.ref st, .ref a] ∧ Strm H st L n ∧ H a = some (.lst xs) ∧ a ≠ st ∧ a ≠ L ∧ xs ≠ [] ∧ xs.length ≤ 1000000 ∧ n < 1000000000 ∧
  ∀ (v : V) (H' : Hp), v ∈ xs → Strm H' st L (n + 1) → ExS st L H H' → Q v H'
theorem seq0 (n : Nat) : seqIndex? 0 (n + 1) = some 0 := by
  unfold seqIndex?
  simp
theorem atI_at {α : Type} {xs : List α} {d : Int} (h0 : 0 ≤ d) (h1 : d < (xs.length : Int)) : atI xs d = some (xs[d.toNat]'(by omega)) := by
  have hd : d.toNat < xs.length := by omega
  have e : atI xs ((d.toNat : Nat) : Int) = some xs[d.toNat] := atI_nat (List.getElem?_eq_getElem hd)
  rw [Int.toNat_of_nonneg h0] at e
  exact e
theorem pow_lt64 {i : Int} (h0 : 0 ≤ i) (h : i < 2 ^ 63) : i.natAbs < 2 ^ 64 := by omega
end Kc

namespace Kc
open PySem PySem.Spec PyProof.Rows L2 RZ
def tyn : PyData → String
  | .none => "NoneType"
  | .bool _ => "bool"
  | .int _ => "int"
  | .str _ => "str"
  | .list _ => "list"
  | .tuple _ => "tuple"
  | .dict _ => "dict"
theorem dp_ty {K : PySem.W.Frag} {H : Hp} {v : V} {d : PyData} (h : Dp K H v d) : TyX K H v (.type (tyn d)) := by
  cases h with
  | non => exact .base .non
  | bl b => exact .base (.bl b)
  | int i => exact .base (.int i)
  | str x => exact .base (.str x)
  | lst hs _ =>
    rcases hs with (h | ⟨o, h⟩) | ⟨o, its, n, h, hc, _⟩
    · exact .base (.lst h)
    · exact .base (.frz h)
    · exact .kList h hc
  | tup hs _ =>
    rcases hs with (h | ⟨o, h⟩) | ⟨o, its, n, h, hc, _⟩
    · exact .base (.tup h)
    · exact .fTuple h
    · exact .kTuple h hc
def isB : PyData → String → Bool
  | .list _, "list" => true
  | .tuple _, "tuple" => true
  | .dict _, "dict" => true
  | .bool _, "bool" => true
  | .bool _, "int" => true
  | .int _, "int" => true
  | .str _, "str" => true
  | _, _ => false
def isBoolD : PyData → Bool
  | .bool _ => true
  | _ => false
theorem kit_list (d : PyData) : kitB (tyn d) "list" = some (match d with | .list _ => true | _ => false) := by
  cases d <;> simp only [tyn] <;> decide +kernel
theorem kit_tuple (d : PyData) : kitB (tyn d) "tuple" = some (match d with | .tuple _ => true | _ => false) := by
  cases d <;> simp only [tyn] <;> decide +kernel
theorem kit_dict (d : PyData) : kitB (tyn d) "dict" = some (match d with | .dict _ => true | _ => false) := by
  cases d <;> simp only [tyn] <;> decide +kernel
theorem kit_bool (d : PyData) : kitB (tyn d) "bool" = some (isBoolD d) := by
  cases d <;> simp only [tyn, isBoolD] <;> decide +kernel
theorem kit_int (d : PyData) : kitB (tyn d) "int" = some (match d with | .int _ => true | .bool _ => true | _ => false) := by
  cases d <;> simp only [tyn] <;> decide +kernel
theorem kit_str (d : PyData) : kitB (tyn d) "str" = some (match d with | .str _ => true | _ => false) := by
  cases d <;> simp only [tyn] <;> decide +kernel
section
variable {K : PySem.W.Frag} {H : Hp} {v : V} {d : PyData} {Q : VK} {T : String} {b : Bool} {tp : Addr}
theorem isi (h : Dp K H v d) (e : kitB (tyn d) T = some b) (q : Q (.bl b) H) : rIsi K [v, .ty T] H Q := ⟨v, .ty T, _, _, b, rfl, .ty T, dp_ty h, kit_ty e, q⟩
def isSeq : PyData → Bool
  | .list _ => true
  | .tuple _ => true
  | _ => false
theorem kitAny2 {t c1 c2 : Value} {b1 b2 : Bool} (h1 : PySem.W.kitOne K t c1 = some b1) (h2 : PySem.W.kitOne K t c2 = some b2) : PySem.W.kitAny K t [c1, c2] = some (b1 || b2) := by
  cases b1 <;> cases b2 <;> simp [PySem.W.kitAny, h1, h2]
theorem kitAny3 {t c1 c2 c3 : Value} {b1 b2 b3 : Bool} (h1 : PySem.W.kitOne K t c1 = some b1) (h2 : PySem.W.kitOne K t c2 = some b2) (h3 : PySem.W.kitOne K t c3 = some b3) : PySem.W.kitAny K t [c1, c2, c3] = some (b1 || b2 || b3) := by
  cases b1 <;> cases b2 <;> cases b3 <;> simp [PySem.W.kitAny, h1, h2, h3]
theorem isi2 (hT : H tp = some (.tup [.ty "list", .ty "tuple"])) (h : Dp K H v d) (q : Q (.bl (isSeq d)) H) : rIsiT K [v, .ref tp] H Q := by
  refine ⟨v, tp, _, _, [.type "list", .type "tuple"], isSeq d, rfl, hT, .cons (.ty _) (.cons (.ty _) .nil), dp_ty h, ?_, q⟩
  rw [kitAny2 (kit_ty (kit_list d)) (kit_ty (kit_tuple d))]
  cases d <;> rfl
def isSeqD : PyData → Bool
  | .list _ => true
  | .tuple _ => true
  | .dict _ => true
  | _ => false
theorem isi3 (hT : H tp = some (.tup [.ty "list", .ty "tuple", .ty "dict"])) (h : Dp K H v d) (q : Q (.bl (isSeqD d)) H) : rIsiT K [v, .ref tp] H Q := by
  refine ⟨v, tp, _, _, [.type "list", .type "tuple", .type "dict"], isSeqD d, rfl, hT, .cons (.ty _) (.cons (.ty _) (.cons (.ty _) .nil)), dp_ty h, ?_, q⟩
  rw [kitAny3 (kit_ty (kit_list d)) (kit_ty (kit_tuple d)) (kit_ty (kit_dict d))]
  cases d <;> rfl
end
theorem walk_zipT {K : PySem.W.Frag} {a b : Addr} {xs ys : List V} {n : Nat} (hn : n = min xs.length ys.length) : Walk (ItzT K a b) n (fun H => SqT K H a xs ∧ SqT K H b ys) (YPair (fun i => xs[i]?) (fun i => ys[i]?)) := by
  subst hn
  refine ⟨fun i _ hi q => ?_, fun _ q => ⟨xs, ys, q.1, q.2, by omega⟩, fun i H v H' _ q y => ?_⟩
  · have h1 : i < xs.length := by omega
    have h2 : i < ys.length := by omega
    exact ⟨xs, ys, xs[i], ys[i], q.1, q.2, by simp [h1], by simp [h2]⟩
  · obtain ⟨T, x, z, h1, h2, h3, h4, h5⟩ := y
    exact ⟨T, x, z, h1, h2, h3, h4 xs q.1, h5 ys q.2⟩
mutual
inductive Tree (K : PySem.W.Frag) (H : Hp) : V → PyData → List Addr → Prop
  | non : Tree K H .non .none []
  | bl (b : Bool) : Tree K H (.bl b) (.bool b) []
  | int (i : Int) : Tree K H (.int i) (.int i) []
  | str (x : Str) : Tree K H (.str x) (.str x) []
  | lst {a : Addr} {xs : List V} {ds : List PyData} {L : List Addr} : H a = some (.lst xs) → Trees K H xs ds L → Tree K H (.ref a) (.list ds) (a :: L)
  | tup {a : Addr} {xs : List V} {ds : List PyData} {L : List Addr} : SqT K H a xs → Trees K H xs ds L → Tree K H (.ref a) (.tuple ds) L
inductive Trees (K : PySem.W.Frag) (H : Hp) : List V → List PyData → List Addr → Prop
  | nil : Trees K H [] [] []
  | cons {v : V} {vs : List V} {d : PyData} {ds : List PyData} {L M : List Addr} : Tree K H v d L → Trees K H vs ds M → Trees K H (v :: vs) (d :: ds) (L ++ M)
end
section
variable {K : PySem.W.Frag} {H H' : Hp}
mutual
theorem Tree.dp : ∀ (d : PyData) (v : V) (L : List Addr), Tree K H v d L → Dp K H v d
  | .none, _, _, h => by cases h; exact .non
  | .bool b, _, _, h => by cases h; exact .bl b
  | .int i, _, _, h => by cases h; exact .int i
  | .str x, _, _, h => by cases h; exact .str x
  | .list ds, _, _, h => by
    cases h with
    | lst hs ha => exact .lst (SqL.of hs) (Trees.dp ds _ _ ha)
  | .tuple ds, _, _, h => by
    cases h with
    | tup hs ha => exact .tup hs (Trees.dp ds _ _ ha)
theorem Trees.dp : ∀ (ds : List PyData) (vs : List V) (L : List Addr), Trees K H vs ds L → DpAll K H vs ds
  | [], _, _, h => by cases h; exact .nil
  | d :: ds, _, _, h => by
    cases h with
    | cons hv ht => exact .cons (Tree.dp d _ _ hv) (Trees.dp ds _ _ ht)
end
def ExL (L : List Addr) (H H' : Hp) : Prop := ∀ a o, H a = some o → a ∉ L → H' a = some o
theorem ExL.refl (L : List Addr) (H : Hp) : ExL L H H := fun _ _ h _ => h
theorem ExL.trans {L : List Addr} {H1 H2 : Hp} (a : ExL L H H1) (b : ExL L H1 H2) : ExL L H H2 := fun c o h n => b c o (a c o h n) n
theorem ExL.of {L : List Addr} (e : Ex H H') : ExL L H H' := fun c o h _ => e c o h
theorem ExL.mono {L M : List Addr} (e : ExL L H H') (s : ∀ a ∈ L, a ∈ M) : ExL M H H' := fun c o h n => e c o h fun z => n (s c z)
theorem exl_t {L : List Addr} {a : Addr} {xs : List V} (e : ExL L H H') (hn : ∀ b ∈ L, ∃ zs, H b = some (.lst zs)) (h : SqT K H a xs) : SqT K H' a xs := by
  rcases h with (h | ⟨o, h⟩) | h
  · refine .inl (.inl (e _ _ h fun z => ?_))
    obtain ⟨zs, q⟩ := hn _ z
    rw [h] at q
    cases q
  · refine .inl (.inr ⟨o, e _ _ h fun z => ?_⟩)
    obtain ⟨zs, q⟩ := hn _ z
    rw [h] at q
    cases q
  · exact .inr h
mutual
theorem Tree.own : ∀ (d : PyData) (v : V) (L : List Addr), Tree K H v d L → ∀ a ∈ L, ∃ zs, H a = some (.lst zs)
  | .none, _, _, h => by cases h; simp
  | .bool b, _, _, h => by cases h; simp
  | .int i, _, _, h => by cases h; simp
  | .str x, _, _, h => by cases h; simp
  | .list ds, _, _, h => by
    cases h with
    | lst hs ha =>
      intro a hm
      rcases List.mem_cons.mp hm with rfl | hm
      · exact ⟨_, hs⟩
      · exact Trees.own ds _ _ ha a hm
  | .tuple ds, _, _, h => by
    cases h with
    | tup hs ha => exact Trees.own ds _ _ ha
theorem Trees.own : ∀ (ds : List PyData) (vs : List V) (L : List Addr), Trees K H vs ds L → ∀ a ∈ L, ∃ zs, H a = some (.lst zs)
  | [], _, _, h => by cases h; simp
  | d :: ds, _, _, h => by
    cases h with
    | cons hv ht =>
      intro a hm
      rcases List.mem_append.mp hm with hm | hm
      · exact Tree.own d _ _ hv a hm
      · exact Trees.own ds _ _ ht a hm
end
mutual
theorem Tree.frame {M : List Addr} (e : ExL M H H') (hn : ∀ b ∈ M, ∃ zs, H b = some (.lst zs)) : ∀ (d : PyData) (v : V) (L : List Addr), Tree K H v d L → (∀ a ∈ L, a ∉ M) → Tree K H' v d L
  | .none, _, _, h, _ => by cases h; exact .non
  | .bool b, _, _, h, _ => by cases h; exact .bl b
  | .int i, _, _, h, _ => by cases h; exact .int i
  | .str x, _, _, h, _ => by cases h; exact .str x
  | .list ds, _, _, h, n => by
    cases h with
    | lst hs ha => exact .lst (e _ _ hs (n _ List.mem_cons_self)) (Trees.frame e hn ds _ _ ha fun a hm => n a (List.mem_cons_of_mem _ hm))
  | .tuple ds, _, _, h, n => by
    cases h with
    | tup hs ha => exact .tup (exl_t e hn hs) (Trees.frame e hn ds _ _ ha n)
theorem Trees.frame {M : List Addr} (e : ExL M H H') (hn : ∀ b ∈ M, ∃ zs, H b = some (.lst zs)) : ∀ (ds : List PyData) (vs : List V) (L : List Addr), Trees K H vs ds L → (∀ a ∈ L, a ∉ M) → Trees K H' vs ds L
  | [], _, _, h, _ => by cases h; exact .nil
  | d :: ds, _, _, h, n => by
    cases h with
    | cons hv ht => exact .cons (Tree.frame e hn d _ _ hv fun a hm => n a (List.mem_append_left _ hm)) (Trees.frame e hn ds _ _ ht fun a hm => n a (List.mem_append_right _ hm))
end
theorem Tree.ex {d : PyData} {v : V} {L : List Addr} (h : Tree K H v d L) (e : Ex H H') : Tree K H' v d L := Tree.frame (M := []) (fun a o q _ => e a o q) (by simp) d v L h (by simp)
theorem Trees.ex {d : List PyData} {v : List V} {L : List Addr} (h : Trees K H v d L) (e : Ex H H') : Trees K H' v d L := Trees.frame (M := []) (fun a o q _ => e a o q) (by simp) d v L h (by simp)
theorem Trees.snoc {d : PyData} {v : V} {M : List Addr} : ∀ {ds : List PyData} {vs : List V} {L : List Addr}, Trees K H vs ds L → Tree K H v d M → Trees K H (vs ++ [v]) (ds ++ [d]) (L ++ M)
  | [], _, _, h, h' => by
    cases h
    have z : Trees K H [v] [d] (M ++ []) := .cons h' .nil
    rw [List.append_nil] at z
    exact z
  | d0 :: ds, _, _, h, h' => by
    cases h with
    | cons hv ht =>
      rw [List.append_assoc]
      exact .cons hv (Trees.snoc ht h')
theorem Trees.len : ∀ {ds : List PyData} {vs : List V} {L : List Addr}, Trees K H vs ds L → vs.length = ds.length
  | [], _, _, h => by cases h; rfl
  | d :: ds, _, _, h => by
    cases h with
    | cons hv ht => exact congrArg (· + 1) (Trees.len ht)
end
mutual
def spoil : PyData → PyData
  | .list ds => .list (spoils ds ++ [.str "late"])
  | .tuple ds => .tuple (spoils ds)
  | .none => .none
  | .bool b => .bool b
  | .int i => .int i
  | .str x => .str x
  | .dict k => .dict k
def spoils : List PyData → List PyData
  | [] => []
  | d :: ds => spoil d :: spoils ds
end
mutual
def few : PyData → Bool
  | .list ds => decide (ds.length ≤ 100000) && fews ds
  | .tuple ds => decide (ds.length ≤ 100000) && fews ds
  | _ => true
def fews : List PyData → Bool
  | [] => true
  | d :: ds => few d && fews ds
end
theorem fews_get : ∀ {ds : List PyData} {i : Nat} {d : PyData}, fews ds = true → ds[i]? = some d → few d = true
  | [], _, _, _, h => by simp at h
  | e :: ds, 0, d, h, q => by
    simp at q
    subst q
    simp only [fews, Bool.and_eq_true] at h
    exact h.1
  | e :: ds, i + 1, d, h, q => by
    simp only [fews, Bool.and_eq_true] at h
    exact fews_get (i := i) h.2 (by simpa using q)
theorem depth_get : ∀ {ds : List PyData} {i : Nat} {d : PyData}, ds[i]? = some d → d.depth ≤ PyData.depthAll ds
  | [], _, _, h => by simp at h
  | e :: ds, 0, d, q => by
    simp at q
    subst q
    simp only [PyData.depthAll]
    omega
  | e :: ds, i + 1, d, q => by
    have h := depth_get (ds := ds) (i := i) (d := d) (by simpa using q)
    simp only [PyData.depthAll]
    omega
theorem spoils_len : ∀ ds : List PyData, (spoils ds).length = ds.length
  | [] => rfl
  | d :: ds => by
    show (spoils ds).length + 1 = ds.length + 1
    rw [spoils_len ds]
def spSame (K : PySem.W.Frag) (n : Nat) : Sp := fun vs H Q _ => ∃ (v u : V) (d : PyData), vs = [v, u] ∧ Dp K H v d ∧ Dp K H u d ∧ d.depth < n ∧ few d = true ∧ ∀ H' : Hp, Ex H H' → Q (.bl true) H'
def spCopied (K : PySem.W.Frag) (n : Nat) : Sp := fun vs H Q _ => ∃ (v : V) (d : PyData), vs = [v] ∧ Dp K H v d ∧ d.depth < n ∧ few d = true ∧ ∀ (u : V) (L : List Addr) (H' : Hp), Ex H H' → Tree K H' u d L → L.Nodup → (∀ a ∈ L, H a = none) → Q u H'
def spSpoilt (K : PySem.W.Frag) (n : Nat) : Sp := fun vs H Q _ => ∃ (v : V) (d : PyData) (L : List Addr), vs = [v] ∧ Tree K H v d L ∧ L.Nodup ∧ d.depth < n ∧ few d = true ∧ ∀ H' : Hp, ExL L H H' → Tree K H' v (spoil d) L → Q .non H'
end Kc

namespace Kc
open PySem PySem.Spec PyProof.Rows L2 RZ Evl
def lenOf : PyData → Option Nat
  | .list ds => some ds.length
  | .tuple ds => some ds.length
  | .str s => if s.length ≤ sizeLine then some s.length else none
  | _ => none
def EvR (te : TE) (σ : L2.St) (H : Hp) (P : V → Hp → Prop) : Prop := ∀ H1, Ex H H1 → ∀ Q : VK, (∀ v H2, Ex H1 H2 → P v H2 → Q v H2) → te σ H1 Q
def EvAR (ta : TA) (σ : L2.St) (H : Hp) (P : List V → Hp → Prop) : Prop := ∀ H1, Ex H H1 → ∀ Q : List V → Hp → Prop, (∀ vs H2, Ex H1 H2 → P vs H2 → Q vs H2) → ta σ H1 Q
abbrev EvD (K : PySem.W.Frag) (te : TE) (σ : L2.St) (H : Hp) (d : PyData) : Prop := EvR te σ H fun v H2 => Dp K H2 v d
abbrev EvAD (K : PySem.W.Frag) (ta : TA) (σ : L2.St) (H : Hp) (ds : List PyData) : Prop := EvAR ta σ H fun vs H2 => DpAll K H2 vs ds
section
variable {K : PySem.W.Frag} {σ : L2.St} {H H' : Hp} {ta tb te tx : TE} {t u : TT} {x y z v : V} {d e : PyData} {P : V → Hp → Prop} {ts : TA} {ds : List PyData} {D : Ends} {tu tw tz : TS}
theorem EvR.mono (e : Ex H H') (h : EvR te σ H P) : EvR te σ H' P := fun H1 a Q q => h H1 (e.trans a) Q q
theorem EvR.imp {P' : V → Hp → Prop} (h : EvR te σ H P) (i : ∀ v H1, Ex H H1 → P v H1 → P' v H1) : EvR te σ H P' := fun H1 a Q q => h H1 a Q fun v H2 e2 p => q v H2 e2 (i v H2 (a.trans e2) p)
theorem evr_of (h : Ev te σ H v) : EvR te σ H (fun u _ => u = v) := fun H1 a Q q => h H1 a Q fun H2 e2 => q v H2 e2 rfl
theorem EvR.ev (h : EvR te σ H (fun u _ => u = v)) : Ev te σ H v := fun H1 a Q q => h H1 a Q fun w H2 e2 p => by
  have p : w = v := p
  rw [p]
  exact q H2 e2
theorem evd_of (h : Ev te σ H v) (hd : Dp K H v d) : EvD K te σ H d := fun H1 a Q q => h H1 a Q fun H2 e2 => q v H2 e2 (dp_ex (a.trans e2) d v hd)
theorem evd_var {i : Nat} (h : σ[i]? = some (some v)) (hd : Dp K H v d) : EvD K (tVar i) σ H d := evd_of (ev_var h) hd
theorem evd_int {i : Int} : EvD K (tC (.int i)) σ H (.int i) := evd_of ev_c (.int i)
theorem evd_str {s : Str} : EvD K (tC (.str s)) σ H (.str s) := evd_of ev_c (.str s)
theorem evd_bl {b : Bool} : EvD K (tC (.bl b)) σ H (.bool b) := evd_of ev_c (.bl b)
theorem evd_non : EvD K (tC .non) σ H .none := evd_of ev_c .non
theorem ead_nil : EvAD K tNil σ H [] := fun H1 _ _ q => q [] H1 (Ex.refl H1) .nil
theorem ead_cons (h : EvD K te σ H d) (hr : EvAD K ts σ H ds) : EvAD K (tCons te ts) σ H (d :: ds) := fun H1 a _ q =>
  h H1 a _ fun v H2 e2 p => hr H2 (a.trans e2) _ fun vs H3 e3 ps => q _ H3 (e2.trans e3) (.cons (dp_ex e3 d v p) ps)
theorem evd_tup (h : EvAD K ts σ H ds) (hl : ds.length ≤ 100000) : EvD K (tTup ts) σ H (.tuple ds) := fun H1 a _ q =>
  h H1 a _ fun vs H2 e2 ps => ⟨sz_of (by rw [dpl_len ps]; exact hl), fun p hp => q _ _ (e2.trans (Ex.new hp)) (.tup (st_of upd_same) (dpAll_ex (Ex.new hp) ds vs ps))⟩
theorem evd_lst (h : EvAD K ts σ H ds) (hl : ds.length ≤ 100000) : EvD K (tLst ts) σ H (.list ds) := fun H1 a _ q =>
  h H1 a _ fun vs H2 e2 ps => ⟨sz_of (by rw [dpl_len ps]; exact hl), fun p hp => q _ _ (e2.trans (Ex.new hp)) (.lst (sq_of upd_same) (dpAll_ex (Ex.new hp) ds vs ps))⟩
theorem ev_isi {T : String} {b : Bool} (h : EvD K te σ H d) (e : kitB (tyn d) T = some b) : Ev (tCB (rIsi K) (tCons te (tCons (tC (.ty T)) tNil))) σ H (.bl b) := fun H1 a _ q =>
  h H1 a _ fun v H2 e2 p => isi p e (q H2 e2)
abbrev tIsi2 (K : PySem.W.Frag) (te : TE) : TE := tCB (rIsiT K) (tCons te (tCons (tTup (tCons (tC (.ty "list")) (tCons (tC (.ty "tuple")) tNil))) tNil))
theorem ev_isi2 (h : EvD K te σ H d) : Ev (tIsi2 K te) σ H (.bl (isSeq d)) := fun H1 a _ q =>
  h H1 a _ fun v H2 e2 p => ⟨(by show 2 ≤ sizeLine; decide), fun tp htp => isi2 upd_same (dp_ex (Ex.new htp) d v p) (q _ (e2.trans (Ex.new htp)))⟩
abbrev tIsi3 (K : PySem.W.Frag) (te : TE) : TE := tCB (rIsiT K) (tCons te (tCons (tTup (tCons (tC (.ty "list")) (tCons (tC (.ty "tuple")) (tCons (tC (.ty "dict")) tNil)))) tNil))
theorem ev_isi3 (h : EvD K te σ H d) : Ev (tIsi3 K te) σ H (.bl (isSeqD d)) := fun H1 a _ q =>
  h H1 a _ fun v H2 e2 p => ⟨(by show 3 ≤ sizeLine; decide), fun tp htp => isi3 upd_same (dp_ex (Ex.new htp) d v p) (q _ (e2.trans (Ex.new htp)))⟩
theorem ev_neB {a b : Bool} (h1 : Ev ta σ H (.bl a)) (h2 : Ev tb σ H (.bl b)) : Ev (tOp (rNeX K) ta tb) σ H (.bl (!decide (a = b))) := ev_op h1 h2 fun H1 _ _ q => neX_bl (q H1 (Ex.refl H1))
theorem ev_eqI {a b : Int} (h1 : Ev ta σ H (.int a)) (h2 : Ev tb σ H (.int b)) : Ev (tOp (rEqX K) ta tb) σ H (.bl (decide (a = b))) := ev_op h1 h2 fun H1 _ _ q => eqX_int (q H1 (Ex.refl H1))
theorem ev_eqS {a b : Str} (h1 : Ev ta σ H (.str a)) (h2 : Ev tb σ H (.str b)) : Ev (tOp (rEqX K) ta tb) σ H (.bl (decide (a = b))) := ev_op h1 h2 fun H1 _ _ q => eqX_str (q H1 (Ex.refl H1))
theorem ev_eq (hs : scal x y = true) (h1 : Ev ta σ H x) (h2 : Ev tb σ H y) : Ev (tOp (rEqX K) ta tb) σ H (.bl (decide (x = y))) := ev_op h1 h2 fun H1 _ _ q => eqX_sc hs (q H1 (Ex.refl H1))
theorem ev_isN (h1 : Ev ta σ H x) : Ev (tOp rIsX ta (tC .non)) σ H (.bl (decide (x = .non))) := ev_op h1 ev_c fun H1 _ _ q => isX_non (q H1 (Ex.refl H1))
theorem ev_add {a b : Int} (h1 : Ev ta σ H (.int a)) (h2 : Ev tb σ H (.int b)) : Ev (tOp (rAddX K) ta tb) σ H (.int (a + b)) := ev_op h1 h2 fun H1 _ _ q => addX_int (q H1 (Ex.refl H1))
theorem ev_addS {a b : Str} (h1 : Ev ta σ H (.str a)) (h2 : Ev tb σ H (.str b)) (hz : a.length + b.length ≤ sizeLine) : Ev (tOp (rAddX K) ta tb) σ H (.str (a ++ b)) := ev_op h1 h2 fun H1 _ _ q => addX_str hz (q H1 (Ex.refl H1))
theorem ev_lenD (h : EvD K te σ H d) {n : Nat} (hn : lenOf d = some n) : Ev (tCB (rLenX K) (tCons te tNil)) σ H (.int (n : Nat)) := fun H1 a _ q =>
  h H1 a _ fun v H2 e2 p => by
    cases p with
    | non => cases hn
    | bl b => cases hn
    | int i => cases hn
    | str s =>
      simp only [lenOf] at hn
      split at hn
      · rename_i hz
        cases hn
        exact ⟨_, _, rfl, ⟨hz, rfl⟩, q H2 e2⟩
      · cases hn
    | lst hs ha =>
      cases hn
      exact ⟨_, _, rfl, .inl ⟨_, hs, by rw [dpl_len ha]⟩, q H2 e2⟩
    | tup hs ha =>
      cases hn
      exact ⟨_, _, rfl, .inr ⟨_, hs, by rw [dpl_len ha]⟩, q H2 e2⟩
theorem ev_same {n : Nat} (h : EvAD K ts σ H [d, d]) (hd : d.depth < n) (hf : few d = true) : Ev (tCal (spSame K n) ts) σ H (.bl true) := fun H1 a _ q =>
  h H1 a _ fun vs H2 e2 p => by
    cases p with
    | cons p1 p =>
      cases p with
      | cons p2 p =>
        cases p
        exact ⟨_, _, d, rfl, p1, p2, hd, hf, fun H' e => q H' (e2.trans e)⟩
def Lw (H0 : Hp) (f : Nat → V) (Dl : Addr) (i : Nat) (H' : Hp) : Prop := H0 Dl = none ∧ Ex H0 H' ∧ H' Dl = some (.lst ((List.range i).map f))
theorem lw_step {H0 H' : Hp} {f : Nat → V} {Dl : Addr} {i : Nat} (p : Lw H0 f Dl i H') : Lw H0 f Dl (i + 1) (upd H' Dl (.lst ((List.range i).map f ++ [f i]))) := by
  obtain ⟨p1, p2, p3⟩ := p
  refine ⟨p1, Ex.mut p2 p1, ?_⟩
  rw [upd_same, List.range_succ, List.map_append]
  rfl
theorem el_zip {a b : Addr} {xs ys : List V} {j k : Nat} {vs : List Nat} (hz : (SqL K H a xs ∧ SqL K H b ys) ∨ (SqT K H a xs ∧ SqT K H b ys)) (hl : xs.length = ys.length) (hn : xs.length ≤ 100000) (ha : Ev ta σ H (.ref a)) (hb : Ev tb σ H (.ref b))
    (hw : ∀ x y, wipe (((wipe σ vs).set j (some x)).set k (some y)) vs = wipe σ vs) (f : Nat → V) (he : ∀ i x y H1, Ex H H1 → xs[i]? = some x → ys[i]? = some y → Ev te (((wipe σ vs).set j (some x)).set k (some y)) H1 (f i)) :
    EvL (tLc (iZipA K (tCons ta (tCons tb tNil))) (gTup K 2 (gCons (gName j) (gCons (gName k) gNil))) tYes te vs) σ H ((List.range xs.length).map f) := fun H1 e1 Q q =>
  ha H1 e1 _ fun H2 e2 => hb H2 (e1.trans e2) _ fun H3 e3 => by
    have e : Ex H H3 := (e1.trans e2).trans e3
    have turn : ∀ (Dl : Addr) (i : Nat) (x : V) (H4 H5 : Hp), i < xs.length → Lw H3 f Dl i H4 → YPair (fun i => xs[i]?) (fun i => ys[i]?) i H4 x H5 → gTup K 2 (gCons (gName j) (gCons (gName k) gNil)) x (wipe σ vs) H5 fun σ2 H6 => wipe σ2 vs = wipe σ vs ∧ tYes σ2 H6 fun b H7 =>
        if b = true then te σ2 H7 fun y H8 => ∃ acc, H8 Dl = some (.lst acc) ∧ acc.length < sizeLine ∧ Lw H3 f Dl (i + 1) (upd H8 Dl (.lst (acc ++ [y]))) else Lw H3 f Dl (i + 1) H7 := by
      rintro Dl i x H4 H5 hi p ⟨T, x1, y1, rfl, hT, rfl, hx, hy⟩
      have n5 : Ex H4 (upd H4 T (.tup [x1, y1])) := Ex.new hT
      refine ⟨T, _, rfl, st_of upd_same, rfl, x1, _, rfl, y1, _, rfl, rfl, hw _ _, ?_⟩
      refine iteT (A := te (((wipe σ vs).set j (some x1)).set k (some y1)) _ _) (B := Lw H3 f Dl (i + 1) (upd H4 T (.tup [x1, y1]))) ?_
      refine he i x1 y1 _ ((e.trans p.2.1).trans n5) hx hy _ (Ex.refl _) _ fun H8 e8 => ?_
      have p8 : Lw H3 f Dl i H8 := ⟨p.1, (p.2.1.trans n5).trans e8, e8 _ _ (n5 _ _ p.2.2)⟩
      exact ⟨_, p8.2.2, sz_lt (by rw [List.length_map, List.length_range]; omega), lw_step p8⟩
    have fin : ∀ (Dl : Addr) (H4 : Hp), Lw H3 f Dl xs.length H4 → Q (.ref Dl) H4 := fun Dl H4 p => q Dl H4 (fresh_back (e2.trans e3) p.1) ((e2.trans e3).trans p.2.1) p.2.2
    have z0 : ∀ Dl, H3 Dl = none → Lw H3 f Dl 0 (upd H3 Dl (.lst [])) := fun Dl hD => ⟨hD, Ex.new hD, upd_same⟩
    refine ⟨a, b, xs, ys, rfl, ?_⟩
    rcases hz with ⟨h1, h2⟩ | ⟨h1, h2⟩
    · exact .inl ⟨ex_l e h1, ex_l e h2, fun Dl hD => lc_it (walk_zip (by omega)) (Lw H3 f Dl) (z0 Dl hD) (fun i H' _ p => ⟨ex_l (e.trans p.2.1) h1, ex_l (e.trans p.2.1) h2⟩) (turn Dl) (fin Dl)⟩
    · exact .inr ⟨ex_t e h1, ex_t e h2, fun Dl hD => lc_it (walk_zipT (by omega)) (Lw H3 f Dl) (z0 Dl hD) (fun i H' _ p => ⟨ex_t (e.trans p.2.1) h1, ex_t (e.trans p.2.1) h2⟩) (turn Dl) (fin Dl)⟩
theorem ev_all {n : Nat} (h : EvL te σ H (List.replicate n (.bl true))) : Ev (tCB (rAll K) (tCons te tNil)) σ H (.bl true) := fun H1 a _ q =>
  h H1 a _ fun p H2 _ e2 hp => ⟨p, List.replicate n true, rfl, sq_of (by rw [hp, List.map_replicate]), by
    have e : (List.replicate n true).all id = true := by simp
    rw [e]
    exact q H2 e2⟩
end
end Kc

namespace Kc
open PySem PySem.Spec PyProof.Rows L2 RZ Evl
section
variable {K : PySem.W.Frag} {H H' : Hp}
theorem trees_put : ∀ (ds : List PyData) (vs : List V) (L : List Addr) (i : Nat) (x : V), Trees K H vs ds L → vs[i]? = some x →
    ∃ (d : PyData) (Li : List Addr), ds[i]? = some d ∧ Tree K H x d Li ∧ (∀ a ∈ Li, a ∈ L) ∧ (L.Nodup → Li.Nodup) ∧ ∀ (H' : Hp) (d' : PyData), L.Nodup → ExL Li H H' → Tree K H' x d' Li → Trees K H' vs (ds.set i d') L
  | [], _, _, _, _, h, q => by cases h; simp at q
  | d :: ds, _, _, 0, x, h, q => by
    cases h with
    | @cons v vs _ _ L M hv ht =>
      simp at q
      subst q
      refine ⟨d, L, rfl, hv, fun a h => List.mem_append_left _ h, fun n => (List.nodup_append.mp n).1, fun H' d' n e t => ?_⟩
      refine .cons t (Trees.frame e (Tree.own _ _ _ hv) ds vs M ht fun a hm z => ?_)
      exact (List.nodup_append.mp n).2.2 a z a hm rfl
  | d :: ds, _, _, i + 1, x, h, q => by
    cases h with
    | @cons v vs _ _ L M hv ht =>
      obtain ⟨d2, Li, h1, h2, h3, h4, h5⟩ := trees_put ds vs M i x ht (by simpa using q)
      refine ⟨d2, Li, by simpa using h1, h2, fun a h => List.mem_append_right _ (h3 a h), fun n => h4 (List.nodup_append.mp n).2.1, fun H' d' n e t => ?_⟩
      refine .cons (Tree.frame e (Tree.own _ _ _ h2) d v L hv fun a hm z => ?_) (h5 H' d' (List.nodup_append.mp n).2.1 e t)
      exact (List.nodup_append.mp n).2.2 a hm a (h3 a z) rfl
def half : PyData → PyData
  | .list ds => .list (spoils ds)
  | .tuple ds => .tuple (spoils ds)
  | d => d
def part (ds : List PyData) (i : Nat) : List PyData := spoils (ds.take i) ++ ds.drop i
theorem spoils_snoc : ∀ (ds : List PyData) (d : PyData), spoils (ds ++ [d]) = spoils ds ++ [spoil d]
  | [], d => rfl
  | e :: ds, d => by
    show spoil e :: spoils (ds ++ [d]) = spoil e :: (spoils ds ++ [spoil d])
    rw [spoils_snoc ds d]
theorem part_at {ds : List PyData} {i : Nat} {d : PyData} (h : (part ds i)[i]? = some d) : ds[i]? = some d := by
  unfold part at h
  by_cases hi : i < ds.length
  · rw [List.getElem?_append_right (by rw [spoils_len, List.length_take]; omega), spoils_len, List.length_take, Nat.min_eq_left (by omega), Nat.sub_self, List.getElem?_drop] at h
    simpa using h
  · rw [List.drop_eq_nil_of_le (by omega), List.append_nil] at h
    have z := (List.getElem?_eq_some_iff.mp h).1
    rw [spoils_len, List.length_take] at z
    omega
theorem part_set {ds : List PyData} {i : Nat} {d : PyData} (h : ds[i]? = some d) : (part ds i).set i (spoil d) = part ds (i + 1) := by
  have hi := (List.getElem?_eq_some_iff.mp h).1
  unfold part
  have e1 : (spoils (ds.take i)).length = i := by rw [spoils_len, List.length_take]; omega
  rw [List.set_append_right _ _ (by omega), e1, Nat.sub_self, List.drop_eq_getElem_cons hi, List.set_cons_zero, List.take_add_one, h]
  show _ = spoils (ds.take i ++ [d]) ++ _
  rw [spoils_snoc, List.append_assoc]
  rfl
theorem part_0 (ds : List PyData) : part ds 0 = ds := by
  unfold part
  simp [spoils]
theorem part_all (ds : List PyData) : part ds ds.length = spoils ds := by
  unfold part
  simp
end
section
variable {K : PySem.W.Frag} {σ : L2.St} {H H' : Hp} {ta tb te : TE}
def Tw (K : PySem.W.Frag) (H0 : Hp) (ds : List PyData) (Dl : Addr) (i : Nat) (H' : Hp) : Prop :=
  H0 Dl = none ∧ Ex H0 H' ∧ ∃ us L, H' Dl = some (.lst us) ∧ Trees K H' us (ds.take i) L ∧ (Dl :: L).Nodup ∧ ∀ a ∈ L, H0 a = none
theorem lc_trees {a : Addr} {xs : List V} {ds : List PyData} {j : Nat} {vs : List Nat} (hz : SqL K H a xs ∨ SqT K H a xs) (hx : DpAll K H xs ds) (hn : xs.length ≤ 100000) (ha : Ev ta σ H (.ref a)) (hw : ∀ x, wipe ((wipe σ vs).set j (some x)) vs = wipe σ vs)
    (he : ∀ (i : Nat) (x : V) (d : PyData) (H1 : Hp), Ex H H1 → xs[i]? = some x → ds[i]? = some d → ∀ Q : VK, (∀ (u : V) (L : List Addr) (H2 : Hp), Ex H1 H2 → Tree K H2 u d L → L.Nodup → (∀ b ∈ L, H1 b = none) → Q u H2) → te ((wipe σ vs).set j (some x)) H1 Q)
    (Q : VK) (q : ∀ (Dl : Addr) (us : List V) (L : List Addr) (H2 : Hp), Ex H H2 → H Dl = none → H2 Dl = some (.lst us) → Trees K H2 us ds L → (Dl :: L).Nodup → (∀ b ∈ L, H b = none) → Q (.ref Dl) H2) :
    tLc (iSeq K ta) (gName j) tYes te vs σ H Q := by
  have turn : ∀ (H3 : Hp) (Dl : Addr) (i : Nat) (x : V) (H4 H5 : Hp), Ex H H3 → i < xs.length → Tw K H3 ds Dl i H4 → YAt xs i H4 x H5 → gName j x (wipe σ vs) H5 fun σ2 H6 => wipe σ2 vs = wipe σ vs ∧ tYes σ2 H6 fun b H7 =>
      if b = true then te σ2 H7 fun y H8 => ∃ acc, H8 Dl = some (.lst acc) ∧ acc.length < sizeLine ∧ Tw K H3 ds Dl (i + 1) (upd H8 Dl (.lst (acc ++ [y]))) else Tw K H3 ds Dl (i + 1) H7 := by
    rintro H3 Dl i x H4 H5 e3 hi ⟨p1, p2, us, L, p3, p4, p5, p6⟩ ⟨rfl, hx1⟩
    obtain ⟨d, hd, _⟩ := dpl_get hx hx1
    refine ⟨hw _, ?_⟩
    refine iteT (A := te ((wipe σ vs).set j (some x)) _ _) (B := Tw K H3 ds Dl (i + 1) H5) ?_
    refine he i x d _ (e3.trans p2) hx1 hd _ fun u L' H8 e8 t n f => ?_
    have h8 := e8 _ _ p3
    have nD : Dl ∉ L' := fun z => by
      have q := f _ z
      rw [p3] at q
      cases q
    have nLL : ∀ b ∈ L, b ∉ L' := fun b hb z => by
      have q := f _ z
      obtain ⟨zs, q2⟩ := Trees.own _ _ _ p4 b hb
      rw [q2] at q
      cases q
    have ea : ExL [Dl] H8 (upd H8 Dl (.lst (us ++ [u]))) := fun b o e n => by
      rw [upd_ne (fun z => n (by rw [z]; exact List.mem_singleton.mpr rfl))]
      exact e
    have own1 : ∀ b ∈ [Dl], ∃ zs, H8 b = some (.lst zs) := fun b hb => by
      rw [List.mem_singleton.mp hb]
      exact ⟨_, h8⟩
    refine ⟨us, h8, sz_lt ?_, p1, (p2.trans e8).mut p1, us ++ [u], L ++ L', upd_same, ?_, ?_, ?_⟩
    · rw [Trees.len p4, List.length_take]
      have := dpl_len hx
      omega
    · rw [List.take_add_one, hd]
      refine Trees.snoc (Trees.frame ea own1 _ _ _ (p4.ex e8) fun b hb z => ?_) (Tree.frame ea own1 _ _ _ t fun b hb z => ?_)
      · rw [List.mem_singleton.mp z] at hb
        exact (List.nodup_cons.mp p5).1 hb
      · rw [List.mem_singleton.mp z] at hb
        exact nD hb
    · rw [← List.cons_append, List.nodup_append]
      refine ⟨p5, n, fun b hb c hc z => ?_⟩
      subst z
      rcases List.mem_cons.mp hb with rfl | hb
      · exact nD hc
      · exact nLL b hb hc
    · intro b hb
      rcases List.mem_append.mp hb with hb | hb
      · exact p6 b hb
      · exact fresh_back p2 (f b hb)
  have z0 : ∀ (H3 : Hp) Dl, H3 Dl = none → Tw K H3 ds Dl 0 (upd H3 Dl (.lst [])) := fun H3 Dl hD => ⟨hD, Ex.new hD, [], [], upd_same, by simpa using Trees.nil, by simp, by simp⟩
  have fin : ∀ (H3 : Hp) (Dl : Addr) (H4 : Hp), Ex H H3 → Tw K H3 ds Dl xs.length H4 → Q (.ref Dl) H4 := fun H3 Dl H4 e3 ⟨p1, p2, us, L, p3, p4, p5, p6⟩ => by
    rw [dpl_len hx, List.take_length] at p4
    exact q Dl us L H4 (e3.trans p2) (fresh_back e3 p1) p3 p4 p5 fun b hb => fresh_back e3 (p6 b hb)
  rcases hz with hz | hz
  · exact .inl (ha H (Ex.refl H) _ fun H3 e3 => ⟨a, rfl, ⟨xs, ex_l e3 hz⟩, fun Dl hD => lc_it walk_list (Tw K H3 ds Dl) (z0 H3 Dl hD) (fun i H' _ p => ex_l (e3.trans p.2.1) hz) (fun i x H4 H5 hi p y => turn H3 Dl i x H4 H5 e3 hi p y) (fun H4 p => fin H3 Dl H4 e3 p)⟩)
  · exact .inr (ha H (Ex.refl H) _ fun H3 e3 => ⟨a, rfl, ⟨xs, ex_t e3 hz⟩, fun Dl hD => lc_it walk_tup (Tw K H3 ds Dl) (z0 H3 Dl hD) (fun i H' _ p => ex_t (e3.trans p.2.1) hz) (fun i x H4 H5 hi p y => turn H3 Dl i x H4 H5 e3 hi p y) (fun H4 p => fin H3 Dl H4 e3 p)⟩)
end
end Kc

namespace Kc
open PySem PySem.Spec PyProof.Rows L2 RZ LamX
abbrev lamQ (X : Cx) : Str := X.env.qual ++ "<lambda>"
def Gives2 (X : Cx) (k : Nat) (Ng : List Str) (x : Str) (sg : Scope) (g : Addr) (cdg : Value) (bg : List Stmt) (a1 a2 : Str) (TT : V → (Hp → VK → Prop) → (Hp → VK → Prop) → Hp → VK → Prop) : Prop :=
  ∀ (f1 c1 f2 c2 : Addr) (v : V) (s : Shared) (H : Hp) (Q : VK) (tl1 tl2 : Hp → VK → Prop),
    Room k (X.A.deeper (envOfC x sg s.heap.objs.size g cdg)) →
    (∀ (p1 p2 : Pos), PE (cxOf L2.CX0 X.prog X.w X.K X.mg X.base Ng x sg g cdg X.A X.stack s H L2.E0).nox (.Call (.Name a1 p1) [] [] p2) (fun σZ HZ Q => σZ[1]? = some (some (.ref f1)) ∧ HZ c1 = some (CodeO c1 (lamQ X)) ∧ tl1 HZ Q)) →
    (∀ (p1 p2 : Pos), PE (cxOf L2.CX0 X.prog X.w X.K X.mg X.base Ng x sg g cdg X.A X.stack s H L2.E0).nox (.Call (.Name a2 p1) [] [] p2) (fun σZ HZ Q => σZ[2]? = some (some (.ref f2)) ∧ HZ c2 = some (CodeO c2 (lamQ X)) ∧ tl2 HZ Q)) →
    H c1 = some (CodeO c1 (lamQ X)) → H c2 = some (CodeO c2 (lamQ X)) → TT v tl1 tl2 H Q →
    ∃ t, PSs (cxOf L2.CX0 X.prog X.w X.K X.mg X.base Ng x sg g cdg X.A X.stack s H L2.E0).nox bg t ∧ t { nx := fun _ H' => Q .non H', rt := Q } (L2.start Ng [v, .ref f1, .ref f2]) H
def tLam2 (T : List (Addr × Str)) (TT : V → (Hp → VK → Prop) → (Hp → VK → Prop) → Hp → VK → Prop) (te t1 t2 : TE) : TE := fun σ H Q => te σ H fun v H1 => Tabs T H1 ∧ ∀ H2, ExtN H1 H2 → Tabs T H2 → TT v (fun H' Q' => t1 σ H' Q') (fun H' Q' => t2 σ H' Q') H2 Q
section
variable {X : Cx}
theorem pe_lam2 {T : List (Addr × Str)} {TT : V → (Hp → VK → Prop) → (Hp → VK → Prop) → Hp → VK → Prop} {x a0 a1 a2 : Str} {g c P : Addr} {k : Nat} {pg : Arguments} {bg : List Stmt} {sg : Scope} {dV kV doc pm cdv ct oc : Value} {an od : Option Addr} {osl : Array (Option Value)} {Ng : List Str}
    {e : Expr} {te t1 t2 : TE} {params1 params2 : Arguments} {body1 body2 : Expr} {scope1 scope2 : Scope} {p lpos1 lpos2 pos : Pos} (hg : Gl X x) (hm : X.mg x = some (.ref g)) (hk : PySem.W.keepIn X.K (.ref g) = true)
    (lk : X.K.lookup g = some ⟨oc, od, .func (PySem.W.fnOf x x pg bg sg dV kV doc pm an cdv ct), osl⟩) (hcg : PySem.W.codeIn X.K cdv x = true) (hb : L2.Binds X.K (PySem.W.fnOf x x pg bg sg dV kV doc pm an cdv ct) [a0, a1, a2] []) (Sg : FnScope Ng [a0, a1, a2] sg)
    (hN1 : Ng[1]? = some a1) (hv1 : Vis sg a1) (hN2 : Ng[2]? = some a2) (hv2 : Vis sg a2)
    (hG : Gives2 X (k + 1) Ng x sg g cdv bg a1 a2 TT) (hst : X.stack = X.env :: X.outer) (hfr : X.env.frame = some X.env.locals)
    (TB : TabB X.base X.mg c P) (hcode : X.env.code = .ref c) (hmT : (P, lamQ X) ∈ T) (hu : ∀ p ∈ T, p.1 = P → p.2 = lamQ X) (hr : Room (k + 2) X.A) (L1 : LamS X.env.scope scope1) (L2' : LamS X.env.scope scope2)
    (hdef1 : defaultsOf params1 X.env = ([], [])) (hdef2 : defaultsOf params2 X.env = ([], []))
    (hbind1 : ∀ (q : Str) (cl : List (Str × Addr)) (pm cv ctv : Value), bindArgs (PySem.W.kla_fn "<lambda>" q params1 body1 scope1 cl pm cv ctv) ⟨[], []⟩ = pure [])
    (hbind2 : ∀ (q : Str) (cl : List (Str × Addr)) (pm cv ctv : Value), bindArgs (PySem.W.kla_fn "<lambda>" q params2 body2 scope2 cl pm cv ctv) ⟨[], []⟩ = pure [])
    (he : PE X e te)
    (hbody1 : ∀ (A : Around) (outer : List Env) (s : Shared) (H : Hp) (f c' : Addr), Room k (A.deeper (lamEnv X scope1 s.heap.objs.size f c')) → PE (lamCx X A outer s H L2.E0 scope1 f c') body1 t1)
    (hbody2 : ∀ (A : Around) (outer : List Env) (s : Shared) (H : Hp) (f c' : Addr), Room k (A.deeper (lamEnv X scope2 s.heap.objs.size f c')) → PE (lamCx X A outer s H L2.E0 scope2 f c') body2 t2)
    (hdb : (x == ("__debug__" : Str)) = false := by decide) (hd1 : (a1 == ("__debug__" : Str)) = false := by decide) (hcd1 : (a1 == ("__classdict__" : Str)) = false := by decide) (hd2 : (a2 == ("__debug__" : Str)) = false := by decide) (hcd2 : (a2 == ("__classdict__" : Str)) = false := by decide)
    (hse : starEach [e, .Lambda params1 body1 scope1 lpos1, .Lambda params2 body2 scope2 lpos2] X.env = (false, eval e X.env) :: starEach [.Lambda params1 body1 scope1 lpos1, .Lambda params2 body2 scope2 lpos2] X.env := by rfl)
    (hpl : (backTo pos (starEach [.Lambda params1 body1 scope1 lpos1, .Lambda params2 body2 scope2 lpos2] X.env)).any (·.1) = false := by rfl) :
    PE X (.Call (.Name x p) [e, .Lambda params1 body1 scope1 lpos1, .Lambda params2 body2 scope2 lpos2] [] pos) (tLam2 T TT te t1 t2) := by
  refine ⟨fun pins s σ H Q I h => ?_⟩
  refine wpAny_Call_Name_kw (ld_glob I hg hm ?_ hdb)
  refine PySem.W.callWith_K (h₀ := X.base) I.ok.mod.kin hk ?_ hse hpl
  rw [hse]
  show wpAny _ _ (spliced ((false, eval e X.env) :: (false, eval (.Lambda params1 body1 scope1 lpos1) X.env) :: (false, eval (.Lambda params2 body2 scope2 lpos2) X.env) :: [])) _ _ s
  refine Calls.spliced_cons (thn (he.run pins s σ H _ I h) fun u0 s0 ⟨v, H0, I0, r0, hT0, h⟩ => ?_)
  refine Calls.spliced_cons (lam_make2 I0 TB hcode hmT hu hT0 hdef1 (L1.has I0.ok) fun f1 c1 pm1 ctv1 H1 s1 I1 eN1 T1 hf1 hfn1 hfr1 hco1 => ?_)
  have frs_eq : frs X.stack = X.env.locals :: X.fs := by
    rw [hst]
    unfold frs
    rw [List.filterMap_cons, hfr]
    rfl
  have I1p : Inv X ((f1, PySem.W.kla_obj "<lambda>" (lamQ X) params1 body1 scope1 (cloFrom X.env.cells scope1.names []) pm1 c1 ctv1) :: pins) σ H1 s1 := I1.pins_of fun p hp => by
    rcases List.mem_cons.mp hp with rfl | hp
    · refine ⟨hf1, hfn1, fun z => hfr1 ?_, fun z => hfr1 ?_, fun v z => ?_⟩
      · have z : f1 = X.env.locals := z
        rw [frs_eq, z]
        exact List.mem_cons_self
      · rw [frs_eq]
        exact List.mem_cons_of_mem _ z
      · cases z
    · exact I1.pin p (List.mem_append_right _ hp)
  refine Calls.spliced_cons (lam_make2 I1p TB hcode hmT hu T1 hdef2 (L2'.has I1p.ok) fun f2 c2 pm2 ctv2 H2 s2 I2 eN2 T2 hf2 hfn2 hfr2 hco2 => ?_)
  obtain ⟨p1, p2, p3, p4, _⟩ := I2.pin (f1, PySem.W.kla_obj "<lambda>" (lamQ X) params1 body1 scope1 (cloFrom X.env.cells scope1.names []) pm1 c1 ctv1) (List.mem_append_right _ List.mem_cons_self)
  have hfr1' : f1 ∉ frs X.stack := hfr1
  have hc1 : H2 c1 = some (CodeO c1 (lamQ X)) := eN2 _ _ hco1 codeO_ne
  have I3 : Inv X pins σ H2 s2 := I2.pins_of fun p hp => I2.pin p (List.mem_append_right _ (List.mem_cons_of_mem _ hp))
  refine Calls.spliced_nil ⟨I3.kIn, ?_⟩
  have rc : codeAny (model X.prog X.w) X.A (.call (.ref g) ⟨[u0, .ref f1, .ref f2], []⟩) (CR L2.CX0 X.stack X.prog X.w H2 s2 Q L2.E0) s2 := by
    refine run_ofS (N := Ng) (ps := [a0, a1, a2]) (us := [u0, .ref f1, .ref f2]) (vs := [v, .ref f1, .ref f2]) lk hcg Sg hr I3.env0 ?_ (.cons r0 (.cons rfl (.cons rfl .nil))) rfl fun hr' => ?_
    · have z := hb s2 [u0, .ref f1, .ref f2] I3.kIn rfl
      rw [List.append_nil] at z
      exact z
    · obtain ⟨t', ht', hq'⟩ := hG f1 c1 f2 c2 v s2 H2 Q (fun H' Q' => t1 σ H' Q') (fun H' Q' => t2 σ H' Q') hr'
        (fun p1' p2' => pe_act (i := 1) (pn := []) (xe := fun _ _ => False) (W := fun _ _ _ _ => False) (E := L2.E0) I3 L1 p1 p2 hfr1' (hbind1 _ _ _ _ _) takes0 (fun _ _ _ _ z => z) hr' (fun A outer s H hr2 => hbody1 A outer s H f1 c1 hr2) hN1 hv1 hd1 hcd1)
        (fun p1' p2' => pe_act (i := 2) (pn := []) (xe := fun _ _ => False) (W := fun _ _ _ _ => False) (E := L2.E0) I3 L2' hf2 hfn2 hfr2 (hbind2 _ _ _ _ _) takes0 (fun _ _ _ _ z => z) hr' (fun A outer s H hr2 => hbody2 A outer s H f2 c2 hr2) hN2 hv2 hd2 hcd2)
        hc1 hco2 (h H2 (eN1.trans eN2) T2)
      exact ⟨t', ht'.nox, hq'⟩
  refine wpAny_call (codeAny_mono rc fun r s3 hq => ?_)
  cases r with
  | error e => exact (show False from hq).elim
  | ok fl =>
    cases fl with
    | ret u => exact I3.after hq
    | next => exact False.elim hq
    | brk => exact False.elim hq
    | cont => exact False.elim hq
end
def Makes (K : PySem.W.Frag) (tl : Hp → VK → Prop) (H : Hp) (d : PyData) : Prop := ∀ H1, Ex H H1 → ∀ Q : VK, (∀ (u : V) (L : List Addr) (H2 : Hp), Ex H1 H2 → Tree K H2 u d L → L.Nodup → (∀ b ∈ L, H1 b = none) → Q u H2) → tl H1 Q
def TTwice (K : PySem.W.Frag) (n : Nat) : V → (Hp → VK → Prop) → (Hp → VK → Prop) → Hp → VK → Prop := fun v tl1 tl2 H Q => ∃ d : PyData, Dp K H v d ∧ d.depth < n ∧ few d = true ∧ few (spoil d) = true ∧ Makes K tl1 H d ∧ Makes K tl2 H d ∧ ∀ H' : Hp, Ex H H' → Q (.bl true) H'
mutual
theorem spoil_depth : ∀ d : PyData, (spoil d).depth = d.depth
  | .none => rfl
  | .bool b => rfl
  | .int i => rfl
  | .str x => rfl
  | .dict k => rfl
  | .list ds => by
    simp only [spoil, PyData.depth]
    rw [spoils_depth ds]
  | .tuple ds => by
    simp only [spoil, PyData.depth]
    have h := spoils_depth ds
    rw [spoils_depthT ds]
theorem spoils_depth : ∀ ds : List PyData, PyData.depthAll (spoils ds ++ [.str "late"]) = PyData.depthAll ds
  | [] => by simp [spoils, PyData.depthAll, PyData.depth]
  | d :: ds => by
    simp only [spoils, List.cons_append, PyData.depthAll]
    rw [spoil_depth d, spoils_depth ds]
theorem spoils_depthT : ∀ ds : List PyData, PyData.depthAll (spoils ds) = PyData.depthAll ds
  | [] => rfl
  | d :: ds => by
    simp only [spoils, PyData.depthAll]
    rw [spoil_depth d, spoils_depthT ds]
end
end Kc

namespace Mk
open PySem SX
def low (c : Nat) : Bool := decide (97 ≤ c) && decide (c ≤ 122)
def up (c : Nat) : Bool := decide (65 ≤ c) && decide (c ≤ 90)
def fig (c : Nat) : Bool := decide (48 ≤ c) && decide (c ≤ 57)
def alnum (w : Bool) (c : Nat) : Bool := fig c || (w && (low c || up c))
def wordsS : List Str := ["module", "use", "data", "class", "under", "instance", "with", "fun", "let", "in", "case", "of", "if", "then", "else", "print", "int"]
def signsS : List Str := ["==", "->", "=", "(", ")", "{", "}", ",", ";", ":", ".", "|", "<", "+", "-", "*"]
def signOf (cs : List Nat) : Option Str := signsS.find? fun s => cs.take s.length == s.cps.toList
def markAt (c : Nat) (cs : List Nat) : Str × List Nat :=
  if low c || up c then
    let sign := (c :: cs).takeWhile (alnum true)
    if S sign ∈ wordsS then (S sign, sign) else (if sign.length ≤ 8 then (if low c then "small" else "great") else "wrong", sign)
  else if fig c then
    let sign := if c = 48 then [48] else (c :: cs).takeWhile (alnum false)
    (if sign.length ≤ 10 ∧ NumText.digitsVal sign ≤ 2147483647 then "number" else "wrong", sign)
  else match signOf (c :: cs) with
    | some s => (s, s.cps.toList)
    | none => ("wrong", [c])
def line (p : List Nat) : Nat := p.count 10 + 1
def col0 (p : List Nat) : Nat := (p.reverse.takeWhile (· != 10)).length
abbrev MkT := Str × List Nat × Nat × Nat
inductive Lex : List Nat → List Nat → List MkT → Prop
  | nil {p} : Lex p [] [("end", [], line p, col0 p + 1)]
  | nl {p r out} : Lex (p ++ [10]) r out → Lex p (10 :: r) out
  | sp {p r out} : Lex (p ++ [32]) r out → Lex p (32 :: r) out
  | rem {p a r out} : 10 ∉ a → (r = [] ∨ r.head? = some 10) → Lex (p ++ 35 :: a) r out → Lex p (35 :: (a ++ r)) out
  | mark {p c r s r' k out} : c ≠ 10 → c ≠ 32 → c ≠ 35 → markAt c r = (k, s) → c :: r = s ++ r' → s ≠ [] → Lex (p ++ s) r' out → Lex p (c :: r) ((k, s, line p, col0 p + 1) :: out)
theorem line_app (p q : List Nat) (h : 10 ∉ q) : line (p ++ q) = line p := by
  unfold line
  rw [List.count_append, List.count_eq_zero_of_not_mem h]
theorem line_nl (p : List Nat) : line (p ++ [10]) = line p + 1 := by
  unfold line
  rw [List.count_append]
  simp
theorem col0_app (p q : List Nat) (h : 10 ∉ q) : col0 (p ++ q) = col0 p + q.length := by
  unfold col0
  rw [List.reverse_append, List.takeWhile_append_of_pos (fun c hc => by
    have h1 : c ∈ q := List.mem_reverse.mp hc
    have h2 : c ≠ 10 := fun z => h (z ▸ h1)
    exact bne_iff_ne.mpr h2), List.length_append, List.length_reverse]
  omega
theorem col0_nl (p : List Nat) : col0 (p ++ [10]) = 0 := by
  unfold col0
  simp
theorem col0_le (p : List Nat) : col0 p ≤ p.length := by
  unfold col0
  have h := List.takeWhile_sublist (l := p.reverse) (· != 10)
  have h2 := h.length_le
  rw [List.length_reverse] at h2
  exact h2
def gaps : List (List Nat) := [[], [32], [10], [32, 32], [32, 35, 32, 110, 111, 32, 40, 119, 111, 114, 100, 115, 59, 32, 10], [10, 10, 32, 32, 32], [10, 32, 32], [10, 32, 32, 10]]
theorem lex_gap {g p r : List Nat} {out : List MkT} (hg : g ∈ gaps) (h : Lex (p ++ g) r out) : Lex p (g ++ r) out := by
  simp only [gaps, List.mem_cons, List.mem_nil_iff, or_false] at hg
  rcases hg with rfl | rfl | rfl | rfl | rfl | rfl | rfl | rfl
  · simpa using h
  · exact .sp h
  · exact .nl h
  · refine .sp (.sp ?_)
    simpa using h
  · refine .sp ?_
    show Lex _ (35 :: ([32, 110, 111, 32, 40, 119, 111, 114, 100, 115, 59, 32] ++ (10 :: r))) out
    refine .rem (by decide) (.inr rfl) (.nl ?_)
    simpa using h
  · refine .nl (.nl (.sp (.sp (.sp ?_))))
    simpa using h
  · refine .nl (.sp (.sp ?_))
    simpa using h
  · refine .nl (.sp (.sp (.nl ?_)))
    simpa using h
theorem lex_tail {t p : List Nat} (h : t ∈ gaps ∨ t = [32, 35, 32, 101, 110, 100]) : Lex p t [("end", [], line (p ++ t), col0 (p ++ t) + 1)] := by
  rcases h with h | rfl
  · have z := lex_gap (p := p) (r := []) h .nil
    simpa using z
  · refine .sp ?_
    show Lex _ (35 :: ([32, 101, 110, 100] ++ [])) _
    refine .rem (by decide) (.inl rfl) ?_
    have z := Lex.nil (p := p ++ [32, 35, 32, 101, 110, 100])
    simpa using z
def tights : List Nat := [40, 41, 123, 125, 44, 59, 58, 46, 124]
def tight (m : List Nat) : Bool := match m with
  | [c] => decide (c ∈ tights)
  | _ => false
def OkRest (m r : List Nat) : Prop := r = [] ∨ (∃ c t, r = c :: t ∧ (c = 32 ∨ c = 10 ∨ c ∈ tights)) ∨ tight m = true
structure Good (k : Str) (m : List Nat) : Prop where
  ex : ∃ c cs, m = c :: cs ∧ c ≠ 10 ∧ c ≠ 32 ∧ c ≠ 35 ∧ ∀ r, OkRest m r → markAt c (cs ++ r) = (k, m)
  nl : 10 ∉ m
  len : m.length ≤ 20
theorem lex_mark {k : Str} {m p r : List Nat} {out : List MkT} (g : Good k m) (hr : OkRest m r) (h : Lex (p ++ m) r out) : Lex p (m ++ r) ((k, m, line p, col0 p + 1) :: out) := by
  obtain ⟨c, cs, rfl, h1, h2, h3, h4⟩ := g.ex
  exact .mark h1 h2 h3 (h4 r hr) rfl (by simp) h
theorem tw_stop {p : Nat → Bool} {m r : List Nat} (hm : ∀ c ∈ m, p c = true) (hr : r = [] ∨ ∃ c t, r = c :: t ∧ p c = false) : (m ++ r).takeWhile p = m := by
  rw [List.takeWhile_append_of_pos hm]
  rcases hr with rfl | ⟨c, t, rfl, h⟩
  · simp
  · rw [List.takeWhile_cons, if_neg (by rw [h]; decide), List.append_nil]
theorem rest_stop {w : Bool} {m r : List Nat} (hm : tight m = false) (hr : OkRest m r) : r = [] ∨ ∃ c t, r = c :: t ∧ alnum w c = false := by
  rcases hr with h | ⟨c, t, h, hc⟩ | h
  · exact .inl h
  · refine .inr ⟨c, t, h, ?_⟩
    have h2 : c ∈ [32, 10, 40, 41, 123, 125, 44, 59, 58, 46, 124] := by
      rcases hc with rfl | rfl | hc
      · decide
      · decide
      · exact List.mem_cons_of_mem _ (List.mem_cons_of_mem _ hc)
    have all : ∀ c ∈ [32, 10, 40, 41, 123, 125, 44, 59, 58, 46, 124], ∀ w, alnum w c = false := by decide
    exact all c h2 w
  · rw [hm] at h
    cases h
def nameKind (m : List Nat) : Str := if S m ∈ wordsS then S m else if m.length ≤ 8 then (if low (m.headD 0) then "small" else "great") else "wrong"
theorem good_name {c : Nat} {cs : List Nat} (hc : (low c || up c) = true) (ha : ∀ d ∈ c :: cs, alnum true d = true) (ht : tight (c :: cs) = false) (hl : (c :: cs).length ≤ 20) : Good (nameKind (c :: cs)) (c :: cs) := by
  have nl : 10 ∉ c :: cs := fun z => by
    have := ha 10 z
    revert this
    decide
  refine ⟨⟨c, cs, rfl, ?_, ?_, ?_, fun r hr => ?_⟩, nl, hl⟩
  · rintro rfl; revert hc; decide
  · rintro rfl; revert hc; decide
  · rintro rfl; revert hc; decide
  · have tw : ((c :: cs) ++ r).takeWhile (alnum true) = c :: cs := tw_stop ha (rest_stop ht hr)
    have tw' : (c :: (cs ++ r)).takeWhile (alnum true) = c :: cs := tw
    unfold markAt
    rw [if_pos hc, tw']
    unfold nameKind
    show (if S (c :: cs) ∈ wordsS then _ else _) = _
    by_cases h : S (c :: cs) ∈ wordsS
    · rw [if_pos h, if_pos h]
    · rw [if_neg h, if_neg h]
      rfl
theorem good_num {c : Nat} {cs : List Nat} (ha : ∀ d ∈ c :: cs, fig d = true) (h0 : c = 48 → cs = []) (hl : (c :: cs).length ≤ 20) : Good (if (c :: cs).length ≤ 10 ∧ NumText.digitsVal (c :: cs) ≤ 2147483647 then "number" else "wrong") (c :: cs) := by
  have hc := ha c List.mem_cons_self
  have nl : 10 ∉ c :: cs := fun z => by
    have := ha 10 z
    revert this
    decide
  have rg : 48 ≤ c ∧ c ≤ 57 := by
    simp only [fig, Bool.and_eq_true, decide_eq_true_eq] at hc
    exact hc
  have ht : tight (c :: cs) = false := by
    cases cs with
    | nil =>
      have all : ∀ c, 48 ≤ c ∧ c ≤ 57 → decide (c ∈ tights) = false := fun c h => by
        have h2 : ∀ c ∈ tights, ¬ (48 ≤ c ∧ c ≤ 57) ∨ False := by
          intro c hc
          simp only [tights, List.mem_cons, List.mem_nil_iff, or_false] at hc
          left
          omega
        exact decide_eq_false fun z => (h2 c z).elim (fun q => q h) id
      exact all c rg
    | cons d ds => rfl
  refine ⟨⟨c, cs, rfl, by omega, by omega, by omega, fun r hr => ?_⟩, nl, hl⟩
  have na : (low c || up c) = false := by
    simp only [low, up, Bool.or_eq_false_iff, Bool.and_eq_false_iff, decide_eq_false_iff_not]
    exact ⟨.inl (by omega), .inl (by omega)⟩
  have tw : (c :: (cs ++ r)).takeWhile (alnum false) = c :: cs := tw_stop (m := c :: cs) (fun d hd => by
    have := ha d hd
    unfold alnum
    rw [this]
    rfl) (rest_stop ht hr)
  unfold markAt
  rw [if_neg (by rw [na]; decide), if_pos hc, tw]
  by_cases h : c = 48
  · have := h0 h
    subst this
    subst h
    rfl
  · rw [if_neg h]
theorem signOf_take (c : Nat) (r : List Nat) : signOf (c :: r) = signOf ((c :: r).take 2) := by
  unfold signOf
  have e : ∀ s ∈ signsS, ((c :: r).take s.length == s.cps.toList) = (((c :: r).take 2).take s.length == s.cps.toList) := fun s hs => by
    have h2 : ∀ s ∈ signsS, s.length ≤ 2 := by decide +kernel
    rw [List.take_take, Nat.min_eq_left (h2 s hs)]
  have gen : ∀ (l : List Str), (∀ s ∈ l, ((c :: r).take s.length == s.cps.toList) = (((c :: r).take 2).take s.length == s.cps.toList)) → l.find? (fun s => (c :: r).take s.length == s.cps.toList) = l.find? (fun s => ((c :: r).take 2).take s.length == s.cps.toList) := by
    intro l
    induction l with
    | nil => intro _; rfl
    | cons s l ih =>
      intro h
      rw [List.find?_cons, List.find?_cons, h s List.mem_cons_self, ih fun t ht => h t (List.mem_cons_of_mem _ ht)]
  exact gen _ e
def noAlnum (c : Nat) : Bool := !(low c || up c) && !fig c
theorem mark_sign {c : Nat} {r : List Nat} (h : noAlnum c = true) : markAt c r = match signOf (c :: r) with
    | some s => (s, s.cps.toList)
    | none => ("wrong", [c]) := by
  unfold noAlnum at h
  rw [Bool.and_eq_true, Bool.not_eq_true', Bool.not_eq_true'] at h
  unfold markAt
  rw [if_neg (by rw [h.1]; decide), if_neg (by rw [h.2]; decide)]
def nexts : List Nat := [32, 10, 40, 41, 123, 125, 44, 59, 58, 46, 124]
theorem rest_next {m r : List Nat} (hm : tight m = false) (hr : OkRest m r) : r = [] ∨ ∃ c t, r = c :: t ∧ c ∈ nexts := by
  rcases hr with h | ⟨c, t, h, hc⟩ | h
  · exact .inl h
  · refine .inr ⟨c, t, h, ?_⟩
    rcases hc with rfl | rfl | hc
    · decide
    · decide
    · exact List.mem_cons_of_mem _ (List.mem_cons_of_mem _ hc)
  · rw [hm] at h
    cases h
theorem good_one {k : Str} {c : Nat} (ht : tight [c] = false) (hs : noAlnum c = true) (h3 : c ≠ 10 ∧ c ≠ 32 ∧ c ≠ 35) (h1 : (match signOf [c] with | some s => (s, s.cps.toList) | none => ("wrong", [c])) = (k, [c]))
    (h2 : ∀ d ∈ nexts, (match signOf [c, d] with | some s => (s, s.cps.toList) | none => ("wrong", [c])) = (k, [c])) : Good k [c] := by
  refine ⟨⟨c, [], rfl, h3.1, h3.2.1, h3.2.2, fun r hr => ?_⟩, fun z => h3.1 (List.mem_singleton.mp z).symm, by simp⟩
  rw [mark_sign hs, signOf_take]
  rcases rest_next ht hr with rfl | ⟨d, t, rfl, hd⟩
  · exact h1
  · exact h2 d hd
theorem signOf_single {c : Nat} {r : List Nat} (h : c ∈ tights) : signOf (c :: r) = some (S [c]) := by
  rw [signOf_take]
  have one : ∀ c ∈ tights, signOf [c] = some (S [c]) := by decide +kernel
  cases r with
  | nil => exact one c h
  | cons d t =>
    show signOf [c, d] = _
    simp only [tights, List.mem_cons, List.mem_nil_iff, or_false] at h
    unfold signOf
    rcases h with rfl | rfl | rfl | rfl | rfl | rfl | rfl | rfl | rfl <;> rfl
theorem good_tight {c : Nat} (h : c ∈ tights) : Good (S [c]) [c] := by
  have a : ∀ c ∈ tights, noAlnum c = true ∧ c ≠ 10 ∧ c ≠ 32 ∧ c ≠ 35 := by decide
  obtain ⟨h0, h1, h2, h3⟩ := a c h
  refine ⟨⟨c, [], rfl, h1, h2, h3, fun r hr => ?_⟩, fun z => h1 (List.mem_singleton.mp z).symm, by simp⟩
  rw [mark_sign h0]
  show (match signOf (c :: ([] ++ r)) with | some s => (s, s.cps.toList) | none => ("wrong", [c])) = _
  rw [List.nil_append, signOf_single h]
theorem good_two {c d : Nat} (h : (c = 61 ∧ d = 61) ∨ (c = 45 ∧ d = 62)) : Good (S [c, d]) [c, d] := by
  have e : ∀ r, signOf (c :: d :: r) = some (S [c, d]) := fun r => by
    rw [signOf_take]
    rcases h with ⟨rfl, rfl⟩ | ⟨rfl, rfl⟩
    · show signOf [61, 61] = some (S [61, 61])
      decide +kernel
    · show signOf [45, 62] = some (S [45, 62])
      decide +kernel
  have h0 : noAlnum c = true := by rcases h with ⟨rfl, rfl⟩ | ⟨rfl, rfl⟩ <;> rfl
  refine ⟨⟨c, [d], rfl, by rcases h with ⟨rfl, rfl⟩ | ⟨rfl, rfl⟩ <;> decide, by rcases h with ⟨rfl, rfl⟩ | ⟨rfl, rfl⟩ <;> decide, by rcases h with ⟨rfl, rfl⟩ | ⟨rfl, rfl⟩ <;> decide, fun r hr => ?_⟩, by rcases h with ⟨rfl, rfl⟩ | ⟨rfl, rfl⟩ <;> decide, by simp⟩
  rw [mark_sign h0]
  show (match signOf (c :: d :: r) with | some s => (s, s.cps.toList) | none => ("wrong", [c])) = _
  rw [e r]
def chk (s k : Str) : Bool := match s.cps.toList with
  | [] => false
  | c :: cs =>
    if low c || up c then (c :: cs).all (alnum true) && !tight (c :: cs) && decide ((c :: cs).length ≤ 20) && decide (nameKind (c :: cs) = k)
    else if (c :: cs).all fig then (decide (c ≠ 48) || cs.isEmpty) && decide ((c :: cs).length ≤ 20) && decide ((if (c :: cs).length ≤ 10 ∧ NumText.digitsVal (c :: cs) ≤ 2147483647 then ("number" : Str) else "wrong") = k)
    else match cs with
      | [] => if c ∈ tights then decide (k = S [c]) else !tight [c] && noAlnum c && decide (c ≠ 10 ∧ c ≠ 32 ∧ c ≠ 35) && decide ((match signOf [c] with | some s => (s, s.cps.toList) | none => ("wrong", [c])) = (k, [c])) &&
          nexts.all fun d => decide ((match signOf [c, d] with | some s => (s, s.cps.toList) | none => ("wrong", [c])) = (k, [c]))
      | [d] => (decide (c = 61 ∧ d = 61) || decide (c = 45 ∧ d = 62)) && decide (k = S [c, d])
      | _ => false
theorem good_chk {s k : Str} (h : chk s k = true) : Good k s.cps.toList := by
  unfold chk at h
  split at h
  · cases h
  · rename_i c cs e
    rw [e]
    by_cases h1 : (low c || up c) = true
    · rw [if_pos h1] at h
      simp only [Bool.and_eq_true, decide_eq_true_eq, Bool.not_eq_true'] at h
      obtain ⟨⟨⟨a1, a2⟩, a3⟩, a4⟩ := h
      have z := good_name h1 (fun d hd => List.all_eq_true.mp a1 d hd) a2 a3
      rw [a4] at z
      exact z
    · rw [if_neg h1] at h
      by_cases h2 : (c :: cs).all fig = true
      · rw [if_pos h2] at h
        simp only [Bool.and_eq_true, Bool.or_eq_true, decide_eq_true_eq] at h
        obtain ⟨⟨a1, a2⟩, a3⟩ := h
        have z := good_num (fun d hd => List.all_eq_true.mp h2 d hd) (fun e => by
          rcases a1 with q | q
          · exact absurd e q
          · exact List.isEmpty_iff.mp q) a2
        rw [a3] at z
        exact z
      · rw [if_neg h2] at h
        split at h
        · by_cases h3 : c ∈ tights
          · rw [if_pos h3, decide_eq_true_eq] at h
            rw [h]
            exact good_tight h3
          · rw [if_neg h3] at h
            simp only [Bool.and_eq_true, decide_eq_true_eq, Bool.not_eq_true'] at h
            obtain ⟨⟨⟨⟨a1, a2⟩, a3⟩, a4⟩, a5⟩ := h
            exact good_one a1 a2 a3 a4 fun d hd => of_decide_eq_true (List.all_eq_true.mp a5 d hd)
        · simp only [Bool.and_eq_true, Bool.or_eq_true, decide_eq_true_eq] at h
          rw [h.2]
          exact good_two h.1
        · cases h
theorem numL_head {n : Nat} : ∀ {c : Nat} {cs : List Nat}, TL.numL n = c :: cs → c = 48 → cs = [] := by
  induction n using Nat.strongRecOn with
  | ind n ih =>
    intro c cs h hc
    by_cases h10 : n < 10
    · rw [TL.numL_lt h10] at h
      cases h
      rfl
    · rw [TL.numL_step (by omega)] at h
      cases e : TL.numL (n / 10) with
      | nil => exact absurd e (TL.numL_ne _)
      | cons d ds =>
        rw [e] at h
        have h1 : d = c := by
          have := (List.cons.inj h).1
          exact this
        have h2 := ih (n / 10) (by omega) e (h1.trans hc)
        subst h2
        have v := TL.numL_val (n / 10)
        rw [e, h1, hc] at v
        have v2 : (0 : Nat) = n / 10 := v
        omega
theorem good_numL {n : Nat} (h : n ≤ 2147483647) : Good "number" (TL.numL n) := by
  have hl : (TL.numL n).length ≤ 10 := TL.numL_len (by decide) (by omega)
  have hv := TL.numL_val n
  have hd := TL.numL_digits n
  cases e : TL.numL n with
  | nil => exact absurd e (TL.numL_ne _)
  | cons c cs =>
    rw [e] at hl hv hd
    have z := good_num (c := c) (cs := cs) (fun d hm => by
      have := hd d hm
      unfold fig
      rw [Bool.and_eq_true, decide_eq_true_eq, decide_eq_true_eq]
      exact this) (fun q => numL_head e q) (by omega)
    rw [if_pos ⟨hl, by rw [hv]; exact h⟩] at z
    exact z
def Front (T : List Nat) (outs : List MkT) (last : Option (List Nat)) : Prop := ∀ r out, (∀ m, last = some m → OkRest m r) → Lex T r out → Lex [] (T ++ r) (outs ++ out)
theorem front_nil : Front [] [] none := fun r out _ h => h
theorem gap_head {g : List Nat} (h : g ∈ gaps) (hn : g ≠ []) : ∃ c t, g = c :: t ∧ (c = 32 ∨ c = 10) := by
  simp only [gaps, List.mem_cons, List.mem_nil_iff, or_false] at h
  rcases h with rfl | rfl | rfl | rfl | rfl | rfl | rfl | rfl
  · exact absurd rfl hn
  all_goals first
    | exact ⟨32, _, rfl, .inl rfl⟩
    | exact ⟨10, _, rfl, .inr rfl⟩
theorem tight_head {m : List Nat} (h : tight m = true) : ∃ c, m = [c] ∧ c ∈ tights := by
  unfold tight at h
  split at h
  · exact ⟨_, rfl, of_decide_eq_true h⟩
  · cases h
theorem front_step {T g m : List Nat} {outs : List MkT} {last : Option (List Nat)} {k : Str} (f : Front T outs last) (hg : g ∈ gaps) (hm : Good k m) (h : g ≠ [] ∨ last = none ∨ (∃ l, last = some l ∧ tight l = true) ∨ tight m = true) :
    Front (T ++ g ++ m) (outs ++ [(k, m, line (T ++ g), col0 (T ++ g) + 1)]) (some m) := by
  intro r out ho hx
  have z1 := lex_mark hm (ho m rfl) hx
  have z2 := lex_gap hg z1
  have z3 := f (g ++ (m ++ r)) _ (fun l hl => ?_) z2
  · rw [List.append_assoc, List.append_assoc, List.append_assoc]
    exact z3
  · rcases h with h | h | ⟨l', h, ht⟩ | h
    · obtain ⟨c, t, e, hc⟩ := gap_head hg h
      refine .inr (.inl ⟨c, t ++ (m ++ r), by rw [e] <;> rfl, ?_⟩)
      rcases hc with rfl | rfl
      · exact .inl rfl
      · exact .inr (.inl rfl)
    · rw [h] at hl
      cases hl
    · rw [h] at hl
      cases hl
      exact .inr (.inr ht)
    · by_cases hn : g = []
      · obtain ⟨c, e, hc⟩ := tight_head h
        exact .inr (.inl ⟨c, r, by rw [hn, e] <;> rfl, .inr (.inr hc)⟩)
      · obtain ⟨c, t, e, hc⟩ := gap_head hg hn
        refine .inr (.inl ⟨c, t ++ (m ++ r), by rw [e] <;> rfl, ?_⟩)
        rcases hc with rfl | rfl
        · exact .inl rfl
        · exact .inr (.inl rfl)
theorem front_end {T t : List Nat} {outs : List MkT} {last : Option (List Nat)} (f : Front T outs last) (h : t ∈ gaps ∨ t = [32, 35, 32, 101, 110, 100]) : Lex [] (T ++ t) (outs ++ [((("end" : Str), [], line (T ++ t), col0 (T ++ t) + 1) : MkT)]) := by
  refine f t _ (fun m _ => ?_) (lex_tail h)
  rcases h with h | rfl
  · by_cases hn : t = []
    · exact .inl hn
    · obtain ⟨c, u, e, hc⟩ := gap_head h hn
      refine .inr (.inl ⟨c, u, e, ?_⟩)
      rcases hc with rfl | rfl
      · exact .inl rfl
      · exact .inr (.inl rfl)
  · exact .inr (.inl ⟨32, _, rfl, .inl rfl⟩)
end Mk

namespace Mk
open PySem SX PySem.StrLaws PyProof.Rows
theorem cnt_count (c : Nat) : ∀ p : List Nat, PyProof.Rows.cnt c p = ((p.count c : Nat) : Int)
  | [] => rfl
  | n :: p => by
    rw [cnt_cons, cnt_count c p, List.count_cons]
    by_cases h : n = c
    · rw [if_pos h, if_pos (beq_iff_eq.mpr h)]
      omega
    · rw [if_neg h, if_neg (by simpa using h)]
      omega
theorem count_nl (p : List Nat) : Txt.count (S p) ⟨#[10]⟩ = ((p.count 10 : Nat) : Int) := by
  have e : Txt.count (S p) ⟨#[10]⟩ = PyProof.Rows.cnt 10 p := count_is (S p) 10
  rw [e, cnt_count]
theorem rfind_nl (p : List Nat) : Txt.rfind (S p) ⟨#[10]⟩ + 1 = ((p.length - col0 p : Nat) : Int) := by
  have at1 : ∀ i, At (S p) ⟨#[10]⟩ (S p).length i ↔ p[i]? = some 10 := fun i => subAt_one (S p) 10 i
  have key : ∀ (q : List Nat), (q.takeWhile (· != 10)).length = q.length ∧ 10 ∉ q ∨ q[(q.takeWhile (· != 10)).length]? = some 10 ∧ ∀ j, j < (q.takeWhile (· != 10)).length → q[j]? ≠ some 10 := by
    intro q
    induction q with
    | nil => left; simp
    | cons c q ih =>
      by_cases hc : c = 10
      · subst hc
        right
        simp
      · have e : (c :: q).takeWhile (· != 10) = c :: q.takeWhile (· != 10) := by
          rw [List.takeWhile_cons, if_pos (bne_iff_ne.mpr hc)]
        rw [e]
        rcases ih with ⟨h1, h2⟩ | ⟨h1, h2⟩
        · left
          refine ⟨by simp [h1], ?_⟩
          intro h
          rcases List.mem_cons.mp h with h | h
          · exact hc h.symm
          · exact h2 h
        · right
          refine ⟨by simpa using h1, fun j hj => ?_⟩
          cases j with
          | zero => simpa using hc
          | succ j => simpa using h2 j (by simpa using hj)
  have hle := col0_le p
  unfold Txt.rfind
  rcases last_spec (S p) ⟨#[10]⟩ with ⟨e, hn⟩ | ⟨i, e, hi, hn⟩
  · rw [e]
    have no : 10 ∉ p := fun h => by
      obtain ⟨i, hi⟩ := List.mem_iff_getElem?.mp h
      exact hn i ((at1 i).mpr hi)
    have c0 : col0 p = p.length := by
      unfold col0
      rcases key p.reverse with ⟨h1, _⟩ | ⟨h1, _⟩
      · rw [h1, List.length_reverse]
      · exact absurd (List.mem_reverse.mp (List.mem_of_getElem? h1)) no
    rw [c0]
    simp
  · rw [e]
    have hi' := (at1 i).mp hi
    have hlt := (List.getElem?_eq_some_iff.mp hi').1
    have c0 : col0 p = p.length - 1 - i := by
      unfold col0
      rcases key p.reverse with ⟨_, h2⟩ | ⟨h1, h2⟩
      · exact absurd (List.mem_reverse.mpr (List.mem_of_getElem? hi')) h2
      · have hk := (List.getElem?_eq_some_iff.mp h1).1
        rw [List.length_reverse] at hk
        rw [List.getElem?_reverse (by simpa using hk)] at h1
        generalize (p.reverse.takeWhile (· != 10)).length = k at h1 h2 hk
        have g1 : ¬ i < p.length - 1 - k := fun z => hn _ z ((at1 _).mpr h1)
        have g2 : ¬ p.length - 1 - i < k := fun z => h2 _ z (by
          rw [List.getElem?_reverse (by omega), show p.length - 1 - (p.length - 1 - i) = i by omega]
          exact hi')
        omega
    rw [c0]
    show ((i : Nat) : Int) + 1 = _
    omega
theorem range_in {l : List Nat} {a n : Nat} (h : l = List.range' a n) (c : Nat) : decide (c ∈ l) = (decide (a ≤ c) && decide (c < a + n)) := by
  subst h
  by_cases h1 : c ∈ List.range' a n
  · rw [decide_eq_true h1]
    have := List.mem_range'_1.mp h1
    rw [decide_eq_true this.1, decide_eq_true this.2] <;> rfl
  · rw [decide_eq_false h1]
    symm
    rw [Bool.and_eq_false_iff]
    by_cases h2 : a ≤ c
    · right
      exact decide_eq_false fun h3 => h1 (List.mem_range'_1.mpr ⟨h2, h3⟩)
    · left
      exact decide_eq_false h2
theorem lt_le (c n : Nat) : decide (c < n + 1) = decide (c ≤ n) := by
  by_cases h : c ≤ n
  · rw [decide_eq_true h, decide_eq_true (by omega)]
  · rw [decide_eq_false h, decide_eq_false (by omega)]
theorem letters_in (c : Nat) : decide (c ∈ ("abcdefghijklmnopqrstuvwxyz" : Str).cps.toList) = low c := by
  rw [range_in (a := 97) (n := 26) (by decide +kernel), lt_le c 122]
  rfl
theorem greats_in (c : Nat) : decide (c ∈ ("ABCDEFGHIJKLMNOPQRSTUVWXYZ" : Str).cps.toList) = up c := by
  rw [range_in (a := 65) (n := 26) (by decide +kernel), lt_le c 90]
  rfl
theorem figures_in (c : Nat) : decide (c ∈ ("0123456789" : Str).cps.toList) = fig c := by
  rw [range_in (a := 48) (n := 10) (by decide +kernel), lt_le c 57]
  rfl
theorem slice_cut {a : List Nat} {i j : Nat} (h : i ≤ j) (hi : i ≤ a.length) : Txt.slice (S a) (some (i : Int)) (some (j : Int)) = S ((a.drop i).take (j - i)) := by
  by_cases hj : j ≤ a.length
  · have e := beq_iff_eq.mp (slice_closesL (x := S a) (i := (i : Int)) (j := (j : Int)) (by omega) (by omega) (by rw [S_len]; omega))
    refine e.trans (TL.ext_tl ?_)
    show (a.drop (i : Int).toNat).take ((j : Int) - (i : Int)).toNat = (a.drop i).take (j - i)
    rw [Int.toNat_natCast, show ((j : Int) - (i : Int)).toNat = j - i by omega]
  · have e2 : Txt.slice (S a) (some (i : Int)) (some (j : Int)) = Txt.slice (S a) (some (i : Int)) (some (a.length : Int)) := by
      unfold Txt.slice
      rw [S_len, SX.idx_hi (by omega)]
    have e := beq_iff_eq.mp (slice_closesL (x := S a) (i := (i : Int)) (j := (a.length : Int)) (by omega) (by omega) (by rw [S_len]; omega))
    refine (e2.trans e).trans (TL.ext_tl ?_)
    show (a.drop (i : Int).toNat).take ((a.length : Int) - (i : Int)).toNat = (a.drop i).take (j - i)
    rw [Int.toNat_natCast, List.take_of_length_le (by rw [List.length_drop]; omega), List.take_of_length_le (by rw [List.length_drop]; omega)]
end Mk
namespace Kc
open PySem PySem.Spec PyProof.Rows L2 RZ Evl
section
variable {K : PySem.W.Frag} {σ : L2.St} {H H' : Hp} {ta tb te tx : TE}
theorem ev_sign {cs : List Nat} {i : Nat} {c : Nat} (h1 : Ev ta σ H (.str (SX.S cs))) (h2 : Ev tb σ H (.int (i : Nat))) (hz : cs.length ≤ 10000000) (hc : cs[i]? = some c) : Ev (tOp (rIx K) ta tb) σ H (.str (SX.S [c])) :=
  ev_op h1 h2 fun H1 _ _ q => ix_s (by rw [SX.S_len]; exact Nat.le_trans hz (by decide)) (atI_nat hc) (q H1 (Ex.refl H1))
theorem ev_inS {c : Nat} {z : Str} (h1 : Ev ta σ H (.str (SX.S [c]))) (h2 : Ev tb σ H (.str z)) : Ev (tOp (rInX K) ta tb) σ H (.bl (decide (c ∈ z.cps.toList))) :=
  ev_op h1 h2 fun H1 _ _ q => inX_sign (q H1 (Ex.refl H1))
theorem ev_low {c : Nat} (h1 : Ev ta σ H (.str (SX.S [c]))) : Ev (tOp (rInX K) ta (tC (.str "abcdefghijklmnopqrstuvwxyz"))) σ H (.bl (Mk.low c)) := ev_is (ev_inS h1 ev_c) (by rw [Mk.letters_in])
theorem ev_up {c : Nat} (h1 : Ev ta σ H (.str (SX.S [c]))) : Ev (tOp (rInX K) ta (tC (.str "ABCDEFGHIJKLMNOPQRSTUVWXYZ"))) σ H (.bl (Mk.up c)) := ev_is (ev_inS h1 ev_c) (by rw [Mk.greats_in])
theorem ev_fig {c : Nat} (h1 : Ev ta σ H (.str (SX.S [c]))) : Ev (tOp (rInX K) ta (tC (.str "0123456789"))) σ H (.bl (Mk.fig c)) := ev_is (ev_inS h1 ev_c) (by rw [Mk.figures_in])
theorem ev_lenS {cs : List Nat} (h : Ev te σ H (.str (SX.S cs))) (hz : cs.length ≤ 10000000) : Ev (tCB (rLenX K) (tCons te tNil)) σ H (.int (cs.length : Nat)) := fun H1 a _ q =>
  h H1 a _ fun H2 e2 => ⟨_, cs.length, rfl, ⟨by rw [SX.S_len]; exact Nat.le_trans hz (by decide), (SX.S_len cs).symm⟩, q H2 e2⟩
theorem ev_ltI {a b : Int} (h1 : Ev ta σ H (.int a)) (h2 : Ev tb σ H (.int b)) : Ev (tOp (rI0 fun i j => .bl (decide (i < j))) ta tb) σ H (.bl (decide (a < b))) := ev_op h1 h2 fun H1 _ _ q => ⟨a, b, rfl, rfl, q H1 (Ex.refl H1)⟩
theorem ev_leI {a b : Int} (h1 : Ev ta σ H (.int a)) (h2 : Ev tb σ H (.int b)) : Ev (tOp (rI0 fun i j => .bl (decide (i ≤ j))) ta tb) σ H (.bl (decide (a ≤ b))) := ev_op h1 h2 fun H1 _ _ q => ⟨a, b, rfl, rfl, q H1 (Ex.refl H1)⟩
theorem ev_gtI {a b : Int} (h1 : Ev ta σ H (.int a)) (h2 : Ev tb σ H (.int b)) : Ev (tOp (rI0 fun i j => .bl (decide (j < i))) ta tb) σ H (.bl (decide (b < a))) := ev_op h1 h2 fun H1 _ _ q => ⟨a, b, rfl, rfl, q H1 (Ex.refl H1)⟩
theorem ev_geI {a b : Int} (h1 : Ev ta σ H (.int a)) (h2 : Ev tb σ H (.int b)) : Ev (tOp (rI0 fun i j => .bl (decide (j ≤ i))) ta tb) σ H (.bl (decide (b ≤ a))) := ev_op h1 h2 fun H1 _ _ q => ⟨a, b, rfl, rfl, q H1 (Ex.refl H1)⟩
theorem ev_subI {a b : Int} (h1 : Ev ta σ H (.int a)) (h2 : Ev tb σ H (.int b)) : Ev (tOp (rI0 fun i j => .int (i - j)) ta tb) σ H (.int (a - b)) := ev_op h1 h2 fun H1 _ _ q => ⟨a, b, rfl, rfl, q H1 (Ex.refl H1)⟩
theorem ev_cut {cs : List Nat} {i j : Nat} {tl th : TE} (h : Ev te σ H (.str (SX.S cs))) (h1 : Ev tl σ H (.int (i : Nat))) (h2 : Ev th σ H (.int (j : Nat))) (hz : cs.length ≤ 10000000) (hij : i ≤ j) (hi : i ≤ cs.length) :
    Ev (tSl (rSlX K) te (tPart tl) (tPart th)) σ H (.str (SX.S ((cs.drop i).take (j - i)))) := fun H1 a Q q =>
  h H1 a _ fun H2 e2 => h1 H2 (a.trans e2) _ fun H3 e3 => ⟨(i : Nat), rfl, h2 H3 ((a.trans e2).trans e3) _ fun H4 e4 => ⟨(j : Nat), rfl, .inr ⟨_, rfl, by rw [SX.S_len]; exact Nat.le_trans hz (by decide), by
    have e := Mk.slice_cut (a := cs) hij hi
    rw [e]
    exact q H4 ((e2.trans e3).trans e4)⟩⟩⟩
end
end Kc

namespace Mk
open PySem SX
theorem take_tw (p : Nat → Bool) : ∀ l : List Nat, l.take (l.takeWhile p).length = l.takeWhile p
  | [] => by simp
  | c :: l => by
    rw [List.takeWhile_cons]
    by_cases h : p c = true
    · rw [if_pos h, List.length_cons, List.take_succ_cons, take_tw p l]
    · rw [if_neg h]
      rfl
theorem tw_le (p : Nat → Bool) (l : List Nat) : (l.takeWhile p).length ≤ l.length := (List.takeWhile_sublist p).length_le
theorem S_eq (x : List Nat) (s : Str) : decide (S x = s) = (x == s.cps.toList) := by
  by_cases h : S x = s
  · rw [decide_eq_true h, ← h]
    exact (beq_iff_eq.mpr rfl).symm
  · rw [decide_eq_false h]
    symm
    rw [beq_eq_false_iff_ne]
    intro e
    exact h (by rw [e, S_tl])
theorem signs_len : ∀ s ∈ signsS, s.length ≤ 2 := by decide +kernel
theorem sign_some {cs : List Nat} {i : Nat} {s : Str} (h : signsS[i]? = some s) (ht : (cs.take s.length == s.cps.toList) = true) (hn : ∀ (j : Nat) (t : Str), j < i → signsS[j]? = some t → (cs.take t.length == t.cps.toList) = false) : signOf cs = some s := by
  unfold signOf
  rw [List.find?_eq_some_iff_append]
  refine ⟨ht, signsS.take i, signsS.drop (i + 1), ?_, fun a ha => ?_⟩
  · have := (List.getElem?_eq_some_iff.mp h)
    obtain ⟨hi, e⟩ := this
    rw [← e, ← List.drop_eq_getElem_cons hi, List.take_append_drop]
  · obtain ⟨j, hj⟩ := List.mem_iff_getElem?.mp ha
    rw [List.getElem?_take] at hj
    split at hj
    · rename_i hlt
      rw [hn j a hlt hj]
      rfl
    · cases hj
theorem sign_none {cs : List Nat} (hn : ∀ (j : Nat) (t : Str), signsS[j]? = some t → (cs.take t.length == t.cps.toList) = false) : signOf cs = none := by
  unfold signOf
  rw [List.find?_eq_none]
  intro s hs
  obtain ⟨j, hj⟩ := List.mem_iff_getElem?.mp hs
  rw [hn j s hj]
  decide
theorem lex_nl {p r : List Nat} {out : List MkT} (h : Lex p (10 :: r) out) : Lex (p ++ [10]) r out := by
  cases h with
  | nl h => exact h
  | mark h1 h2 h3 => exact absurd rfl h1
theorem lex_sp {p r : List Nat} {out : List MkT} (h : Lex p (32 :: r) out) : Lex (p ++ [32]) r out := by
  cases h with
  | sp h => exact h
  | mark h1 h2 h3 => exact absurd rfl h2
theorem lex_rem {p r : List Nat} {out : List MkT} (h : Lex p (35 :: r) out) : ∃ a r2, r = a ++ r2 ∧ 10 ∉ a ∧ (r2 = [] ∨ r2.head? = some 10) ∧ Lex (p ++ 35 :: a) r2 out := by
  generalize e : (35 :: r : List Nat) = z at h
  cases h with
  | nil => cases e
  | nl h => cases e
  | sp h => cases e
  | rem h1 h2 h3 =>
    cases e
    exact ⟨_, _, rfl, h1, h2, h3⟩
  | mark h1 h2 h3 =>
    cases e
    exact absurd rfl h3
theorem lex_mk {p r : List Nat} {out : List MkT} {c : Nat} (h : Lex p (c :: r) out) (h1 : c ≠ 10) (h2 : c ≠ 32) (h3 : c ≠ 35) : ∃ r2 out', c :: r = (markAt c r).2 ++ r2 ∧ (markAt c r).2 ≠ [] ∧ Lex (p ++ (markAt c r).2) r2 out' ∧ out = ((markAt c r).1, (markAt c r).2, line p, col0 p + 1) :: out' := by
  generalize e : (c :: r : List Nat) = z at h
  cases h with
  | nil => cases e
  | nl h => cases e; exact absurd rfl h1
  | sp h => cases e; exact absurd rfl h2
  | rem g1 g2 g3 => cases e; exact absurd rfl h3
  | mark g1 g2 g3 g4 g5 g6 g7 =>
    cases e
    rw [g4]
    exact ⟨_, _, g5, g6, g7, rfl⟩
theorem lex_end {p : List Nat} {out : List MkT} (h : Lex p [] out) : out = [(("end" : Str), [], line p, col0 p + 1)] := by
  cases h
  rfl
theorem mark_name {c : Nat} {cs : List Nat} (h : (low c || up c) = true) : markAt c cs = if S ((c :: cs).takeWhile (alnum true)) ∈ wordsS then (S ((c :: cs).takeWhile (alnum true)), (c :: cs).takeWhile (alnum true)) else (if ((c :: cs).takeWhile (alnum true)).length ≤ 8 then (if low c then "small" else "great") else "wrong", (c :: cs).takeWhile (alnum true)) := by
  unfold markAt
  rw [if_pos h]
theorem mark_num {c : Nat} {cs : List Nat} (h : (low c || up c) = false) (h2 : fig c = true) : markAt c cs = (if (if c = 48 then [48] else (c :: cs).takeWhile (alnum false)).length ≤ 10 ∧ NumText.digitsVal (if c = 48 then [48] else (c :: cs).takeWhile (alnum false)) ≤ 2147483647 then ("number" : Str) else "wrong", if c = 48 then [48] else (c :: cs).takeWhile (alnum false)) := by
  unfold markAt
  rw [if_neg (by rw [h]; decide), if_pos h2]
theorem mark_sgn {c : Nat} {cs : List Nat} (h : (low c || up c) = false) (h2 : fig c = false) : markAt c cs = match signOf (c :: cs) with | some s => (s, s.cps.toList) | none => ("wrong", [c]) := by
  unfold markAt
  exact (if_neg (by rw [h]; decide)).trans (if_neg (by rw [h2]; decide))
theorem tw_all (p : Nat → Bool) : ∀ l : List Nat, ∀ c ∈ l.takeWhile p, p c = true
  | [], c, h => by simp at h
  | d :: l, c, h => by
    rw [List.takeWhile_cons] at h
    by_cases hd : p d = true
    · rw [if_pos hd] at h
      rcases List.mem_cons.mp h with rfl | h
      · exact hd
      · exact tw_all p l c h
    · rw [if_neg hd] at h
      simp at h
theorem mark_nl {c : Nat} {cs : List Nat} (h : c ≠ 10) : 10 ∉ (markAt c cs).2 := by
  have tw : ∀ w (l : List Nat), 10 ∉ l.takeWhile (alnum w) := fun w l z => by
    have := tw_all _ _ _ z
    revert this
    cases w <;> decide
  by_cases h1 : (low c || up c) = true
  · rw [mark_name h1]
    split
    · exact tw _ _
    · exact tw _ _
  · have h1 : (low c || up c) = false := by simpa using h1
    by_cases h2 : fig c = true
    · rw [mark_num h1 h2]
      show 10 ∉ (if c = 48 then [48] else (c :: cs).takeWhile (alnum false))
      by_cases h0 : c = 48
      · rw [if_pos h0]
        decide
      · rw [if_neg h0]
        exact tw _ _
    · rw [mark_sgn h1 (by simpa using h2)]
      have all : ∀ s ∈ signsS, 10 ∉ s.cps.toList := by decide +kernel
      cases e : signOf (c :: cs) with
      | none => exact fun z => h (List.mem_singleton.mp z).symm
      | some s =>
        unfold signOf at e
        exact all s (List.mem_of_find?_eq_some e)
theorem num_digits {c : Nat} {cs : List Nat} (h : fig c = true) : (if c = 48 then [48] else (c :: cs).takeWhile (alnum false)).all (fun c => decide (48 ≤ c) && decide (c ≤ 57)) = true ∧ (if c = 48 then [48] else (c :: cs).takeWhile (alnum false)) ≠ [] := by
  by_cases h0 : c = 48
  · rw [if_pos h0]
    exact ⟨rfl, by simp⟩
  · rw [if_neg h0]
    refine ⟨List.all_eq_true.mpr fun d hd => ?_, ?_⟩
    · have z := tw_all _ _ d hd
      unfold alnum at z
      rw [Bool.false_and, Bool.or_false] at z
      exact z
    · rw [List.takeWhile_cons, if_pos (by unfold alnum; rw [h]; rfl)]
      simp
end Mk
namespace Kc
open PySem PySem.Spec PyProof.Rows L2 RZ Evl
def mkD (m : Mk.MkT) : PyData := .tuple [.str m.1, .str (SX.S m.2.1), .tuple [.int (m.2.2.1 : Nat), .int (m.2.2.2 : Nat)]]
theorem inV_str (s : Str) : ∀ ws : List Str, inV (.str s) (ws.map V.str) = decide (s ∈ ws)
  | [] => by simp [inV]
  | w :: ws => by
    have ih := inV_str s ws
    unfold inV at ih ⊢
    rw [List.map_cons, List.any_cons, ih]
    show (w == s || decide (s ∈ ws)) = _
    by_cases h : w = s
    · subst h
      simp
    · have h2 : ¬ s = w := fun z => h z.symm
      rw [show (w == s) = false from beq_eq_false_iff_ne.mpr h, Bool.false_or]
      by_cases h3 : s ∈ ws
      · rw [decide_eq_true h3, decide_eq_true (List.mem_cons_of_mem _ h3)]
      · rw [decide_eq_false h3, decide_eq_false (fun z => (List.mem_cons.mp z).elim h2 h3)]
theorem flat_strs (ws : List Str) : (ws.map V.str).all flatV = true := by
  induction ws with
  | nil => rfl
  | cons w ws ih =>
    rw [List.map_cons, List.all_cons, ih]
    rfl
section
variable {K : PySem.W.Frag} {σ : L2.St} {H H' : Hp} {ta tb te tx : TE} {tt : TT} {v : V}
theorem ev_inW {s : Str} {ws : List Str} {a : Addr} (h : Ev ta σ H (.str s)) (hw : ∀ H, SqT K H a (ws.map V.str)) : Ev (tOp (rInX K) ta (tC (.ref a))) σ H (.bl (decide (s ∈ ws))) :=
  ev_op h ev_c fun H1 _ _ q => inX_seq (.inr (hw H1)) rfl (flat_strs ws) (by rw [inV_str]; exact q H1 (Ex.refl H1))
theorem ev_neS {a b : Str} (h1 : Ev ta σ H (.str a)) (h2 : Ev tb σ H (.str b)) : Ev (tOp (rNeX K) ta tb) σ H (.bl (!decide (a = b))) := ev_op h1 h2 fun H1 _ _ q => neX_sc rfl (by
  have e : decide (V.str a = V.str b) = decide (a = b) := by
    by_cases h : a = b
    · rw [h, decide_eq_true rfl, decide_eq_true rfl]
    · rw [decide_eq_false h, decide_eq_false (fun z => h (by cases z; rfl))]
  rw [e]
  exact q H1 (Ex.refl H1))
theorem ev_calV {sp : Sp} {ts : TA} {vs : List V} (h : EvA ts σ H vs) (hs : ∀ H1, Ex H H1 → ∀ (Q : VK) E, (∀ H2, Ex H1 H2 → Q v H2) → sp vs H1 Q E) : Ev (tCal sp ts) σ H v := fun H1 a Q q =>
  h H1 a _ fun H2 e2 => hs H2 (a.trans e2) Q _ fun H3 e3 => q H3 (e2.trans e3)
theorem ev_iteS {b : Bool} {x y : Str} (h : EvT tt σ H b) (h1 : Ev ta σ H (.str x)) (h2 : Ev tb σ H (.str y)) : Ev (tIf tt ta tb) σ H (.str (if b = true then x else y)) :=
  ev_if h (fun z => ev_is h1 (by rw [if_pos z])) (fun z => ev_is h2 (by rw [if_neg (by rw [z]; decide)]))
theorem s_forST {tl : TE} {g : TG} {tu : TS} {D : Ends} {a : Addr} {xs : List V} (h : Ev tl σ H (.ref a)) (hx : SqT K H a xs) (Pv : Nat → L2.St → Hp → Prop) (h0 : ∀ H1, Ex H H1 → Pv 0 σ H1) (hl : ∀ i σ' H', i ≤ xs.length → Pv i σ' H' → SqT K H' a xs)
    (hs : ∀ i x σ' H', xs[i]? = some x → Pv i σ' H' → g x σ' H' fun σ2 H2 => tu { D with nx := Pv (i + 1), ct := Pv (i + 1), bk := D.nx } σ2 H2) (hd : ∀ σ' H', Pv xs.length σ' H' → D.nx σ' H') : tFor (iSeq K tl) g tu D σ H := Or.inr (s_forT h hx Pv h0 hl hs hd)
theorem s_forSL {tl : TE} {g : TG} {tu : TS} {D : Ends} {a : Addr} {xs : List V} (h : Ev tl σ H (.ref a)) (hx : SqL K H a xs) (Pv : Nat → L2.St → Hp → Prop) (h0 : ∀ H1, Ex H H1 → Pv 0 σ H1) (hl : ∀ i σ' H', i ≤ xs.length → Pv i σ' H' → SqL K H' a xs)
    (hs : ∀ i x σ' H', xs[i]? = some x → Pv i σ' H' → g x σ' H' fun σ2 H2 => tu { D with nx := Pv (i + 1), ct := Pv (i + 1), bk := D.nx } σ2 H2) (hd : ∀ σ' H', Pv xs.length σ' H' → D.nx σ' H') : tFor (iSeq K tl) g tu D σ H := Or.inl (s_forL h hx Pv h0 hl hs hd)
theorem tree_mk {p q : Addr} {m : Mk.MkT} (h1 : SqT K H p [.str m.1, .str (SX.S m.2.1), .ref q]) (h2 : SqT K H q [.int (m.2.2.1 : Nat), .int (m.2.2.2 : Nat)]) : Tree K H (.ref p) (mkD m) [] :=
  .tup h1 (.cons (L := []) (M := []) (.str _) (.cons (L := []) (M := []) (.str _) (.cons (L := []) (M := []) (.tup h2 (.cons (L := []) (M := []) (.int _) (.cons (L := []) (M := []) (.int _) .nil))) .nil)))
theorem ev_intS {a : List Nat} (h : Ev te σ H (.str (SX.S a))) (hd : a.all (fun c => decide (48 ≤ c) && decide (c ≤ 57)) = true) (hne : a ≠ []) (hl : a.length ≤ 640) : Ev (tCB rIntX (tCons te tNil)) σ H (.int ((NumText.digitsVal a : Nat) : Int)) := fun H1 e _ q =>
  h H1 e _ fun H2 e2 => intX_str (SX.int_S hd hne (by omega)) (by rw [SX.S_len]; exact hl) (q H2 e2)
end
end Kc

namespace Kc
open PySem PySem.Spec PyProof.Rows L2 RZ Evl
theorem exs_fresh {st L p : Addr} {H H' : Hp} {n : Nat} (e : ExS st L H H') (h : Strm H' st L n) (hp : H' p = none) : H p = none := by
  cases q : H p with
  | none => rfl
  | some o =>
    obtain ⟨h1, h2⟩ := h.new hp
    rw [e p o q h1 h2] at hp
    cases hp
theorem chk_pick {ws : List Str} {v : V} (f : Str → Str) (hv : v ∈ ws.map V.str) (h : ws.all (fun s => Mk.chk s (f s)) = true) : ∃ s ∈ ws, v = .str (SX.S s.cps.toList) ∧ Mk.Good (f s) s.cps.toList := by
  obtain ⟨s, hs, rfl⟩ := List.mem_map.mp hv
  exact ⟨s, hs, by rw [SX.S_tl], Mk.good_chk (List.all_eq_true.mp h s hs)⟩
end Kc

namespace Kc
open PySem PySem.Spec PyProof.Rows L2 RZ
structure Z3 (z TI TO i1 i2 i3 a b c : Addr) : Prop where
  S : ZipSep3 z TI TO i1 i2 i3 [i1, a] [i2, b] [i3, c]
  n1 : a ≠ i1
  n2 : b ≠ i2
  n3 : c ≠ i3
def Itz3 (K : PySem.W.Frag) (a b c : Addr) : It :=
  ⟨fun i H => ∃ (xs ys zs : List V) (x y z : V), SqL K H a xs ∧ SqL K H b ys ∧ SqL K H c zs ∧ xs[i]? = some x ∧ ys[i]? = some y ∧ zs[i]? = some z,
    fun i H v H' => ∃ T x y z, v = .ref T ∧ H T = none ∧ H' = upd H T (.tup [x, y, z]) ∧ (∀ xs, SqL K H a xs → xs[i]? = some x) ∧ (∀ ys, SqL K H b ys → ys[i]? = some y) ∧ ∀ zs, SqL K H c zs → zs[i]? = some z,
    fun i H => ∃ xs ys zs : List V, SqL K H a xs ∧ SqL K H b ys ∧ SqL K H c zs ∧ i ≤ xs.length ∧ i ≤ ys.length ∧ i ≤ zs.length ∧ (i = xs.length ∨ i = ys.length ∨ i = zs.length)⟩
theorem turn_zip3 {P : Program} {w : World} {K : PySem.W.Frag} {elts : List Expr} {kk : Nat} {tpos : Pos} {a b c z TI TO i1 i2 i3 : Addr} (D : Z3 z TI TO i1 i2 i3 a b c) :
    Turn P w K (.Tuple elts kk tpos) (Itz3 K a b c) [z, TI, TO, i1, i2, i3] z (fun i h => IsZip h z TI TO .none ∧ IsTupOf3 h TI (.ref i1) (.ref i2) (.ref i3) ∧ (∃ x y u, IsTupOf3 h TO x y u) ∧ h.IsListIter i1 a i ∧ h.IsListIter i2 b i ∧ h.IsListIter i3 c i) where
  mem := by simp
  obj := fun i h st d hd => by
    obtain ⟨hz, hTI, ⟨x, y, u, hTO⟩, ⟨o1, e1, _, d1⟩, ⟨o2, e2, _, d2⟩, ⟨o3, e3, _, d3⟩⟩ := st
    have e' : d = z ∨ d = TI ∨ d = TO ∨ d = i1 ∨ d = i2 ∨ d = i3 := by simpa using hd
    rcases e' with q | q | q | q | q | q
    · rw [q]; exact ⟨_, hz, fun v q => nomatch q⟩
    · rw [q]; exact ⟨_, hTI, fun v q => nomatch q⟩
    · rw [q]; exact ⟨_, hTO, fun v q => nomatch q⟩
    · rw [q]; exact ⟨o1, e1, fun v q => by rw [d1] at q; cases q⟩
    · rw [q]; exact ⟨o2, e2, fun v q => by rw [d2] at q; cases q⟩
    · rw [q]; exact ⟨o3, e3, fun v q => by rw [d3] at q; cases q⟩
  keep := fun i h h' st k => by
    obtain ⟨hz, hTI, ⟨x, y, u, hTO⟩, h1, h2, h3⟩ := st
    exact ⟨k z (by simp) _ hz, k TI (by simp) _ hTI, ⟨x, y, u, k TO (by simp) _ hTO⟩, h1.at fun o q => k i1 (by simp) o q, h2.at fun o q => k i2 (by simp) o q, h3.at fun o q => k i3 (by simp) o q⟩
  item := by
    intro X hP hw hK hc i pins s σ H E I hf st hg
    subst hP hw hK
    obtain ⟨hz, hTI, ⟨x0, y0, z0, hTO⟩, h1, h2, h3⟩ := st
    obtain ⟨xs, ys, zs, x, y, u, hqx, hqy, hqz, hx, hy, hu⟩ := hg
    obtain ⟨its, rv, p, _⟩ := I.list hqx
    obtain ⟨its2, rv2, p2, _⟩ := I.list hqy
    obtain ⟨its3, rv3, p3, _⟩ := I.list hqz
    obtain ⟨v1, hv1, ru1⟩ := rv.get hx
    obtain ⟨v2, hv2, ru2⟩ := rv2.get hy
    obtain ⟨v3, hv3, ru3⟩ := rv3.get hu
    have hzl : z < s.heap.objs.size := Heap.lt_size hz
    have hh : X.A.in1.handled = none := I.ok.hd hc
    have l1 := (List.getElem?_eq_some_iff.mp hv1).1
    have l2 := (List.getElem?_eq_some_iff.mp hv2).1
    have l3 := (List.getElem?_eq_some_iff.mp hv3).1
    refine wpAny_pyNext_zipD3_item D.S (Draws.list hh i1 a D.n1 its.toArray) (Draws.list hh i2 b D.n2 its2.toArray) (Draws.list hh i3 c D.n3 its3.toArray) hz hTI hTO ⟨h1, p.isList⟩ ⟨h2, p2.isList⟩ ⟨h3, p3.isList⟩ (by simpa using l1) (by simpa using l2) (by simpa using l3) fun y1 y2 y3 h' tk g1 g2 g3 z' TO' h1' h2' h3' hT hsz hk => ?_
    obtain rfl : v1 = y1 := by simpa [hv1] using g1
    obtain rfl : v2 = y2 := by simpa [hv2] using g2
    obtain rfl : v3 = y3 := by simpa [hv3] using g3
    refine ⟨_, rfl, wpAny_letOwnedTupleGo_zip (s := { s with heap := h', toks := tk }) z' fun h'' z'' sb => ?_⟩
    have hT2 : h''.get? s.heap.objs.size = some { cls := .type "tuple", data := .seq #[v1, v2, v3] } := (sb.2 _ (Nat.ne_of_gt hzl)).trans hT
    have new : ObjOk X.prog X.w (upd H s.heap.objs.size (.tup [x, y, u])) h'' s.heap.objs.size (.tup [x, y, u]) :=
      ⟨by show 3 ≤ sizeLine; decide, [v1, v2, v3], .cons ru1 (.cons ru2 (.cons ru3 .nil)), ⟨_, hT2, rfl, _, rfl⟩⟩
    have I1 : Inv X pins σ (upd H s.heap.objs.size (.tup [x, y, u])) { s with heap := h'', toks := tk } :=
      I.turnedNew (t' := tk) (ch := [z, TI, TO, i1, i2, i3]) (fun c o hb q => (sb.2 c (fun q' => hb (by simp [q']))).trans (hk c o (fun q' => hb (by simp [q'])) (fun q' => hb (by simp [q'])) (fun q' => hb (by simp [q'])) (fun q' => hb (by simp [q'])) (fun q' => hb (by simp [q'])) q)) hf (Nat.le_refl _) new
    refine ⟨.ref s.heap.objs.size, _, I1, rfl, ⟨_, x, y, u, rfl, I.hok.fresh (Nat.le_refl _), rfl, fun l hl => by rw [I.list_inj hl hqx]; exact hx, fun l hl => by rw [I.list_inj hl hqy]; exact hy, fun l hl => by rw [I.list_inj hl hqz]; exact hu⟩, ⟨z'', ?_, ⟨v1, v2, v3, ?_⟩, ?_, ?_, ?_⟩, fun d hcm => ?_⟩
    · exact (sb.2 _ D.S.TIz).trans (hk _ _ D.S.TIz D.S.TITO D.S.TIi1 D.S.TIi2 D.S.TIi3 hTI)
    · exact (sb.2 _ D.S.TOz).trans TO'
    · exact h1'.1.at fun o q => (sb.2 _ D.S.zi1.symm).trans q
    · exact h2'.1.at fun o q => (sb.2 _ D.S.zi2.symm).trans q
    · exact h3'.1.at fun o q => (sb.2 _ D.S.zi3.symm).trans q
    · have hlt : d < s.heap.objs.size := by
        have e' : d = z ∨ d = TI ∨ d = TO ∨ d = i1 ∨ d = i2 ∨ d = i3 := by simpa using hcm
        rcases e' with q | q | q | q | q | q
        · rw [q]; exact hzl
        · rw [q]; exact Heap.lt_size hTI
        · rw [q]; exact Heap.lt_size hTO
        · rw [q]; obtain ⟨_, e1, _⟩ := h1; exact Heap.lt_size e1
        · rw [q]; obtain ⟨_, e2, _⟩ := h2; exact Heap.lt_size e2
        · rw [q]; obtain ⟨_, e3, _⟩ := h3; exact Heap.lt_size e3
      rw [upd_ne (Nat.ne_of_lt hlt)]
      exact (hf d hcm).1
  done := by
    intro X hP hw hK hc i pins s σ H E I hf st hg
    subst hP hw hK
    obtain ⟨hz, hTI, ⟨x0, y0, z0, hTO⟩, h1, h2, h3⟩ := st
    obtain ⟨xs, ys, zs, hqx, hqy, hqz, q1, q2, q3, hend⟩ := hg
    obtain ⟨its, rv, p, _⟩ := I.list hqx
    obtain ⟨its2, rv2, p2, _⟩ := I.list hqy
    obtain ⟨its3, rv3, p3, _⟩ := I.list hqz
    have hh : X.A.in1.handled = none := I.ok.hd hc
    have l1 := rv.length
    have l2 := rv2.length
    have l3 := rv3.length
    exact wpAny_pyNext_zipD3_end D.S (Draws.list hh i1 a D.n1 its.toArray) (Draws.list hh i2 b D.n2 its2.toArray) (Draws.list hh i3 c D.n3 its3.toArray) hz hTI hTO ⟨h1, p.isList⟩ ⟨h2, p2.isList⟩ ⟨h3, p3.isList⟩ (by simp; omega) (by simp; omega) (by simp; omega) (by simp; omega) fun h' tk hk => ⟨rfl, I.turnedL (t' := tk) (ch := [z, TI, TO, i1, i2, i3]) (fun c o hb q =>
      hk c o (fun q' => hb (by simp [q'])) (fun q' => hb (by simp [q'])) (fun q' => hb (by simp [q'])) (fun q' => hb (by simp [q'])) (fun q' => hb (by simp [q'])) q) hf⟩
  self := fun A i s Q E st h => wpAny_pyIter_zip st.1 h
def iZip3 (K : PySem.W.Frag) (ta : TA) : TI := fun σ H R => ta σ H fun vs H1 => ∃ a b c xs ys zs, vs = [.ref a, .ref b, .ref c] ∧ SqL K H1 a xs ∧ SqL K H1 b ys ∧ SqL K H1 c zs ∧ R (Itz3 K a b c) H1
theorem pi_zip3 {X : Cx} {e e2 e3 : Expr} {ta : TA} {p pos tpos : Pos} {elts : List Expr} {kk : Nat} (hg : Gl X "zip") (hm : X.mg "zip" = none) (ha : PA X [e, e2, e3] ta)
    (hs : starEach [e, e2, e3] X.env = (false, eval e X.env) :: starEach [e2, e3] X.env := by rfl) (hpl : (backTo pos (starEach [e2, e3] X.env)).any (·.1) = false := by rfl) :
    PI X (.Tuple elts kk tpos) (.Call (.Name "zip" p) [e, e2, e3] [] pos) (iZip3 X.K ta) := by
  refine ⟨fun pins s σ H R I h => ?_⟩
  refine Call_ (ld_blt I hg hm PyProof.Rows.boot_zip (PyProof.Rows.callWith_type1 (thn (ha.run pos pins s σ H _ I h) fun us s1 ⟨vs, H1, I1, r1, q1⟩ => ?_) hs hpl))
  obtain ⟨a, b, c, xs, ys, zs, rfl, hqx, hqy, hqz, q⟩ := q1
  obtain ⟨u, us, rfl, r, r1⟩ : ∃ u us', us = u :: us' ∧ RelV (.ref a) u ∧ Vals [.ref b, .ref c] us' := by cases r1; exact ⟨_, _, rfl, ‹_›, ‹_›⟩
  obtain ⟨u2, us, rfl, r2, r1⟩ : ∃ u us', us = u :: us' ∧ RelV (.ref b) u ∧ Vals [.ref c] us' := by cases r1; exact ⟨_, _, rfl, ‹_›, ‹_›⟩
  obtain ⟨u3, us, rfl, r3, r1⟩ : ∃ u us', us = u :: us' ∧ RelV (.ref c) u ∧ Vals [] us' := by cases r1; exact ⟨_, _, rfl, ‹_›, ‹_›⟩
  cases r1
  cases r
  cases r2
  cases r3
  obtain ⟨its, rv, p1, _⟩ := I1.list hqx
  obtain ⟨its2, rv2, p2, _⟩ := I1.list hqy
  obtain ⟨its3, rv3, p3, _⟩ := I1.list hqz
  have fresh6 : ∀ c, c ∈ [s1.heap.objs.size + 5, s1.heap.objs.size + 3, s1.heap.objs.size + 4, s1.heap.objs.size, s1.heap.objs.size + 1, s1.heap.objs.size + 2] → FpOk X pins H1 c := fun c hcm => by
    have hle : s1.heap.objs.size ≤ c := by
      simp only [List.mem_cons, List.mem_nil_iff, or_false] at hcm
      rcases hcm with z | z | z | z | z | z <;> omega
    exact I1.fpOk hle (I1.hok.fresh hle)
  refine zip_begins3 (begins_list a its.toArray) (begins_list b its2.toArray) (begins_list c its3.toArray) p1.isList p2.isList p3.isList fun h' hz hTI hTO h1 h2 h3 hsz hk => wpAny_pyIter_zip hz ?_
  have I2 : Inv X pins σ H1 { s1 with heap := h' } := I1.kept (t' := s1.toks) hk
  have la : a < s1.heap.objs.size := p1.lt
  have lb : b < s1.heap.objs.size := p2.lt
  have lc : c < s1.heap.objs.size := p3.lt
  have S := zip_sep3 (N := s1.heap.objs.size) (fp1 := [a]) (fp2 := [b]) (fp3 := [c]) (fun d hd => by rw [List.mem_singleton.mp hd]; exact la) (fun d hd => by rw [List.mem_singleton.mp hd]; exact lb) (fun d hd => by rw [List.mem_singleton.mp hd]; exact lc)
  exact ⟨_, [s1.heap.objs.size + 5, s1.heap.objs.size + 3, s1.heap.objs.size + 4, s1.heap.objs.size, s1.heap.objs.size + 1, s1.heap.objs.size + 2], _, _, H1, rfl, I2, turn_zip3 ⟨S, Nat.ne_of_lt la, Nat.ne_of_lt (Nat.lt_of_lt_of_le lb (Nat.le_add_right _ 1)), Nat.ne_of_lt (Nat.lt_of_lt_of_le lc (Nat.le_add_right _ 2))⟩, ⟨hz, hTI, ⟨_, _, _, hTO⟩, ⟨_, h1, rfl, rfl⟩, ⟨_, h2, rfl, rfl⟩, ⟨_, h3, rfl, rfl⟩⟩, fresh6, q⟩
def YTri (xs ys zs : Nat → Option V) : Nat → Hp → V → Hp → Prop := fun i H v H' => ∃ T x y z, v = .ref T ∧ H T = none ∧ H' = upd H T (.tup [x, y, z]) ∧ xs i = some x ∧ ys i = some y ∧ zs i = some z
theorem walk_zip3 {K : PySem.W.Frag} {a b c : Addr} {xs ys zs : List V} {n : Nat} (h1 : n ≤ xs.length) (h2 : n ≤ ys.length) (h3 : n ≤ zs.length) (h : n = xs.length ∨ n = ys.length ∨ n = zs.length) :
    Walk (Itz3 K a b c) n (fun H => SqL K H a xs ∧ SqL K H b ys ∧ SqL K H c zs) (YTri (fun i => xs[i]?) (fun i => ys[i]?) (fun i => zs[i]?)) := by
  refine ⟨fun i _ hi q => ?_, fun _ q => ⟨xs, ys, zs, q.1, q.2.1, q.2.2, h1, h2, h3, h⟩, fun i H v H' _ q y => ?_⟩
  · exact ⟨xs, ys, zs, xs[i], ys[i], zs[i], q.1, q.2.1, q.2.2, List.getElem?_eq_getElem _, List.getElem?_eq_getElem _, List.getElem?_eq_getElem _⟩
  · obtain ⟨T, x, z, u, e1, e2, e3, e4, e5, e6⟩ := y
    exact ⟨T, x, z, u, e1, e2, e3, e4 xs q.1, e5 ys q.2.1, e6 zs q.2.2⟩
end Kc

namespace Mk
open PySem SX
def found (t s : Str) : Bool := !(Builtin.Str.occurrences t s 0 t.length 1).isEmpty
theorem found_chars {t s : Str} (h : found t s = true) : ∀ c ∈ s.cps.toList, c ∈ t.cps.toList := by
  obtain ⟨i, h1, h2⟩ := (StrLaws.found_iff t s).mp h
  rw [StrLaws.subAt_eq] at h2
  intro c hc
  rw [← beq_iff_eq.mp h2] at hc
  exact List.mem_of_mem_drop (List.mem_of_mem_take hc)
theorem tight_of {k : Str} {m : List Nat} (g : Good k m) (h : found "(){},;:.|" (S m) = true) : tight m = true := by
  obtain ⟨c, cs, rfl, h1, h2, h3, h4⟩ := g.ex
  have all : ∀ d ∈ ("(){},;:.|" : Str).cps.toList, d ∈ tights := by decide +kernel
  have hc : c ∈ tights := all c (found_chars h c (by show c ∈ c :: cs; exact List.mem_cons_self))
  have a : ∀ c ∈ tights, noAlnum c = true := by decide
  have e := h4 [] (.inl rfl)
  rw [mark_sign (a c hc), signOf_single hc] at e
  have e2 : [c] = c :: cs := congrArg Prod.snd e
  rw [← e2]
  unfold tight
  exact decide_eq_true hc
def mkm (p : Str × List Nat) (q : Nat × Nat) : MkT := (p.1, p.2, q.1, q.2)
theorem zip_snoc {mk : List (Str × List Nat)} {pos : List (Nat × Nat)} {i : Nat} {p : Str × List Nat} {q : Nat × Nat} (h : mk[i]? = some p) (hl : pos.length = i) : List.zipWith mkm (mk.take (i + 1)) (pos ++ [q]) = List.zipWith mkm (mk.take i) pos ++ [mkm p q] := by
  have hi := (List.getElem?_eq_some_iff.mp h).1
  rw [List.take_add_one, h]
  show List.zipWith mkm (mk.take i ++ [p]) (pos ++ [q]) = _
  rw [List.zipWith_append (by rw [List.length_take]; omega)]
  rfl
end Mk
namespace Kc
open PySem PySem.Spec PyProof.Rows L2 RZ Evl
def PlAt (H : Hp) : List V → List (Nat × Nat) → Prop
  | [], [] => True
  | v :: vs, q :: qs => (∃ a, v = .ref a ∧ H a = some (.tup [.int (q.1 : Nat), .int (q.2 : Nat)])) ∧ PlAt H vs qs
  | _, _ => False
theorem plAt_len {H : Hp} : ∀ {vs : List V} {qs : List (Nat × Nat)}, PlAt H vs qs → vs.length = qs.length
  | [], [], _ => rfl
  | _ :: vs, _ :: qs, h => by
    rw [List.length_cons, List.length_cons, plAt_len h.2]
  | [], _ :: _, h => h.elim
  | _ :: _, [], h => h.elim
def TupS (H H' : Hp) : Prop := ∀ a xs, H a = some (.tup xs) → H' a = some (.tup xs)
theorem plAt_mono {H H' : Hp} (e : TupS H H') : ∀ {vs : List V} {qs : List (Nat × Nat)}, PlAt H vs qs → PlAt H' vs qs
  | [], [], _ => trivial
  | _ :: vs, _ :: qs, h => by
    obtain ⟨⟨a, rfl, h1⟩, h2⟩ := h
    exact ⟨⟨a, rfl, e _ _ h1⟩, plAt_mono e h2⟩
  | [], _ :: _, h => h.elim
  | _ :: _, [], h => h.elim
theorem plAt_snoc {H : Hp} {a : Addr} {q : Nat × Nat} (ha : H a = some (.tup [.int (q.1 : Nat), .int (q.2 : Nat)])) : ∀ {vs : List V} {qs : List (Nat × Nat)}, PlAt H vs qs → PlAt H (vs ++ [.ref a]) (qs ++ [q])
  | [], [], _ => ⟨⟨a, rfl, ha⟩, trivial⟩
  | _ :: vs, _ :: qs, h => ⟨h.1, plAt_snoc ha h.2⟩
  | [], _ :: _, h => h.elim
  | _ :: _, [], h => h.elim
theorem plAt_get {H : Hp} : ∀ {vs : List V} {qs : List (Nat × Nat)} {i : Nat} {v : V}, PlAt H vs qs → vs[i]? = some v → ∃ q a, qs[i]? = some q ∧ v = .ref a ∧ H a = some (.tup [.int (q.1 : Nat), .int (q.2 : Nat)])
  | [], [], i, v, _, h => by simp at h
  | _ :: vs, q :: qs, 0, v, h, g => by
    obtain ⟨a, e, h1⟩ := h.1
    simp at g
    exact ⟨q, a, rfl, g.symm.trans e, h1⟩
  | _ :: vs, _ :: qs, i + 1, v, h, g => by
    obtain ⟨q, a, h1, h2⟩ := plAt_get h.2 (by simpa using g)
    exact ⟨q, a, by simpa using h1, h2⟩
  | [], _ :: _, _, _, h, _ => h.elim
  | _ :: _, [], _, _, h, _ => h.elim
theorem TupS.trans {H H1 H2 : Hp} (a : TupS H H1) (b : TupS H1 H2) : TupS H H2 := fun c xs h => b c xs (a c xs h)
theorem TupS.of {H H' : Hp} (e : Ex H H') : TupS H H' := fun a xs h => e _ _ h
theorem TupS.lst {H : Hp} {a : Addr} {xs : List V} {o : HO} (h : H a = some (.lst xs)) : TupS H (upd H a o) := fun c ys hc => by
  rw [upd_ne]
  · exact hc
  · intro e
    subst e
    rw [h] at hc
    cases hc
theorem TupS.exs {H H' : Hp} {st L : Addr} {n : Nat} (s : Strm H st L n) (e : ExS st L H H') : TupS H H' := fun a xs h => by
  obtain ⟨cells, c1, c2, c3, _, h1, h2, _⟩ := s.ex
  exact e a _ h (fun z => by subst z; rw [h1] at h; cases h) (fun z => by subst z; rw [h2] at h; cases h)
theorem ExS.mut {st L p : Addr} {H H' : Hp} {o : HO} (e : ExS st L H H') (h : H p = none) : ExS st L H (upd H' p o) := fun a u ha h1 h2 => by
  rw [upd_ne (fun z => by subst z; rw [h] at ha; cases ha)]
  exact e a u ha h1 h2
theorem Strm.put {st L p : Addr} {H : Hp} {n : Nat} {o : HO} (s : Strm H st L n) (h1 : p ≠ st) (h2 : p ≠ L) : Strm (upd H p o) st L n := by
  obtain ⟨cells, c1, c2, c3, a, b, c, d⟩ := s.ex
  exact ⟨s.ne, cells, c1, c2, c3, a, by rw [upd_ne h1.symm]; exact b, by rw [upd_ne h2.symm]; exact c, d⟩
section
variable {K : PySem.W.Frag} {σ : L2.St} {H H' : Hp} {ta tb te tx : TE} {tt : TT} {v : V}
abbrev tCount (K : PySem.W.Frag) (te : TE) : TE := tBM K "str" (fun x xs H Q => ∃ a b, x = .str a ∧ xs = [.str b] ∧ Q (.int (Txt.count a b)) H) te (tCons (tC (.str (SX.S [10]))) tNil)
abbrev tRfind (K : PySem.W.Frag) (te : TE) : TE := tBM K "str" (fun x xs H Q => ∃ a b, x = .str a ∧ xs = [.str b] ∧ Q (.int (Txt.rfind a b)) H) te (tCons (tC (.str (SX.S [10]))) tNil)
theorem ev_count {p : List Nat} (h : Ev te σ H (.str (SX.S p))) : Ev (tCount K te) σ H (.int ((p.count 10 : Nat) : Int)) := fun H1 e _ q =>
  h H1 e _ fun H2 e2 => ⟨rfl, _, _, rfl, rfl, by
    have e1 : Txt.count (SX.S p) (SX.S [10]) = ((p.count 10 : Nat) : Int) := Mk.count_nl p
    rw [e1]
    exact q H2 e2⟩
theorem ev_rfind {p : List Nat} (h : Ev te σ H (.str (SX.S p))) : Ev (tRfind K te) σ H (.int (Txt.rfind (SX.S p) ⟨#[10]⟩)) := fun H1 e _ q =>
  h H1 e _ fun H2 e2 => ⟨rfl, _, _, rfl, rfl, q H2 e2⟩
theorem ev_row {p : List Nat} (h : Ev te σ H (.str (SX.S p))) : Ev (tOp (rAddX K) (tCount K te) (tC (.int 1))) σ H (.int (Mk.line p : Nat)) := ev_is (ev_add (ev_count h) ev_c) (by
  show V.int (((p.count 10 : Nat) : Int) + 1) = V.int ((p.count 10 + 1 : Nat) : Int)
  rw [Int.natCast_add]
  rfl)
theorem ev_col {p : List Nat} (h : Ev te σ H (.str (SX.S p))) (hz : p.length ≤ 10000000) :
    Ev (tOp (rAddX K) (tOp (rI0 fun i j => .int (i - j)) (tCB (rLenX K) (tCons te tNil)) (tOp (rAddX K) (tRfind K te) (tC (.int 1)))) (tC (.int 1))) σ H (.int (Mk.col0 p + 1 : Nat)) := ev_is (ev_add (ev_subI (ev_lenS h hz) (ev_add (ev_rfind h) ev_c)) ev_c) (by
  rw [Mk.rfind_nl]
  have := Mk.col0_le p
  congr 1
  omega)
theorem ev_inF {s t : Str} (h1 : Ev ta σ H (.str s)) (h2 : Ev tb σ H (.str t)) : Ev (tOp (rInX K) ta tb) σ H (.bl (Mk.found t s)) := ev_op h1 h2 fun H1 _ _ q => inX_str (q H1 (Ex.refl H1))
theorem ev_ixL {a : Addr} {xs : List V} {i : Nat} (h1 : Ev ta σ H (.ref a)) (h2 : Ev tb σ H (.int (i : Nat))) (hs : H a = some (.lst xs)) (hx : xs[i]? = some v) : Ev (tOp (rIx K) ta tb) σ H v :=
  ev_op h1 h2 fun H1 e _ q => ix_l (sq_of (e _ _ hs)) (atI_nat hx) (q H1 (Ex.refl H1))
end
end Kc

namespace Kc
open PySem PySem.Spec PyProof.Rows L2 RZ LamX
structure CalK (P : Program) (w : World) (K : PySem.W.Frag) (mg : Str → Option Value) (base : Heap) (k : Nat) (x : Str) (ks : List Str) (sp : Sp) : Prop where
  ex : ∃ (f : Addr) (fd : FuncData) (g : List Value → List Value → List Value) (gV : List V → List V → List V), FnOk P w K mg base CX0 k f fd ks sp ∧ mg x = some (.ref f) ∧ PySem.W.keepIn K (.ref f) = true ∧ KBinds K fd ks ks g gV ∧ ∀ vs, gV [] vs = vs
section
variable {X : Cx} {k j : Nat} {x : Str} {ks : List Str} {sp : Sp} {p pos : Pos} {kws : List Keyword} {t : TA}
theorem pe_ck (c : CalK X.prog X.w X.K X.mg X.base k x ks sp) (hr : Room j X.A) (hk : k ≤ j) (hg : Gl X x) (hkw : PK X kws t)
    (hall : (backToKw pos (keywordEach kws X.env)).all (·.1.isSome) = true := by rfl) (hks : (backToKw pos (keywordEach kws X.env)).filterMap (·.1) = ks := by rfl)
    (hdb : (x == ("__debug__" : Str)) = false := by decide) (hpl : ((backTo pos (starEach [] X.env)).any (·.1) || (backToKw pos (keywordEach kws X.env)).any (·.1.isNone)) = false := by rfl) :
    PE X (.Call (.Name x p) [] kws pos) (tCal sp t) := by
  obtain ⟨f, fd, g, gV, F, hm, kp, b, hgV⟩ := c.ex
  refine ⟨fun pins s σ H Q I h => ?_⟩
  refine wpAny_Call_Name_kw (ld_glob I hg hm ?_ hdb)
  refine PySem.W.callWith_KW0 (h₀ := X.base) I.ok.mod.kin kp hall (thn (hkw.run pos pins s σ H _ I h) fun ws s2 ⟨zs, H2, I2, rz, q2⟩ => ⟨I2.kIn, ?_⟩) hpl
  rw [hks]
  exact run_fnk (E := E0) F (hr.mono hk) b pass0 I2 .nil rz (by rw [hgV]; exact q2)
end
def gK : List Value → List Value → List Value
  | [], ws => ws
  | _, _ => []
def gVK : List V → List V → List V
  | [], ws => ws
  | _, _ => []
theorem Cal.of {P : Program} {w : World} {K : PySem.W.Frag} {mg : Str → Option Value} {base : Heap} {k : Nat} {x : Str} {sp : Sp} {f : Addr} {fd : FuncData} {ps : List Str} (F : FnOk P w K mg base CX0 k f fd ps sp) (hm : mg x = some (.ref f)) (kp : PySem.W.keepIn K (.ref f) = true) (b : Binds K fd ps []) : Cal P w K mg base k x sp := ⟨f, fd, ps, F, hm, kp, b⟩
structure DfnK (K : PySem.W.Frag) (mg : Str → Option Value) (x : Str) (st : Stmt) (ps : List Str) : Prop where
  ex : ∃ (f : Addr) (fd : FuncData), L2.Fun K x x st f fd ∧ mg x = some (.ref f) ∧ Binds K fd ps [] ∧ ∀ (s : Shared) (ws : List Value), ws.length = ps.length → BindsTo s fd ⟨[], ps.zip ws⟩ (ps.zip ws)
theorem DfnK.cal {P : Program} {w : World} {K : PySem.W.Frag} {mg : Str → Option Value} {base : Heap} {x : Str} {st : Stmt} {ps N : List Str} {k : Nat} {sp : Sp} (D : DfnK K mg x st ps) (hne : ps ≠ []) (S : FnScope N ps (defScope st)) (len : ∀ vs H Q E, sp vs H Q E → vs.length = ps.length)
    (hbody : ∀ (f : Addr) (cdv : Value) (A : Around) (outer : List Env) (s : Shared) (H : Hp) (vs : List V) (Q : VK) (E : XK), Room k (A.deeper (envOfC x (defScope st) s.heap.objs.size f cdv)) → sp vs H Q E →
      ∃ t, PSs (cxOf CX0 P w K mg base N x (defScope st) f cdv A outer s H E).nox (defBody st) t ∧ t { nx := fun _ H' => Q .non H', rt := Q } (start N vs) H) : Cal P w K mg base (k + 1) x sp ∧ CalK P w K mg base (k + 1) x ps sp := by
  obtain ⟨f, fd, F, hm, b, kb⟩ := D.ex
  have FO := F.ok S len fun cdv A outer s H vs Q E hr h => hbody f cdv A outer s H vs Q E hr h
  refine ⟨⟨f, fd, ps, FO, hm, F.kp, b⟩, f, fd, gK, gVK, FO, hm, F.kp, ⟨fun s us ws X hl => ?_, fun {vs us zs ws} r rz => ?_⟩, fun _ => rfl⟩
  · cases us with
    | nil => exact kb s ws hl
    | cons u us =>
      have hl : 0 = ps.length := hl
      exact absurd (List.length_eq_zero_iff.mp hl.symm) hne
  · cases r with
    | nil => exact rz
    | cons _ _ => exact .nil
theorem pe_twice {X : Cx} {c P : Addr} {k n : Nat} {st : Stmt} {x a0 a1 a2 : Str} {Ng : List Str} {e : Expr} {te t1 t2 : TE} {params1 params2 : Arguments} {body1 body2 : Expr} {scope1 scope2 : Scope} {p lpos1 lpos2 pos : Pos}
    (D : Dfn X.K X.mg x st [a0, a1, a2]) (S : FnScope Ng [a0, a1, a2] (defScope st)) (hG : ∀ g cdg, Gives2 X (k + 1) Ng x (defScope st) g cdg (defBody st) a1 a2 (TTwice X.K n))
    (TB : TabB X.base X.mg c P) (hcode : X.env.code = .ref c) (hr : Room (k + 2) X.A) (hg : Gl X x) (he : PE X e te)
    (hbody1 : ∀ (A : Around) (outer : List Env) (s : Shared) (H : Hp) (f c' : Addr), Room k (A.deeper (lamEnv X scope1 s.heap.objs.size f c')) → PE (lamCx X A outer s H L2.E0 scope1 f c') body1 t1)
    (hbody2 : ∀ (A : Around) (outer : List Env) (s : Shared) (H : Hp) (f c' : Addr), Room k (A.deeper (lamEnv X scope2 s.heap.objs.size f c')) → PE (lamCx X A outer s H L2.E0 scope2 f c') body2 t2)
    (hst : X.stack = X.env :: X.outer := by rfl) (hfr : X.env.frame = some X.env.locals := by rfl) (L1 : lamSB X.env.scope scope1 = true := by rfl) (L2' : lamSB X.env.scope scope2 = true := by rfl)
    (hdef1 : defaultsOf params1 X.env = ([], []) := by rfl) (hdef2 : defaultsOf params2 X.env = ([], []) := by rfl)
    (hbind1 : ∀ (q : Str) (cl : List (Str × Addr)) (pm cv ctv : Value), bindArgs (PySem.W.kla_fn "<lambda>" q params1 body1 scope1 cl pm cv ctv) ⟨[], []⟩ = pure [] := by intros; rfl)
    (hbind2 : ∀ (q : Str) (cl : List (Str × Addr)) (pm cv ctv : Value), bindArgs (PySem.W.kla_fn "<lambda>" q params2 body2 scope2 cl pm cv ctv) ⟨[], []⟩ = pure [] := by intros; rfl)
    (hN1 : Ng[1]? = some a1 := by rfl) (hv1 : Vis (defScope st) a1 := by exact Or.inl rfl) (hN2 : Ng[2]? = some a2 := by rfl) (hv2 : Vis (defScope st) a2 := by exact Or.inl rfl)
    (hdb : (x == ("__debug__" : Str)) = false := by decide) (hd1 : (a1 == ("__debug__" : Str)) = false := by decide) (hcd1 : (a1 == ("__classdict__" : Str)) = false := by decide) (hd2 : (a2 == ("__debug__" : Str)) = false := by decide) (hcd2 : (a2 == ("__classdict__" : Str)) = false := by decide)
    (hse : starEach [e, .Lambda params1 body1 scope1 lpos1, .Lambda params2 body2 scope2 lpos2] X.env = (false, eval e X.env) :: starEach [.Lambda params1 body1 scope1 lpos1, .Lambda params2 body2 scope2 lpos2] X.env := by rfl)
    (hpl : (backTo pos (starEach [.Lambda params1 body1 scope1 lpos1, .Lambda params2 body2 scope2 lpos2] X.env)).any (·.1) = false := by rfl) :
    PE X (.Call (.Name x p) [e, .Lambda params1 body1 scope1 lpos1, .Lambda params2 body2 scope2 lpos2] [] pos) (tLam2 [(P, lamQ X)] (TTwice X.K n) te t1 t2) := by
  obtain ⟨g, fd, F, hm, b⟩ := D.ex
  obtain ⟨oc, od, kV, doc, pm, an, cdv, ct, osl, rfl, lk, hcd⟩ := F.ex
  exact pe_lam2 hg hm F.kp lk hcd b S hN1 hv1 hN2 hv2 (hG g cdv) hst hfr TB hcode (List.mem_singleton.mpr rfl) (fun q hq _ => by rw [List.mem_singleton.mp hq]) hr (lamS_by L1) (lamS_by L2') hdef1 hdef2 hbind1 hbind2 he hbody1 hbody2 hdb hd1 hcd1 hd2 hcd2 hse hpl
theorem fn_code {P : Program} {w : World} {K : PySem.W.Frag} {mg : Str → Option Value} {base : Heap} {x : Str} {st : Stmt} {f c : Addr} {N ps : List Str} {k : Nat} {sp : Sp} {oc kV doc pm ct : Value} {od an : Option Addr} {osl : Array (Option Value)}
    (lk : K.lookup f = some ⟨oc, od, .func (PySem.W.fnOf x x (defArgs st) (defBody st) (defScope st) .none kV doc pm an (.ref c) ct), osl⟩) (hcd : PySem.W.codeIn K (.ref c) x = true) (S : FnScope N ps (defScope st)) (len : ∀ vs H Q E, sp vs H Q E → vs.length = ps.length)
    (hbody : ∀ (A : Around) (outer : List Env) (s : Shared) (H : Hp) (vs : List V) (Q : VK) (E : XK), Room k (A.deeper (envOfC x (defScope st) s.heap.objs.size f (.ref c))) → sp vs H Q E →
      ∃ t, PSs (cxOf CX0 P w K mg base N x (defScope st) f (.ref c) A outer s H E).nox (defBody st) t ∧ t { nx := fun _ H' => Q .non H', rt := Q } (start N vs) H) : FnOk P w K mg base CX0 (k + 1) f (PySem.W.fnOf x x (defArgs st) (defBody st) (defScope st) .none kV doc pm an (.ref c) ct) ps sp := by
  refine fn_of lk hcd S len fun A outer s H vs Q E hr hsp => ?_
  obtain ⟨t, h, q⟩ := hbody A outer s H vs Q E hr hsp
  exact ⟨t, h.nox, q⟩
theorem walk_lam {l : PySem.W.OpenLaw} {n k : Nat} {q : Program} {loose : List Str} {XP : (Str → Option Value) → Heap → Prop} {YP : World → Heap → Prop} {d : DefRec} {K : Params → PySem.W.Frag} {CX : World → CXT} {x : Str}
    (hn : l.most = some n) (hn2 : n ≤ sizeLine) (hdf : d.params.defaults = []) (hr : Room k callerA) (hY : ∀ (w : World) (h : Heap), YP w h → (K w.params).In h)
    (F : ∀ (w : World) (mean : ExcName → Option Value) (mg mb : Str → Option Value) (fa : Addr) (h : Heap), YP w h → (K w.params).In h → Top q (PySem.W.looseW q loose) mean mg mb h → mg d.name = some (.ref fa) → LawAtS l w (K w.params) (CX w) k n x mg fa h)
    (hCX : ∀ (w : World) (H : Hp) (s : Shared) (e : Value) (s' : Shared), CX w [] H s (fun _ _ _ => False) e s' → False) :
    PySem.W.WalkO q loose XP YP l.row.toRowW d [] (fun f vs => PySem.call f vs) := by
  refine Att.attach_callB hn hdf fun w s₀ s₁ mg mb fa o pm cd doc a vs ns G Y ho hd hcd hmg hobj hints hlen hbits hg => ?_
  have KX := hY w _ Y
  obtain ⟨fd, cs, sp, hT, nT, C, hb, hsp, hF⟩ := F w _ mg mb fa _ Y KX G.T hmg
  exact law_callTs KX G.T.g G.T.b G.T.builtins G.T.nolimit hg hT nT C G.T.bmain hobj hints (Nat.le_trans hlen hn2) hr hF hb (fun H hH hS => hsp H a ns hlen hbits hH hS) fun H e s' => hCX w H s₁ e s'
theorem tabs_of {T : List (Addr × Str)} {H H' : Hp} (t : Tabs T H) (e : ∀ a o, H a = some o → (∀ xs, o ≠ .lst xs) → H' a = some o) : Tabs T H' := fun p hp => by
  obtain ⟨ps, h1, h2, h3⟩ := t p hp
  exact ⟨ps, e _ _ h1 (fun _ z => by cases z), h2, fun pos cv hc => by
    obtain ⟨c, e1, h4⟩ := h3 pos cv hc
    exact ⟨c, e1, e _ _ h4 (fun _ z => by cases z)⟩⟩
theorem tabs_exs {T : List (Addr × Str)} {H H' : Hp} {st L : Addr} {n : Nat} (t : Tabs T H) (s : Strm H st L n) (e : ExS st L H H') : Tabs T H' := tabs_of t fun a o h no => by
  obtain ⟨cells, c1, c2, c3, _, h1, h2, _⟩ := s.ex
  exact e a o h (fun z => by subst z; rw [h1] at h; exact no _ (Option.some.inj h).symm) (fun z => by subst z; rw [h2] at h; exact no _ (Option.some.inj h).symm)
theorem strm_extN {H H' : Hp} {st L : Addr} {n : Nat} (h : Strm H st L n) (e : ExtN H H') : Strm H' st L n := by
  obtain ⟨cells, c1, c2, c3, a, b, c, d⟩ := h.ex
  exact ⟨h.ne, cells, c1, c2, c3, a, e _ _ b (fun _ z => by cases z), e _ _ c (fun _ z => by cases z), d⟩
end Kc

namespace Kc
open PySem PySem.Spec PyProof.Rows L2 RZ LamX
theorem sqL_extN {K : PySem.W.Frag} {H H' : Hp} {a : Addr} {xs : List V} (e : ExtN H H') (h : SqL K H a xs) : SqL K H' a xs := by
  rcases h with h | h
  · rcases h with h | ⟨o, h⟩
    · exact .inl (.inl (e _ _ h fun _ z => by cases z))
    · exact .inl (.inr ⟨o, e _ _ h fun _ z => by cases z⟩)
  · exact .inr h
theorem sqT_extN {K : PySem.W.Frag} {H H' : Hp} {a : Addr} {xs : List V} (e : ExtN H H') (h : SqT K H a xs) : SqT K H' a xs := by
  rcases h with h | h
  · rcases h with h | ⟨o, h⟩
    · exact .inl (.inl (e _ _ h fun _ z => by cases z))
    · exact .inl (.inr ⟨o, e _ _ h fun _ z => by cases z⟩)
  · exact .inr h
mutual
theorem dp_extN {K : PySem.W.Frag} {H H' : Hp} (e : ExtN H H') : ∀ (d : PyData) (v : V), Dp K H v d → Dp K H' v d
  | .none, _, h => by cases h; exact .non
  | .bool b, _, h => by cases h; exact .bl b
  | .int i, _, h => by cases h; exact .int i
  | .str x, _, h => by cases h; exact .str x
  | .list ds, _, h => by
    cases h with
    | lst hs ha => exact .lst (sqL_extN e hs) (dpAll_extN e ds _ ha)
  | .tuple ds, _, h => by
    cases h with
    | tup hs ha => exact .tup (sqT_extN e hs) (dpAll_extN e ds _ ha)
  | .dict k, _, h => by cases h
theorem dpAll_extN {K : PySem.W.Frag} {H H' : Hp} (e : ExtN H H') : ∀ (ds : List PyData) (vs : List V), DpAll K H vs ds → DpAll K H' vs ds
  | [], _, h => by cases h; exact .nil
  | d :: ds, _, h => by
    cases h with
    | cons hv ht => exact .cons (dp_extN e d _ hv) (dpAll_extN e ds _ ht)
end
def DrAt (M : List Addr) (H : Hp) : List V → List (Str × List Nat) → Prop
  | [], [] => True
  | v :: vs, p :: ps => (∃ a, v = .ref a ∧ a ∉ M ∧ H a = some (.lst [.str (SX.S p.2), .str p.1])) ∧ DrAt M H vs ps
  | _, _ => False
theorem drAt_len {M : List Addr} {H : Hp} : ∀ {vs : List V} {ps : List (Str × List Nat)}, DrAt M H vs ps → vs.length = ps.length
  | [], [], _ => rfl
  | _ :: vs, _ :: qs, h => by
    rw [List.length_cons, List.length_cons, drAt_len h.2]
  | [], _ :: _, h => h.elim
  | _ :: _, [], h => h.elim
theorem drAt_mono {M : List Addr} {H H' : Hp} (e : ExL M H H') : ∀ {vs : List V} {ps : List (Str × List Nat)}, DrAt M H vs ps → DrAt M H' vs ps
  | [], [], _ => trivial
  | _ :: vs, _ :: qs, h => by
    obtain ⟨⟨a, rfl, n, h1⟩, h2⟩ := h
    exact ⟨⟨a, rfl, n, e _ _ h1 n⟩, drAt_mono e h2⟩
  | [], _ :: _, h => h.elim
  | _ :: _, [], h => h.elim
theorem drAt_snoc {M : List Addr} {H : Hp} {a : Addr} {p : Str × List Nat} (n : a ∉ M) (ha : H a = some (.lst [.str (SX.S p.2), .str p.1])) : ∀ {vs : List V} {ps : List (Str × List Nat)}, DrAt M H vs ps → DrAt M H (vs ++ [.ref a]) (ps ++ [p])
  | [], [], _ => ⟨⟨a, rfl, n, ha⟩, trivial⟩
  | _ :: vs, _ :: qs, h => ⟨h.1, drAt_snoc n ha h.2⟩
  | [], _ :: _, h => h.elim
  | _ :: _, [], h => h.elim
theorem drAt_get {M : List Addr} {H : Hp} : ∀ {vs : List V} {ps : List (Str × List Nat)} {i : Nat} {v : V}, DrAt M H vs ps → vs[i]? = some v → ∃ p a, ps[i]? = some p ∧ v = .ref a ∧ H a = some (.lst [.str (SX.S p.2), .str p.1])
  | [], [], i, v, _, h => by simp at h
  | _ :: vs, q :: qs, 0, v, h, g => by
    obtain ⟨a, e, _, h1⟩ := h.1
    simp at g
    exact ⟨q, a, rfl, g.symm.trans e, h1⟩
  | _ :: vs, _ :: qs, i + 1, v, h, g => by
    obtain ⟨q, a, h1, h2⟩ := drAt_get h.2 (by simpa using g)
    exact ⟨q, a, by simpa using h1, h2⟩
  | [], _ :: _, _, _, h, _ => h.elim
  | _ :: _, [], _, _, h, _ => h.elim
theorem exl_exs {st L : Addr} {M : List Addr} {H H' : Hp} (e : ExS st L H H') (h1 : st ∈ M) (h2 : L ∈ M) : ExL M H H' := fun a o h n => e a o h (fun z => n (z ▸ h1)) (fun z => n (z ▸ h2))
theorem exl_put {p : Addr} {M : List Addr} {H : Hp} {o : HO} (h : p ∈ M) : ExL M H (upd H p o) := fun a u e n => by
  rw [upd_ne (fun (z : a = p) => n (by rw [z]; exact h))]
  exact e
section
variable {K : PySem.W.Frag} {σ : L2.St} {H H' : Hp} {ta tb te tx : TE}
theorem yes_go {A B : Hp → Prop} (h : A H) : tYes σ H fun b H3 => if b = true then A H3 else B H3 := iteT (A := A H) (B := B H) h
def LcGo (J : It) (g : TG) (tt : TT) (te : TE) (vs : List Nat) (σ : L2.St) (H1 : Hp) (Q : VK) : Prop := ∀ D, H1 D = none → ∃ W : Nat → Nat → Hp → Prop, (∃ m, W 0 m (upd H1 D (.lst []))) ∧ ∀ i m H, W i m H →
  (J.stop i H ∧ Q (.ref D) H) ∨ (J.go i H ∧ ∃ Nx : Hp → Prop, (∀ H', Nx H' → ∃ m', m' < m ∧ W (i + 1) m' H') ∧ ∀ x H', J.yld i H x H' → g x (wipe σ vs) H' fun σ2 H2 => wipe σ2 vs = wipe σ vs ∧ tt σ2 H2 fun b H3 =>
    if b = true then te σ2 H3 fun y H4 => ∃ acc, H4 D = some (.lst acc) ∧ acc.length < sizeLine ∧ Nx (upd H4 D (.lst (acc ++ [y]))) else Nx H3)
theorem lc_mapI {a : Addr} {xs : List V} {j : Nat} {vs : List Nat} {Q : VK} (f : Nat → V) (hz : SqL K H a xs) (hn : xs.length ≤ 40000) (hw : ∀ x, wipe ((wipe σ vs).set j (some x)) vs = wipe σ vs)
    (he : ∀ (i : Nat) (x : V) (H1 : Hp), Ex H H1 → xs[i]? = some x → Evl.Ev te ((wipe σ vs).set j (some x)) H1 (f i)) (q : ∀ p H2, H p = none → Ex H H2 → H2 p = some (.lst ((List.range xs.length).map f)) → Q (.ref p) H2) : LcGo (Itl K a) (gName j) tYes te vs σ H Q := fun Dl hD => by
  let Pv : Nat → Hp → Prop := fun i H' => H Dl = none ∧ Ex H H' ∧ H' Dl = some (.lst ((List.range i).map f))
  refine lc_it walk_list Pv ⟨hD, Evl.Ex.new hD, upd_same⟩ (fun i H' _ p => Evl.ex_l p.2.1 hz) ?_ (fun H' p => ?_)
  · rintro i x H4 H5 hi ⟨p1, p2, p3⟩ ⟨rfl, hx⟩
    refine ⟨hw x, ?_⟩
    refine iteT (A := te ((wipe σ vs).set j (some x)) _ _) (B := Pv (i + 1) H5) ?_
    refine he i x H5 p2 hx H5 (Evl.Ex.refl H5) _ fun H6 e6 => ?_
    refine ⟨_, e6 _ _ p3, Evl.sz_lt (by rw [List.length_map, List.length_range]; omega), p1, (p2.trans e6).mut p1, ?_⟩
    rw [upd_same, List.range_succ, List.map_append]
    rfl
  · obtain ⟨p1, p2, p3⟩ := p
    exact q Dl H' p1 p2 p3
theorem el_map {a : Addr} {xs : List V} {j : Nat} {vs : List Nat} (f : Nat → V) (hz : SqL K H a xs) (hn : xs.length ≤ 40000) (ha : Evl.Ev ta σ H (.ref a)) (hw : ∀ x, wipe ((wipe σ vs).set j (some x)) vs = wipe σ vs)
    (he : ∀ (i : Nat) (x : V) (H1 : Hp), Ex H H1 → xs[i]? = some x → Evl.Ev te ((wipe σ vs).set j (some x)) H1 (f i)) : Evl.EvL (tLc (iSeq K ta) (gName j) tYes te vs) σ H ((List.range xs.length).map f) := fun H0 e Q q => .inl (ha H0 e _ fun H1 e1 => ⟨a, rfl, ⟨xs, Evl.ex_l (e.trans e1) hz⟩,
  lc_mapI f (Evl.ex_l (e.trans e1) hz) hn hw (fun i x H2 e2 hx => he i x H2 ((e.trans e1).trans e2) hx) fun p H2 hp e2 h => q p H2 (Evl.fresh_back e1 hp) (e1.trans e2) h⟩)
theorem el_mapR {j : Nat} {vs : List Nat} (n : Nat) (f : Nat → V) (h : EvR ta σ H fun v H2 => ∃ (a : Addr) (xs : List V), v = .ref a ∧ SqL K H2 a xs ∧ xs.length = n ∧ n ≤ 40000 ∧ ∀ (i : Nat) (x : V) (H3 : Hp), Ex H2 H3 → xs[i]? = some x → Evl.Ev te ((wipe σ vs).set j (some x)) H3 (f i))
    (hw : ∀ x, wipe ((wipe σ vs).set j (some x)) vs = wipe σ vs) : Evl.EvL (tLc (iSeq K ta) (gName j) tYes te vs) σ H ((List.range n).map f) := fun H0 e Q q => .inl (h H0 e _ fun v H1 e1 z => by
  obtain ⟨a, xs, rfl, hz, hn, hn2, he⟩ := z
  subst hn
  exact ⟨a, rfl, ⟨xs, hz⟩, lc_mapI f hz hn2 hw he fun p H2 hp e2 h => q p H2 (Evl.fresh_back e1 hp) (e1.trans e2) h⟩)
theorem q_asgOp {i : Nat} {r : R2} {ta tb : TE} {tz : TS} {D : Ends} (h : ta σ H fun x H1 => tb σ H1 fun y H2 => r x y H2 fun v H3 => tz D (σ.set i (some v)) H3) : tSeq (tAsg (tOp r ta tb) (gName i)) tz D σ H := h
theorem q_parL {i j : Nat} {xs ys : List V} {t1 t2 : TE} {tz : TS} {D : Ends} (h1 : Evl.EvL t1 σ H xs) (h2 : ∀ H1, Ex H H1 → Evl.EvL t2 σ H1 ys) (k : ∀ p q H1 H2, H p = none → Ex H H1 → H1 q = none → Ex H1 H2 → H1 p = some (.lst xs) → H2 q = some (.lst ys) → tz D ((σ.set i (some (.ref p))).set j (some (.ref q))) H2) :
    tSeq (tPar i j (tCons t1 (tCons t2 tNil))) tz D σ H := h1 H (Evl.Ex.refl H) _ fun p H1 hp e1 g1 => h2 H1 e1 H1 (Evl.Ex.refl H1) _ fun q H2 hq e2 g2 => ⟨_, _, rfl, k p q H1 H2 hp e1 hq e2 g1 g2⟩
theorem range_map {α : Type} (g : α → V) (l : List α) : (List.range l.length).map (fun i => ((l[i]?).map g).getD .non) = l.map g := by
  apply List.ext_getElem?
  intro i
  rw [List.getElem?_map, List.getElem?_map]
  by_cases h : i < l.length
  · rw [List.getElem?_range h, List.getElem?_eq_getElem h]
    simp [List.getElem?_eq_getElem h]
  · rw [List.getElem?_eq_none (by simpa using h), List.getElem?_eq_none (by omega)]
    rfl
theorem plAt_split {H : Hp} {e : Nat × Nat} : ∀ {pos : List (Nat × Nat)} {vs : List V}, PlAt H vs (pos ++ [e]) → ∃ vs' a, vs = vs' ++ [.ref a] ∧ PlAt H vs' pos ∧ H a = some (.tup [.int (e.1 : Nat), .int (e.2 : Nat)])
  | [], [], h => h.elim
  | [], v :: [], h => by
    obtain ⟨⟨a, rfl, h1⟩, _⟩ := h
    exact ⟨[], a, rfl, trivial, h1⟩
  | [], _ :: _ :: _, h => h.2.elim
  | _ :: _, [], h => h.elim
  | _ :: pos, v :: vs, h => by
    obtain ⟨vs', a, e1, h1, h2⟩ := plAt_split (pos := pos) h.2
    exact ⟨v :: vs', a, by rw [e1] <;> rfl, ⟨h.1, h1⟩, h2⟩
theorem mk_few (m : Mk.MkT) : few (mkD m) = true := by
  unfold mkD
  simp [few, fews]
theorem mks_few : ∀ ms : List Mk.MkT, fews (ms.map mkD) = true
  | [] => rfl
  | m :: ms => by
    rw [List.map_cons]
    show (few (mkD m) && fews (ms.map mkD)) = true
    rw [mk_few, mks_few ms]
    rfl
theorem mk_spoil (m : Mk.MkT) : spoil (mkD m) = mkD m := by
  unfold mkD
  simp [spoil, spoils]
theorem mks_spoil : ∀ ms : List Mk.MkT, spoils (ms.map mkD) = ms.map mkD
  | [] => rfl
  | m :: ms => by
    rw [List.map_cons]
    show spoil (mkD m) :: spoils (ms.map mkD) = _
    rw [mk_spoil, mks_spoil ms]
theorem fews_app : ∀ (a b : List PyData), fews (a ++ b) = (fews a && fews b)
  | [], b => rfl
  | d :: a, b => by
    show (few d && fews (a ++ b)) = ((few d && fews a) && fews b)
    rw [fews_app a b, Bool.and_assoc]
theorem mks_depth : ∀ ms : List Mk.MkT, PyData.depthAll (ms.map mkD) ≤ 2
  | [] => by simp [PyData.depthAll]
  | m :: ms => by
    have ih := mks_depth ms
    rw [List.map_cons]
    simp only [PyData.depthAll]
    have h : (mkD m).depth ≤ 2 := by
      unfold mkD
      simp [PyData.depth, PyData.depthAll]
    omega
theorem marks_few {ms : List Mk.MkT} (h : ms.length < 100000) : few (.list (ms.map mkD)) = true ∧ few (spoil (.list (ms.map mkD))) = true ∧ (PyData.list (ms.map mkD)).depth < 4 := by
  refine ⟨?_, ?_, ?_⟩
  · simp only [few, Bool.and_eq_true, decide_eq_true_eq, mks_few, List.length_map]
    exact ⟨by omega, trivial⟩
  · simp only [spoil, few, Bool.and_eq_true, decide_eq_true_eq, mks_spoil, List.length_append, List.length_map, List.length_singleton, fews_app, mks_few]
    exact ⟨by omega, trivial, rfl⟩
  · have := mks_depth ms
    simp only [PyData.depth]
    omega
end
end Kc
namespace Mk
open PySem SX
def lexF : Nat → List Nat → List Nat → Option (List MkT)
  | 0, _, _ => none
  | n + 1, p, [] => some [("end", [], line p, col0 p + 1)]
  | n + 1, p, c :: r =>
    if c = 10 then lexF n (p ++ [10]) r
    else if c = 32 then lexF n (p ++ [32]) r
    else if c = 35 then lexF n (p ++ 35 :: r.takeWhile (· != 10)) (r.dropWhile (· != 10))
    else
      let m := markAt c r
      if m.2 ≠ [] ∧ (c :: r).take m.2.length = m.2 then (lexF n (p ++ m.2) ((c :: r).drop m.2.length)).map fun out => (m.1, m.2, line p, col0 p + 1) :: out
      else none
theorem lexF_ok : ∀ (n : Nat) (p r : List Nat) (out : List MkT), lexF n p r = some out → Lex p r out
  | 0, _, _, _, h => by cases h
  | n + 1, p, [], out, h => by
    cases h
    exact .nil
  | n + 1, p, c :: r, out, h => by
    unfold lexF at h
    by_cases h1 : c = 10
    · rw [if_pos h1] at h
      subst h1
      exact .nl (lexF_ok n _ _ _ h)
    rw [if_neg h1] at h
    by_cases h2 : c = 32
    · rw [if_pos h2] at h
      subst h2
      exact .sp (lexF_ok n _ _ _ h)
    rw [if_neg h2] at h
    by_cases h3 : c = 35
    · rw [if_pos h3] at h
      subst h3
      have z := lexF_ok n _ _ _ h
      have e : r = r.takeWhile (· != 10) ++ r.dropWhile (· != 10) := (List.takeWhile_append_dropWhile).symm
      rw [e]
      refine .rem (fun hm => ?_) ?_ z
      · have hne : ∀ (l : List Nat), 10 ∈ l.takeWhile (· != 10) → False := by
          intro l
          induction l with
          | nil => simp
          | cons d l ih =>
            intro h
            rw [List.takeWhile_cons] at h
            by_cases hd : (d != 10) = true
            · rw [if_pos hd] at h
              rcases List.mem_cons.mp h with h | h
              · subst h
                exact absurd rfl (bne_iff_ne.mp hd)
              · exact ih h
            · rw [if_neg hd] at h
              cases h
        exact hne r hm
      · have hd : ∀ (l : List Nat), l.dropWhile (· != 10) = [] ∨ (l.dropWhile (· != 10)).head? = some 10 := by
          intro l
          induction l with
          | nil => simp
          | cons d l ih =>
            rw [List.dropWhile_cons]
            by_cases hd : (d != 10) = true
            · rw [if_pos hd]
              exact ih
            · rw [if_neg hd]
              right
              have : d = 10 := by simpa using hd
              rw [this]
              rfl
        exact hd r
    rw [if_neg h3] at h
    dsimp only at h
    split at h
    · rename_i hc
      obtain ⟨ho, e1, e2⟩ := Option.map_eq_some_iff.mp h
      subst e2
      have z := lexF_ok n _ _ _ e1
      refine .mark h1 h2 h3 rfl ?_ hc.1 z
      have e3 := hc.2
      conv => lhs; rw [← List.take_append_drop (markAt c r).2.length (c :: r)]
      rw [e3]
    · cases h
end Mk

namespace Kc
open PySem PySem.Spec PyProof.Rows L2 RZ LamX
theorem dfn_mk {K : PySem.W.Frag} {h : Heap} {mg : Str → Option Value} {x : Str} {st : Stmt} {ps : List Str} {f : Addr} {oc kV doc pm cdv ct : Value} {od an : Option Addr} {osl : Array (Option Value)} (X : K.In h) (G : h.Ns mainGlobals mg)
    (a : PySem.W.nsIn K mainGlobals x = some (some (.ref f))) (l : K.lookup f = some ⟨oc, od, .func (PySem.W.fnOf x x (defArgs st) (defBody st) (defScope st) .none kV doc pm an cdv ct), osl⟩) (c : PySem.W.codeIn K cdv x = true) (k : PySem.W.keepIn K (.ref f) = true)
    (b : ∀ (kV doc pm : Value) (an : Option Addr) (cdv ct : Value) (us : List Value), us.length = ps.length → bindArgs (PySem.W.fnOf x x (defArgs st) (defBody st) (defScope st) .none kV doc pm an cdv ct) ⟨us, []⟩ = pure (ps.zip us)) : Dfn K mg x st ps := by
  have F := fun_mk (st := st) l c k
  exact ⟨f, _, F, PySem.W.mg_of X G a, F.binds b⟩
theorem dfnK_mk {K : PySem.W.Frag} {h : Heap} {mg : Str → Option Value} {x : Str} {st : Stmt} {ps : List Str} {f : Addr} {oc kV doc pm cdv ct : Value} {od an : Option Addr} {osl : Array (Option Value)} (X : K.In h) (G : h.Ns mainGlobals mg)
    (a : PySem.W.nsIn K mainGlobals x = some (some (.ref f))) (l : K.lookup f = some ⟨oc, od, .func (PySem.W.fnOf x x (defArgs st) (defBody st) (defScope st) .none kV doc pm an cdv ct), osl⟩) (c : PySem.W.codeIn K cdv x = true) (k : PySem.W.keepIn K (.ref f) = true)
    (b : ∀ (kV doc pm : Value) (an : Option Addr) (cdv ct : Value) (us : List Value), us.length = ps.length → bindArgs (PySem.W.fnOf x x (defArgs st) (defBody st) (defScope st) .none kV doc pm an cdv ct) ⟨us, []⟩ = pure (ps.zip us))
    (kb : ∀ (kV doc pm : Value) (an : Option Addr) (cdv ct : Value) (us : List Value), us.length = ps.length → bindArgs (PySem.W.fnOf x x (defArgs st) (defBody st) (defScope st) .none kV doc pm an cdv ct) ⟨[], ps.zip us⟩ = pure (ps.zip us)) : DfnK K mg x st ps := by
  have F := fun_mk (st := st) l c k
  exact ⟨f, _, F, PySem.W.mg_of X G a, F.binds b, fun s ws hl => .of_eq (kb _ _ _ _ _ _ ws hl)⟩
def strsB : List Str → List Value → Bool
  | [], [] => true
  | s :: ss, .str t _ :: us => decide (t = s) && strsB ss us
  | _, _ => false
theorem strsB_ok : ∀ {ss : List Str} {us : List Value}, strsB ss us = true → Vals (ss.map V.str) us
  | [], [], _ => .nil
  | s :: ss, .str t k :: us, h => by
    simp only [strsB, Bool.and_eq_true, decide_eq_true_eq] at h
    obtain ⟨rfl, h2⟩ := h
    exact .cons ⟨k, rfl⟩ (strsB_ok h2)
  | [], _ :: _, h => by simp [strsB] at h
  | s :: ss, [], h => by simp [strsB] at h
  | s :: ss, .none :: us, h => by simp [strsB] at h
  | s :: ss, .ref _ :: us, h => by simp [strsB] at h
  | s :: ss, .int _ _ :: us, h => by simp [strsB] at h
  | s :: ss, .bool _ :: us, h => by simp [strsB] at h
  | s :: ss, .float _ _ :: us, h => by simp [strsB] at h
  | s :: ss, .type _ :: us, h => by simp [strsB] at h
  | s :: ss, .builtin _ :: us, h => by simp [strsB] at h
  | s :: ss, .ellipsis :: us, h => by simp [strsB] at h
  | s :: ss, .notImplemented :: us, h => by simp [strsB] at h
def tupStrsIn (K : PySem.W.Frag) (a : Addr) (ws : List Str) : Bool := match K.lookup a with
  | some ⟨.type t, _, .seq its _, _⟩ => decide (t = "tuple") && decide (its.size ≤ sizeLine) && strsB ws its.toList
  | _ => false
theorem tupStrs_ok {K : PySem.W.Frag} {a : Addr} {ws : List Str} (h : tupStrsIn K a ws = true) (H : Hp) : SqT K H a (ws.map V.str) := by
  unfold tupStrsIn at h
  split at h
  · rename_i t od its n osl e
    simp only [Bool.and_eq_true, decide_eq_true_eq] at h
    obtain ⟨⟨rfl, h2⟩, h3⟩ := h
    exact .inr ⟨_, its, n, e, rfl, rfl, h2, strsB_ok h3⟩
  · cases h
def biNames : List Str := ["len", "abs", "all", "any", "ord", "sorted", "isinstance", "int", "str", "bool", "list", "tuple", "dict", "set", "type", "range", "zip", "enumerate", "reversed", "sum", "max", "min"]
def freeIn (K : PySem.W.Frag) (x : Str) : Bool := match PySem.W.nsIn K mainGlobals x with
  | some none => true
  | _ => false
theorem bi_mk {K : PySem.W.Frag} {h : Heap} {mg : Str → Option Value} (X : K.In h) (G : h.Ns mainGlobals mg) (z : biNames.all (freeIn K) = true) : Bi mg := ⟨fun x hx => by
  have e := List.all_eq_true.mp z x hx
  unfold freeIn at e
  split at e
  · rename_i q
    exact PySem.W.mg_none_of X G q
  · cases e⟩
def tabP (K : PySem.W.Frag) (x : Str) : Addr × Addr := (PySem.W.tabIn K x).getD (0, 0)
theorem tabP_of {K : PySem.W.Frag} {x : Str} (h : (PySem.W.tabIn K x).isSome = true) : PySem.W.tabIn K x = some ((tabP K x).1, (tabP K x).2) := by
  unfold tabP
  cases e : PySem.W.tabIn K x with
  | none =>
    rw [e] at h
    cases h
  | some p => rfl
end Kc

namespace K00
open PySem PySem.Spec PyProof.Rows L2 Kc RZ
def topS (i : Nat) : Stmt := PySem.Challenge.pw_kindcopies_k00_marks_of_all_sorts_in_all.main.body.getD i (.Pass ⟨0, 0, 0, 0⟩)
abbrev s__law_stream : Stmt := topS 16
abbrev N__law_stream : List Str := ["script"]
theorem sc__law_stream : FnScope N__law_stream ["script"] (defScope s__law_stream) := ⟨rfl, rfl, rfl, by decide +kernel, rfl, by decide +kernel, by decide +kernel⟩
abbrev s__law_draw : Stmt := topS 17
abbrev N__law_draw : List Str := ["stream", "many", "cell", "digit", "mixed"]
theorem sc__law_draw : FnScope N__law_draw ["stream", "many"] (defScope s__law_draw) := ⟨rfl, rfl, rfl, by decide +kernel, rfl, by decide +kernel, by decide +kernel⟩
abbrev s__law_pick : Stmt := topS 18
abbrev N__law_pick : List Str := ["stream", "things"]
theorem sc__law_pick : FnScope N__law_pick ["stream", "things"] (defScope s__law_pick) := ⟨rfl, rfl, rfl, by decide +kernel, rfl, by decide +kernel, by decide +kernel⟩
section
variable {P : Program} {w : World} {K : PySem.W.Frag} {mg : Str → Option Value} {base : Heap}
theorem cal__law_stream (b : Bi mg) (D : Dfn K mg "_law_stream" s__law_stream ["script"]) : Cal P w K mg base 1 "_law_stream" (spStream K) := by
  refine D.cal sc__law_stream (fun vs H Q E h => ?_) (fun f cdv A outer s H vs Q E hr h => ?_)
  · obtain ⟨a, ns, rfl, _⟩ := h
    rfl
  obtain ⟨a, ns, rfl, hS, hl, q⟩ := h
  refine ⟨_, (pss_one (ps_ret (pe_lst (pa_cons (pe_callTy call_listX (by rfl) b.list bt_list (pa_cons (pv 0) pa_nil)) (pa_cons pe_int (pa_cons pe_int (pa_cons pe_int pa_nil))))))), ?_⟩
  refine ⟨.ref a, rfl, a, _, rfl, .inl hS, fun L hL => ?_⟩
  refine ⟨(by show 4 ≤ sizeLine; decide), fun st hst => ?_⟩
  have ne : L ≠ st := fun e => by rw [← e, upd_same] at hst; cases hst
  refine q st L _ ((Evl.Ex.new hL).trans (Evl.Ex.new hst)) ⟨ne.symm, ns, 0, 0, 17, hl, upd_same, ?_, by decide, by decide, by decide, by decide, by decide⟩
  rw [upd_ne ne, upd_same]
theorem cal__law_draw (b : Bi mg) (D : Dfn K mg "_law_draw" s__law_draw ["stream", "many"]) : Cal P w K mg base 1 "_law_draw" spDraw := by
  refine D.cal sc__law_draw (fun vs H Q E h => ?_) (fun f cdv A outer s H vs Q E hr h => ?_)
  · obtain ⟨st, L, n, many, rfl, _⟩ := h
    rfl
  obtain ⟨st, L, n, many, rfl, hS, h0, h1, hn, q⟩ := h
  have hu := hr.units
  refine ⟨_, (pss_cons (ps_asg (pe_op op_addX (pe_ix ix_seq (pv 0) pe_int (fun _ _ => rfl)) pe_int) (pg_sub (pv 0) pe_int set_list))
      (Evl.pss_cut (ps_while PassesOwn.never (PW.pt (pw_and (pt_cmpR (op_eqX hu) (pe_ix ix_seq (pv 0) pe_int (fun _ _ => rfl)) pe_int (nomark _)) (pw_and1 (pt_cmpR (op_neX hu) (pe_ix ix_seq (pv 0) pe_int (fun _ _ => rfl)) (pe_lst pa_nil) (nomark _)))))
        (pss_cons (ps_set (i := 2) sc__law_draw.nd rfl (.inl rfl) (pe_callB call_absX (by rfl) b.abs bt_abs (pa_cons (pe_bm PySem.F.plainAttrs_list PySem.F.slot_list_pop PySem.F.type_list_pop mt_popAt (pe_ix ix_seq (pv 0) pe_int (fun _ _ => rfl)) (pa_cons pe_int pa_nil)) pa_nil)))
      (pss_cons (ps_asg (pe_op op_mod (pe_callTy call_intX (by rfl) b.int bt_int (pa_cons (pe_op op_addX (pe_op op_addX (pe_op op_mulX (pe_ix ix_seq (pv 0) pe_int (fun _ _ => rfl)) pe_int) (pv 2)) pe_int) pa_nil)) pe_int) (pg_sub (pv 0) pe_int set_list))
      (pss_one (ps_asg (pe_ifExp (pt_cmpR op_ge (pv 2) (pe_op op_pow pe_int pe_int) (nomark _)) (pv 2) pe_int) (pg_sub (pv 0) pe_int set_list))))))
      (pss_cons (ps_if (pt_cmpR op_gt (pe_ix ix_seq (pv 0) pe_int (fun _ _ => rfl)) pe_int (nomark _))
        (pss_cons (ps_set (i := 3) sc__law_draw.nd rfl (.inl rfl) (pe_op op_mod (pe_callTy call_intX (by rfl) b.int bt_int (pa_cons (pe_ix ix_seq (pv 0) pe_int (fun _ _ => rfl)) pa_nil)) (pv 1)))
      (pss_cons (ps_asg (pe_op op_fdivW (pe_ix ix_seq (pv 0) pe_int (fun _ _ => rfl)) (pv 1)) (pg_sub (pv 0) pe_int set_list))
      (pss_one (ps_ret (pv 3)))))
        pss_nil)
      (pss_cons (ps_set (i := 4) sc__law_draw.nd rfl (.inl rfl) (pe_op op_mod (pe_callTy call_intX (by rfl) b.int bt_int (pa_cons (pe_op op_pow (pe_op op_addX (pe_op op_addX (pe_ix ix_seq (pv 0) pe_int (fun _ _ => rfl)) (pe_op op_mulX pe_int (pe_ix ix_seq (pv 0) pe_int (fun _ _ => rfl)))) pe_int) pe_int) pa_nil)) pe_int))
      (pss_one (ps_ret (pe_op op_mod (pe_op op_mod (pe_callTy call_intX (by rfl) b.int bt_int (pa_cons (pe_op op_pow (pe_op op_addX (pe_op op_addX (pe_op op_mulX (pv 4) pe_int) (pe_op op_mulX pe_int (pe_ix ix_seq (pv 0) pe_int (fun _ _ => rfl)))) pe_int) pe_int) pa_nil)) pe_int) (pv 1)))))))), ?_⟩
  obtain ⟨cells, c1, c2, c3, hc, e1, e2, b1, b2, b2', b3, b3'⟩ := hS.ex
  refine ⟨.ref st, rfl, ix_l (SqL.of e1) (atI_nat (j := 2) rfl) (addX_int ?_)⟩
  refine ⟨.ref st, rfl, st, _, 2, 2, rfl, rfl, e1, rfl, ?_⟩
  refine ⟨fun σ H' => ∃ (cells : List Int) (c1 c2 c3 : Int) (y2 y3 y4 : Option V), σ = [some (.ref st), some (.int many), y2, y3, y4] ∧ cells.length ≤ 63 ∧ H' st = some (.lst [.ref L, .int c1, .int c2, .int c3]) ∧ H' L = some (.lst (cells.map V.int)) ∧ 0 ≤ c1 ∧ 0 ≤ c2 ∧ c2 ≤ ((n + 1 : Nat) : Int) ∧ 0 ≤ c3 ∧ c3 < 2147483647 ∧ ExS st L H H', ?_, ?_⟩
  · refine ⟨fun m σ H' => ∃ (cells : List Int) (c1 c2 c3 : Int) (y2 y3 y4 : Option V), σ = [some (.ref st), some (.int many), y2, y3, y4] ∧ m = cells.length ∧ cells.length ≤ 63 ∧ H' st = some (.lst [.ref L, .int c1, .int c2, .int c3]) ∧ H' L = some (.lst (cells.map V.int)) ∧ 0 ≤ c1 ∧ 0 ≤ c2 ∧ c2 ≤ ((n + 1 : Nat) : Int) ∧ 0 ≤ c3 ∧ c3 < 2147483647 ∧ ExS st L H H',
      ⟨cells.length, cells, c1, c2 + 1, c3, none, none, none, rfl, rfl, hc, upd_same, by rw [upd_ne hS.ne.symm]; exact e2, b1, by omega, by omega, b3, b3', (ExS.refl H).st⟩, ?_⟩
    clear e1 e2 b1 b2 b2' b3 b3' hc cells c1 c2 c3
    rintro m σ H1 ⟨cells, c1, c2, c3, y2, y3, y4, rfl, rfl, hc, e1, e2, b1, b2, b2', b3, b3', ex⟩
    refine ⟨.ref st, rfl, ix_l (SqL.of e1) (atI_nat (j := 1) rfl) (eqX_int ⟨_, rfl, ?_⟩)⟩
    refine ite2 (fun z => ?_) (fun z => ?_)
    · have z : c1 = 0 := of_decide_eq_true z
      refine ⟨.ref st, rfl, ix_l (SqL.of e1) (atI_nat (j := 0) rfl) ⟨Nat.zero_le _, fun p hp => ?_⟩⟩
      have pL : L ≠ p := ne_of_none e2 hp
      have pst : st ≠ p := ne_of_none e1 hp
      have e1' : (upd H1 p (.lst [])) st = some (.lst [.ref L, .int c1, .int c2, .int c3]) := by rw [upd_ne pst]; exact e1
      have e2' : (upd H1 p (.lst [])) L = some (.lst (cells.map V.int)) := by rw [upd_ne pL]; exact e2
      refine neX_d (d := .list (cells.map PyData.int)) (e := .list []) (.lst (SqL.of e2') (ints_dp cells)) (.lst (SqL.of upd_same) .nil) (ints_shaped _) (ints_shaped []) ⟨_, rfl, ?_⟩
      have ex' : ExS st L H (upd H1 p (.lst [])) := ex.trans (.of (Evl.Ex.new hp))
      rw [ints_nil]
      refine ite2 (fun z2 => ?_) (fun z2 => ?_)
      · have z2 : cells ≠ [] := fun e => by rw [e] at z2; simp at z2
        obtain ⟨x, r, rfl⟩ : ∃ x r, cells = x :: r := by
          cases cells with
          | nil => exact absurd rfl z2
          | cons x r => exact ⟨x, r, rfl⟩
        generalize upd H1 p (.lst []) = H2 at e1' e2' ex'
        refine ⟨_, fun σ' H' h => h, ?_⟩
        refine ⟨.ref st, rfl, ix_l (SqL.of e1') (atI_nat (j := 0) rfl) ⟨.inl ⟨rfl, _, SqL.of e2'⟩, L, _, 0, 0, .int x, rfl, rfl, e2', by decide, by decide, seq0 _, rfl, x, rfl, ?_⟩⟩
        obtain ⟨cell, ec, hcell⟩ : ∃ cell : Int, (if x < 0 then -x else x) = cell ∧ 0 ≤ cell := ⟨_, rfl, by split <;> omega⟩
        rw [ec]
        have f1 : (upd H2 L (.lst (((x :: r).map V.int).eraseIdx 0))) st = some (.lst [.ref L, .int c1, .int c2, .int c3]) := by rw [upd_ne hS.ne]; exact e1'
        have f2 : (upd H2 L (.lst (((x :: r).map V.int).eraseIdx 0))) L = some (.lst (r.map V.int)) := upd_same
        have fx : ExS st L H (upd H2 L (.lst (((x :: r).map V.int).eraseIdx 0))) := ex'.l
        generalize upd H2 L (.lst (((x :: r).map V.int).eraseIdx 0)) = H3 at f1 f2 fx
        refine ⟨.ref st, rfl, ix_l (SqL.of f1) (atI_nat (j := 3) rfl) (mulX_r ⟨by decide, by decide⟩ ⟨_, rfl, addX_int (addX_int (.inl (.inl ⟨_, rfl, _, _, rfl, rfl, (by decide : (0 : Int) < 2147483647), ?_⟩)))⟩)⟩
        refine ⟨.ref st, rfl, st, _, 3, 3, rfl, rfl, f1, rfl, ?_⟩
        dsimp only
        have g3 : 0 ≤ (c3 * 8191 + cell + 3) % 2147483647 ∧ (c3 * 8191 + cell + 3) % 2147483647 < 2147483647 := ⟨Int.emod_nonneg _ (by decide), Int.emod_lt_of_pos _ (by decide)⟩
        generalize (c3 * 8191 + cell + 3) % 2147483647 = c3n at g3
        have i1 : (upd H3 st (.lst ([.ref L, .int c1, .int c2, .int c3].set 3 (.int c3n)))) st = some (.lst [.ref L, .int c1, .int c2, .int c3n]) := upd_same
        have i2 : (upd H3 st (.lst ([.ref L, .int c1, .int c2, .int c3].set 3 (.int c3n)))) L = some (.lst (r.map V.int)) := by rw [upd_ne hS.ne.symm]; exact f2
        have ix : ExS st L H (upd H3 st (.lst ([.ref L, .int c1, .int c2, .int c3].set 3 (.int c3n)))) := fx.st
        generalize upd H3 st (.lst ([.ref L, .int c1, .int c2, .int c3].set 3 (.int c3n))) = H4 at i1 i2 ix
        refine ⟨_, rfl, _, _, rfl, rfl, ⟨by decide, by decide, by decide⟩, _, _, rfl, rfl, _, rfl, ?_⟩
        have last : ∀ c : Int, 0 ≤ c → (fun σ' H' => ∃ m', m' < (x :: r).length ∧ ∃ (cells : List Int) (c1 c2 c3 : Int) (y2 y3 y4 : Option V), σ' = [some (.ref st), some (.int many), y2, y3, y4] ∧ m' = cells.length ∧ cells.length ≤ 63 ∧ H' st = some (.lst [.ref L, .int c1, .int c2, .int c3]) ∧ H' L = some (.lst (cells.map V.int)) ∧ 0 ≤ c1 ∧ 0 ≤ c2 ∧ c2 ≤ ((n + 1 : Nat) : Int) ∧ 0 ≤ c3 ∧ c3 < 2147483647 ∧ ExS st L H H')
            [some (.ref st), some (.int many), some (.int cell), y3, y4] (upd H4 st (.lst ([.ref L, .int c1, .int c2, .int c3n].set 1 (.int c)))) := fun c h =>
          ⟨r.length, Nat.lt_succ_self _, r, c, c2, c3n, some (.int cell), y3, y4, rfl, rfl, by simp at hc; omega, upd_same, by rw [upd_ne hS.ne.symm]; exact i2, h, b2, b2', g3.1, g3.2, ix.st⟩
        refine ite2 (fun _ => ?_) (fun _ => ?_)
        · exact ⟨_, rfl, .ref st, rfl, st, _, 1, 1, rfl, rfl, i1, rfl, last cell hcell⟩
        · exact ⟨.ref st, rfl, st, _, 1, 1, rfl, rfl, i1, rfl, last 0 (Int.le_refl 0)⟩
      · exact ⟨cells, c1, c2, c3, y2, y3, y4, rfl, hc, e1', e2', b1, b2, b2', b3, b3', ex'⟩
    · exact ⟨cells, c1, c2, c3, y2, y3, y4, rfl, hc, e1, e2, b1, b2, b2', b3, b3', ex⟩
  · clear e1 e2 b1 b2 b2' b3 b3' hc cells c1 c2 c3
    rintro σ H1 ⟨cells, c1, c2, c3, y2, y3, y4, rfl, hc, e1, e2, b1, b2, b2', b3, b3', ex⟩
    refine ⟨.ref st, rfl, ix_l (SqL.of e1) (atI_nat (j := 1) rfl) ⟨_, _, rfl, rfl, _, rfl, ?_⟩⟩
    refine ite2 (fun z => ?_) (fun z => ?_)
    · -- the digits of a great cell
      refine ⟨.ref st, rfl, ix_l (SqL.of e1) (atI_nat (j := 1) rfl) (.inl (.inl ⟨_, rfl, _, rfl, _, _, rfl, rfl, h0, ?_⟩))⟩
      refine ⟨.ref st, rfl, ix_l (SqL.of e1) (atI_nat (j := 1) rfl) ⟨_, rfl, _, _, rfl, rfl, wide_div (b := 40) h0 (by omega) (by decide) (by decide), ?_⟩⟩
      refine ⟨.ref st, rfl, st, _, 1, 1, rfl, rfl, e1, rfl, ?_⟩
      refine ⟨_, rfl, q _ _ (Int.emod_nonneg _ (by omega)) (Int.emod_lt_of_pos _ h0) ⟨hS.ne, cells, c1 / many, c2, c3, hc, upd_same, by rw [upd_ne hS.ne.symm]; exact e2, Int.ediv_nonneg b1 (by omega), b2, b2', b3, b3'⟩ ex.st⟩
    · -- mixed numbers
      refine ⟨.ref st, rfl, ix_l (SqL.of e1) (atI_nat (j := 3) rfl) ⟨.ref st, rfl, ix_l (SqL.of e1) (atI_nat (j := 2) rfl) (mulX_l ⟨by decide, by decide⟩ (addX_int (addX_int ⟨_, _, rfl, rfl, ⟨by decide, by decide, pow_lt64 (by omega) (by omega)⟩, .inl (.inl ⟨_, rfl, _, _, rfl, rfl, (by decide : (0 : Int) < 2147483629), ?_⟩)⟩)))⟩⟩
      dsimp only
      have g : 0 ≤ (c3 + 7919 * c2 + 104729) ^ (5 : Int).toNat % 2147483629 ∧ (c3 + 7919 * c2 + 104729) ^ (5 : Int).toNat % 2147483629 < 2147483629 := ⟨Int.emod_nonneg _ (by decide), Int.emod_lt_of_pos _ (by decide)⟩
      generalize (c3 + 7919 * c2 + 104729) ^ (5 : Int).toNat % 2147483629 = mixed at g
      refine ⟨_, rfl, mulX_r ⟨by decide, by decide⟩ ⟨.ref st, rfl, ix_l (SqL.of e1) (atI_nat (j := 2) rfl) (mulX_l ⟨by decide, by decide⟩ (addX_int (addX_int ⟨_, _, rfl, rfl, ⟨by decide, by decide, pow_lt64 (by omega) (by omega)⟩, .inl (.inl ⟨_, rfl, _, _, rfl, rfl, (by decide : (0 : Int) < 1000000007), _, rfl, _, _, rfl, rfl, h0, ?_⟩)⟩)))⟩⟩
      exact q _ _ (Int.emod_nonneg _ (by omega)) (Int.emod_lt_of_pos _ h0) ⟨hS.ne, cells, c1, c2, c3, hc, e1, e2, b1, b2, b2', b3, b3'⟩ ex
theorem cal__law_pick (b : Bi mg) (D : Dfn K mg "_law_pick" s__law_pick ["stream", "things"]) (c__law_draw : Cal P w K mg base 1 "_law_draw" spDraw) : Cal P w K mg base 2 "_law_pick" spPick := by
  refine D.cal sc__law_pick (fun vs H Q E h => ?_) (fun f cdv A outer s H vs Q E hr h => ?_)
  · obtain ⟨st, L, a, n, xs, rfl, _⟩ := h
    rfl
  obtain ⟨st, L, a, n, xs, rfl, hS, ha, h1, h2, hx, hz, hn, q⟩ := h
  refine ⟨_, (pss_one (ps_ret (pe_ix ix_seq (pv 1) (pe_c c__law_draw hr (by omega) rfl (pa_cons (pv 0) (pa_cons (pe_callB call_lenX (by rfl) b.len bt_len (pa_cons (pv 1) pa_nil)) pa_nil))) (fun _ _ => rfl)))), ?_⟩
  have hpos : 0 < xs.length := List.length_pos_iff.mpr hx
  refine ⟨_, rfl, _, rfl, _, rfl, _, _, rfl, .inl ⟨_, SqL.of ha, rfl⟩, st, L, n, _, rfl, hS, by omega, by omega, hn, fun d H' g0 g1 hS' ex => ?_⟩
  have hd : d.toNat < xs.length := by omega
  have ed : ((d.toNat : Nat) : Int) = d := by omega
  refine ix_l (v := xs[d.toNat]) (SqL.of (ex _ _ ha h1 h2)) (atI_at g0 g1) (q _ _ (List.getElem_mem hd) hS' ex)
end
abbrev s__law_same : Stmt := topS 19
abbrev N__law_same : List Str := ["found", "due", "mine", "theirs"]
theorem sc__law_same : FnScope N__law_same ["found", "due"] (defScope s__law_same) := ⟨rfl, rfl, rfl, by decide +kernel, rfl, by decide +kernel, by decide +kernel⟩
section
variable {P : Program} {w : World} {K : PySem.W.Frag} {mg : Str → Option Value} {base : Heap}
theorem cal__law_same (b : Bi mg) (D : Dfn K mg "_law_same" s__law_same ["found", "due"]) : ∀ n : Nat, Cal P w K mg base n "_law_same" (spSame K n)
  | 0 => D.none fun vs H Q E h => by
    obtain ⟨v, u, d, _, _, _, h, _⟩ := h
    omega
  | n + 1 => by
    have c__law_same : Cal P w K mg base n "_law_same" (spSame K n) := cal__law_same b D n
    refine D.cal sc__law_same (fun vs H Q E h => ?_) (fun f cdv A outer s H vs Q E hr h => ?_)
    · obtain ⟨v, u, d, rfl, _⟩ := h
      rfl
    obtain ⟨v, u, d, rfl, hv, hd, hdep, hf, q⟩ := h
    have hu := hr.units
    refine ⟨_, (pss_cons (ps_if (pt_val (pe_callB call_isiT (by rfl) b.isinstance bt_isinstance (pa_cons (pv 1) (pa_cons (pe_tup (pa_cons (pe_bltn (v := .ty "list") (by rfl) b.list bt_list rfl) (pa_cons (pe_bltn (v := .ty "tuple") (by rfl) b.tuple bt_tuple rfl) pa_nil))) pa_nil))))
        (pss_cons (ps_if (PW.pt (pw_or (pt_cmpR (op_neX hu) (pe_callB call_isi (by rfl) b.isinstance bt_isinstance (pa_cons (pv 0) (pa_cons (pe_bltn (v := .ty "list") (by rfl) b.list bt_list rfl) pa_nil))) (pe_callB call_isi (by rfl) b.isinstance bt_isinstance (pa_cons (pv 1) (pa_cons (pe_bltn (v := .ty "list") (by rfl) b.list bt_list rfl) pa_nil))) (nomark _)) (pw_or1 (pt_cmpR (op_neX hu) (pe_callB call_isi (by rfl) b.isinstance bt_isinstance (pa_cons (pv 0) (pa_cons (pe_bltn (v := .ty "tuple") (by rfl) b.tuple bt_tuple rfl) pa_nil))) (pe_callB call_isi (by rfl) b.isinstance bt_isinstance (pa_cons (pv 1) (pa_cons (pe_bltn (v := .ty "tuple") (by rfl) b.tuple bt_tuple rfl) pa_nil))) (nomark _)))))
        (pss_one (ps_ret pe_bl))
        pss_nil)
      (pss_one (ps_ret (pe_and (pe_cmpR (op_eqX hu) (pe_callB call_lenX (by rfl) b.len bt_len (pa_cons (pv 0) pa_nil)) (pe_callB call_lenX (by rfl) b.len bt_len (pa_cons (pv 1) pa_nil)) (nomark _)) (pe_one (pe_callB (cr_all rfl) (by rfl) b.all bt_all (pa_cons (pe_lc (own := [("mine", 2), ("theirs", 3)]) (g := (gTup K 2 (gCons (gName 2) (gCons (gName 3) gNil)))) (tt := tYes) (te := (tCal _ (tCons (tVar 2) (tCons (tVar 3) tNil)))) (by rfl) sc__law_same.nd (pi_zipA (by rfl) b.zip (pa_cons (pv 0) (pa_cons (pv 1) pa_nil))) (blkOk_by (N := N__law_same) (sc := defScope s__law_same) (by decide +kernel)) (fun _ _ _ _ _ => (pg_tup rfl (pgs_cons (pg_name (i := 2) sc__law_same.nd rfl (.inl rfl)) (pgs_cons (pg_name (i := 3) sc__law_same.nd rfl (.inl rfl)) pgs_nil)))) (fun _ _ _ _ _ => pts_nil) (fun _ _ _ _ _ => (pe_c c__law_same hr (by omega) rfl (pa_cons (pv 2) (pa_cons (pv 3) pa_nil))))) pa_nil)))))))
        pss_nil)
      (pss_cons (ps_if (pt_val (pe_callB call_isi (by rfl) b.isinstance bt_isinstance (pa_cons (pv 1) (pa_cons (pe_bltn (v := .ty "dict") (by rfl) b.dict bt_dict rfl) pa_nil))))
        pss_never
        pss_nil)
      (pss_cons (ps_if (PW.pt (pw_or (pt_val (pe_callB call_isi (by rfl) b.isinstance bt_isinstance (pa_cons (pv 1) (pa_cons (pe_bltn (v := .ty "bool") (by rfl) b.bool bt_bool rfl) pa_nil)))) (pw_or1 (pt_val (pe_callB call_isi (by rfl) b.isinstance bt_isinstance (pa_cons (pv 0) (pa_cons (pe_bltn (v := .ty "bool") (by rfl) b.bool bt_bool rfl) pa_nil)))))))
        (pss_one (ps_ret (pe_and (pe_callB call_isi (by rfl) b.isinstance bt_isinstance (pa_cons (pv 1) (pa_cons (pe_bltn (v := .ty "bool") (by rfl) b.bool bt_bool rfl) pa_nil))) (pe_and (pe_callB call_isi (by rfl) b.isinstance bt_isinstance (pa_cons (pv 0) (pa_cons (pe_bltn (v := .ty "bool") (by rfl) b.bool bt_bool rfl) pa_nil))) (pe_one (pe_cmpR (op_eqX hu) (pv 0) (pv 1) (nomark _)))))))
        pss_nil)
      (pss_cons (ps_if (PW.pt (pw_or (pt_cmpR op_isX (pv 1) pe_non (nomark _)) (pw_or1 (pt_cmpR op_isX (pv 0) pe_non (nomark _)))))
        (pss_one (ps_ret (pe_and (pe_cmpR op_isX (pv 1) pe_non (nomark _)) (pe_one (pe_cmpR op_isX (pv 0) pe_non (nomark _))))))
        pss_nil)
      (pss_cons (ps_if (PW.pt (pw_or (pt_cmpR (op_neX hu) (pe_callB call_isi (by rfl) b.isinstance bt_isinstance (pa_cons (pv 1) (pa_cons (pe_bltn (v := .ty "int") (by rfl) b.int bt_int rfl) pa_nil))) (pe_callB call_isi (by rfl) b.isinstance bt_isinstance (pa_cons (pv 0) (pa_cons (pe_bltn (v := .ty "int") (by rfl) b.int bt_int rfl) pa_nil))) (nomark _)) (pw_or1 (pt_cmpR (op_neX hu) (pe_callB call_isi (by rfl) b.isinstance bt_isinstance (pa_cons (pv 1) (pa_cons (pe_bltn (v := .ty "str") (by rfl) b.str bt_str rfl) pa_nil))) (pe_callB call_isi (by rfl) b.isinstance bt_isinstance (pa_cons (pv 0) (pa_cons (pe_bltn (v := .ty "str") (by rfl) b.str bt_str rfl) pa_nil))) (nomark _)))))
        (pss_one (ps_ret pe_bl))
        pss_nil)
      (pss_one (ps_ret (pe_and (pe_not (pe_callB call_isiT (by rfl) b.isinstance bt_isinstance (pa_cons (pv 0) (pa_cons (pe_tup (pa_cons (pe_bltn (v := .ty "list") (by rfl) b.list bt_list rfl) (pa_cons (pe_bltn (v := .ty "tuple") (by rfl) b.tuple bt_tuple rfl) (pa_cons (pe_bltn (v := .ty "dict") (by rfl) b.dict bt_dict rfl) pa_nil)))) pa_nil)))) (pe_one (pe_cmpR (op_eqX hu) (pv 0) (pv 1) (nomark _))))))))))), ?_⟩
    have X0 : ∀ {H' : Hp}, Ex H H' → EvD K (tVar 0) [some v, some u, none, none] H' d := fun e => evd_var rfl (dp_ex e d v hv)
    have X1 : ∀ {H' : Hp}, Ex H H' → EvD K (tVar 1) [some v, some u, none, none] H' d := fun e => evd_var rfl (dp_ex e d u hd)
    refine Evl.q_when (Evl.et_B (ev_isi2 (X1 (Evl.Ex.refl H)))) (fun hb H1 e1 => ?_) (fun hb H1 e1 => ?_)
    · -- two lists, two tuples
      refine Evl.q_when (b := false) (Evl.et_is (Evl.et_or (Evl.et_test (ev_neB (ev_isi (X0 e1) (kit_list d)) (ev_isi (X1 e1) (kit_list d)))) (fun _ => Evl.et_test (ev_neB (ev_isi (X0 e1) (kit_tuple d)) (ev_isi (X1 e1) (kit_tuple d))))) (by simp)) (fun z => by cases z) (fun _ H2 e2 => ?_)
      have e12 := e1.trans e2
      obtain ⟨a, xs, c, ys, ds, rfl, rfl, hz, hx, hy, hdd⟩ : ∃ (a : Addr) (xs : List V) (c : Addr) (ys : List V) (ds : List PyData), v = .ref a ∧ u = .ref c ∧ ((SqL K H a xs ∧ SqL K H c ys) ∨ (SqT K H a xs ∧ SqT K H c ys)) ∧ DpAll K H xs ds ∧ DpAll K H ys ds ∧ (d = .list ds ∨ d = .tuple ds) := by
        cases hv with
        | lst h1 a1 =>
          cases hd with
          | lst h2 a2 => exact ⟨_, _, _, _, _, rfl, rfl, .inl ⟨h1, h2⟩, a1, a2, .inl rfl⟩
        | tup h1 a1 =>
          cases hd with
          | tup h2 a2 => exact ⟨_, _, _, _, _, rfl, rfl, .inr ⟨h1, h2⟩, a1, a2, .inr rfl⟩
        | non => cases hb
        | bl b => cases hb
        | int i => cases hb
        | str x => cases hb
      have dm : lenOf d = some ds.length := by rcases hdd with rfl | rfl <;> rfl
      have hn : xs.length ≤ 100000 := by
        rw [dpl_len hx]
        rcases hdd with rfl | rfl <;> (simp only [few, Bool.and_eq_true, decide_eq_true_eq] at hf; exact hf.1)
      have each : ∀ i (d' : PyData), ds[i]? = some d' → d'.depth < n ∧ few d' = true := fun i d' h => by
        have h1 := depth_get h
        rcases hdd with rfl | rfl <;> (simp only [few, Bool.and_eq_true, decide_eq_true_eq] at hf; simp only [PyData.depth] at hdep; exact ⟨by omega, fews_get hf.2 h⟩)
      refine Evl.s_ret (v := .bl true) (Evl.ev_is (Evl.ev_andV (a := true) (b := true) (Evl.ev_is (ev_eqI (ev_lenD (X0 e12) dm) (ev_lenD (X1 e12) dm)) (by rw [decide_eq_true rfl])) (fun _ => ev_all (n := xs.length) ?_)) rfl) (fun H3 e3 => q H3 (e12.trans e3))
      have hz2 : (SqL K H2 a xs ∧ SqL K H2 c ys) ∨ (SqT K H2 a xs ∧ SqT K H2 c ys) := by
        rcases hz with ⟨h1, h2⟩ | ⟨h1, h2⟩
        · exact .inl ⟨Evl.ex_l e12 h1, Evl.ex_l e12 h2⟩
        · exact .inr ⟨Evl.ex_t e12 h1, Evl.ex_t e12 h2⟩
      have z := el_zip (K := K) (σ := [some (.ref a), some (.ref c), none, none]) (H := H2) (ta := tVar 0) (tb := tVar 1) (te := tCal (spSame K n) (tCons (tVar 2) (tCons (tVar 3) tNil))) (j := 2) (k := 3) (vs := [2, 3]) hz2 (by rw [dpl_len hx, dpl_len hy]) hn (Evl.ev_var rfl) (Evl.ev_var rfl) (fun _ _ => rfl) (fun _ => .bl true) (fun i x y H3 e3 gx gy => by
        obtain ⟨d1, g1, p1⟩ := dpl_get hx gx
        obtain ⟨d2, g2, p2⟩ := dpl_get hy gy
        rw [g1] at g2
        cases g2
        have e := e12.trans e3
        exact ev_same (ead_cons (evd_var rfl (dp_ex e d1 x p1)) (ead_cons (evd_var rfl (dp_ex e d1 y p2)) ead_nil)) (each i d1 g1).1 (each i d1 g1).2)
      have em : (List.range xs.length).map (fun _ => V.bl true) = List.replicate xs.length (V.bl true) := by
        rw [List.map_const', List.length_range]
      rw [em] at z
      exact z
    · -- one that has no things in it
      refine Evl.q_when (b := false) (Evl.et_is (Evl.et_B (ev_isi (X1 e1) (kit_dict d))) (by cases hd <;> rfl)) (fun z => by cases z) (fun _ H2 e2 => ?_)
      have e12 := e1.trans e2
      by_cases hB : isBoolD d = true
      · obtain ⟨t, rfl⟩ : ∃ t, d = .bool t := by cases d <;> first | exact ⟨_, rfl⟩ | cases hB
        cases hv
        cases hd
        refine Evl.q_when (b := true) (Evl.et_is (Evl.et_or (Evl.et_B (ev_isi (X1 e12) (kit_bool _))) (fun _ => Evl.et_B (ev_isi (X0 e12) (kit_bool _)))) rfl) (fun _ H3 e3 => ?_) (fun z => by cases z)
        have e13 := e12.trans e3
        refine Evl.s_ret (v := .bl true) (Evl.ev_is (Evl.ev_andV (a := true) (b := true) (ev_isi (X1 e13) (kit_bool _)) (fun _ => Evl.ev_is (Evl.ev_andV (a := true) (b := true) (ev_isi (X0 e13) (kit_bool _)) (fun _ => Evl.ev_is (ev_eq rfl (Evl.ev_var rfl) (Evl.ev_var rfl)) (by rw [decide_eq_true rfl]))) rfl)) rfl) (fun H4 e4 => q H4 (e13.trans e4))
      refine Evl.q_when (b := false) (Evl.et_is (Evl.et_or (Evl.et_B (ev_isi (X1 e12) (kit_bool _))) (fun _ => Evl.et_B (ev_isi (X0 e12) (kit_bool _)))) (by rw [Bool.or_self]; exact Bool.eq_false_iff.mpr hB)) (fun z => by cases z) (fun _ H3 e3 => ?_)
      have e13 := e12.trans e3
      by_cases hN : d = .none
      · subst hN
        cases hv
        cases hd
        refine Evl.q_when (b := true) (Evl.et_is (Evl.et_or (Evl.et_test (ev_isN (Evl.ev_var rfl))) (fun _ => Evl.et_test (ev_isN (Evl.ev_var rfl)))) rfl) (fun _ H4 e4 => ?_) (fun z => by cases z)
        exact Evl.s_ret (v := .bl true) (Evl.ev_is (Evl.ev_andV (a := true) (b := true) (Evl.ev_is (ev_isN (Evl.ev_var (v := .non) rfl)) rfl) (fun _ => Evl.ev_is (ev_isN (Evl.ev_var (v := .non) rfl)) rfl)) rfl) (fun H5 e5 => q H5 ((e13.trans e4).trans e5))
      have nv : ∀ {x : V} {H' : Hp}, Dp K H' x d → decide (x = .non) = false := fun {x H'} h => decide_eq_false fun z => by
        subst z
        cases h
        exact hN rfl
      refine Evl.q_when (b := false) (Evl.et_is (Evl.et_or (Evl.et_test (ev_isN (Evl.ev_var rfl))) (fun _ => Evl.et_test (ev_isN (Evl.ev_var rfl)))) (by rw [nv hd, nv hv] <;> rfl)) (fun z => by cases z) (fun _ H4 e4 => ?_)
      have e14 := e13.trans e4
      refine Evl.q_when (b := false) (Evl.et_is (Evl.et_or (Evl.et_test (ev_neB (ev_isi (X1 e14) (kit_int d)) (ev_isi (X0 e14) (kit_int d)))) (fun _ => Evl.et_test (ev_neB (ev_isi (X1 e14) (kit_str d)) (ev_isi (X0 e14) (kit_str d))))) (by simp)) (fun z => by cases z) (fun _ H5 e5 => ?_)
      have e15 := e14.trans e5
      have sc : isSeqD d = false ∧ v = u ∧ scal v u = true := by
        cases hv with
        | non => exact absurd rfl hN
        | bl b => exact absurd rfl hB
        | int i => cases hd; exact ⟨rfl, rfl, rfl⟩
        | str x => cases hd; exact ⟨rfl, rfl, rfl⟩
        | lst h1 a1 => cases hb
        | tup h1 a1 => cases hb
      obtain ⟨s1, s2, s3⟩ := sc
      exact Evl.s_ret (v := .bl true) (Evl.ev_is (Evl.ev_andV (a := true) (b := true) (Evl.ev_is (Evl.ev_notV (ev_isi3 (X0 e15))) (by rw [s1] <;> rfl)) (fun _ => Evl.ev_is (ev_eq s3 (Evl.ev_var rfl) (Evl.ev_var rfl)) (by rw [decide_eq_true s2]))) rfl) (fun H6 e6 => q H6 (e15.trans e6))
end
abbrev s__law_copied : Stmt := topS 21
abbrev N__law_copied : List Str := ["thing", "key", "some", "one"]
theorem sc__law_copied : FnScope N__law_copied ["thing"] (defScope s__law_copied) := ⟨rfl, rfl, rfl, by decide +kernel, rfl, by decide +kernel, by decide +kernel⟩
section
variable {P : Program} {w : World} {K : PySem.W.Frag} {mg : Str → Option Value} {base : Heap}
theorem cal__law_copied (b : Bi mg) (D : Dfn K mg "_law_copied" s__law_copied ["thing"]) : ∀ n : Nat, Cal P w K mg base n "_law_copied" (spCopied K n)
  | 0 => D.none fun vs H Q E h => by
    obtain ⟨v, d, _, _, h, _⟩ := h
    omega
  | n + 1 => by
    have c__law_copied : Cal P w K mg base n "_law_copied" (spCopied K n) := cal__law_copied b D n
    refine D.cal sc__law_copied (fun vs H Q E h => ?_) (fun f cdv A outer s H vs Q E hr h => ?_)
    · obtain ⟨v, d, rfl, _⟩ := h
      rfl
    obtain ⟨v, d, rfl, hv, hdep, hf, q⟩ := h
    have hu := hr.units
    refine ⟨_, (pss_cons (ps_if (pt_val (pe_callB call_isi (by rfl) b.isinstance bt_isinstance (pa_cons (pv 0) (pa_cons (pe_bltn (v := .ty "dict") (by rfl) b.dict bt_dict rfl) pa_nil))))
        pss_never
        pss_nil)
      (pss_cons (ps_set (i := 2) sc__law_copied.nd rfl (.inl rfl) (pe_ifExp (pt_val (pe_callB call_isiT (by rfl) b.isinstance bt_isinstance (pa_cons (pv 0) (pa_cons (pe_tup (pa_cons (pe_bltn (v := .ty "list") (by rfl) b.list bt_list rfl) (pa_cons (pe_bltn (v := .ty "tuple") (by rfl) b.tuple bt_tuple rfl) pa_nil))) pa_nil)))) (pe_lc (own := [("one", 3)]) (g := (gName 3)) (tt := tYes) (te := (tCal _ (tCons (tVar 3) tNil))) (by rfl) sc__law_copied.nd (pi_seq (pv 0)) (blkOk_by (N := N__law_copied) (sc := defScope s__law_copied) (by decide +kernel)) (fun _ _ _ _ _ => (pg_name (i := 3) sc__law_copied.nd rfl (.inl rfl))) (fun _ _ _ _ _ => pts_nil) (fun _ _ _ _ _ => (pe_c c__law_copied hr (by omega) rfl (pa_cons (pv 3) pa_nil)))) (pv 0)))
      (pss_one (ps_ret (pe_ifExp (pt_val (pe_callB call_isi (by rfl) b.isinstance bt_isinstance (pa_cons (pv 0) (pa_cons (pe_bltn (v := .ty "tuple") (by rfl) b.tuple bt_tuple rfl) pa_nil)))) (pe_callTy call_tupleX (by rfl) b.tuple bt_tuple (pa_cons (pv 2) pa_nil)) (pv 2)))))), ?_⟩
    have X0 : ∀ {y1 y2 y3 : Option V} {H' : Hp}, Ex H H' → EvD K (tVar 0) [some v, y1, y2, y3] H' d := fun e => evd_var rfl (dp_ex e d v hv)
    refine Evl.q_when (b := false) (Evl.et_is (Evl.et_B (ev_isi (X0 (Evl.Ex.refl H)) (kit_dict d))) (by cases hv <;> rfl)) (fun z => by cases z) (fun _ H1 e1 => ?_)
    refine (Evl.et_B (ev_isi2 (X0 e1))) H1 (Evl.Ex.refl H1) _ (fun H2 e2 => ?_)
    have e12 := e1.trans e2
    refine ite2 (fun hb => ?_) (fun hb => ?_)
    · obtain ⟨a, xs, ds, rfl, hz, hx, hdd⟩ : ∃ (a : Addr) (xs : List V) (ds : List PyData), v = .ref a ∧ (SqL K H a xs ∨ SqT K H a xs) ∧ DpAll K H xs ds ∧ (d = .list ds ∨ d = .tuple ds) := by
        cases hv with
        | lst h1 a1 => exact ⟨_, _, _, rfl, .inl h1, a1, .inl rfl⟩
        | tup h1 a1 => exact ⟨_, _, _, rfl, .inr h1, a1, .inr rfl⟩
        | non => cases hb
        | bl b => cases hb
        | int i => cases hb
        | str x => cases hb
      have hn : xs.length ≤ 100000 := by
        rw [dpl_len hx]
        rcases hdd with rfl | rfl <;> (simp only [few, Bool.and_eq_true, decide_eq_true_eq] at hf; exact hf.1)
      have each : ∀ (i : Nat) (d' : PyData), ds[i]? = some d' → d'.depth < n ∧ few d' = true := fun i d' h => by
        have h1 := depth_get h
        rcases hdd with rfl | rfl <;> (simp only [few, Bool.and_eq_true, decide_eq_true_eq] at hf; simp only [PyData.depth] at hdep; exact ⟨by omega, fews_get hf.2 h⟩)
      have hz2 : SqL K H2 a xs ∨ SqT K H2 a xs := hz.elim (fun h => .inl (Evl.ex_l e12 h)) (fun h => .inr (Evl.ex_t e12 h))
      refine lc_trees (K := K) (σ := [some (.ref a), none, none, none]) (j := 3) (vs := [3]) hz2 (dpAll_ex e12 ds xs hx) hn (Evl.ev_var rfl) (fun _ => rfl) (fun i x d' H3 e3 gx gd Q' q' => ?_) _ (fun Dl us L H3 e3 hD h3 t nd fr => ?_)
      · obtain ⟨d2, g2, p2⟩ := dpl_get hx gx
        rw [gd] at g2
        cases g2
        exact ⟨x, rfl, x, d', rfl, dp_ex (e12.trans e3) d' x p2, (each i d' gd).1, (each i d' gd).2, fun u L H' e t n f => q' u L H' e t n f⟩
      · have e13 := e12.trans e3
        rcases hdd with rfl | rfl
        · refine (Evl.et_B (ev_isi (X0 e13) (kit_tuple _))) H3 (Evl.Ex.refl H3) _ (fun H4 e4 => ?_)
          refine iteF ?_
          exact ⟨.ref Dl, rfl, q _ (Dl :: L) H4 (e13.trans e4) (.lst (e4 _ _ h3) (t.ex e4)) nd (fun b hb => by
            rcases List.mem_cons.mp hb with rfl | hb
            · exact Evl.fresh_back e12 hD
            · exact Evl.fresh_back e12 (fr b hb))⟩
        · refine (Evl.et_B (ev_isi (X0 e13) (kit_tuple _))) H3 (Evl.Ex.refl H3) _ (fun H4 e4 => ?_)
          refine iteT ?_
          refine ⟨.ref Dl, rfl, Dl, us, rfl, .inl ⟨SqL.of (e4 _ _ h3), fun l hl => ?_⟩⟩
          exact q _ L _ ((e13.trans e4).trans (Evl.Ex.new hl)) (.tup (SqT.of upd_same) ((t.ex e4).ex (Evl.Ex.new hl))) (List.nodup_cons.mp nd).2 (fun b hb => Evl.fresh_back e12 (fr b hb))
    · refine ⟨v, rfl, ?_⟩
      have leaf : Tree K H2 v d [] ∧ isSeq d = false := by
        cases hv with
        | lst h1 a1 => exact absurd rfl hb
        | tup h1 a1 => exact absurd rfl hb
        | non => exact ⟨.non, rfl⟩
        | bl b => exact ⟨.bl b, rfl⟩
        | int i => exact ⟨.int i, rfl⟩
        | str x => exact ⟨.str x, rfl⟩
      refine (Evl.et_is (b := false) (Evl.et_B (ev_isi (X0 e12) (kit_tuple d))) (by cases hv <;> first | rfl | exact absurd rfl hb)) H2 (Evl.Ex.refl H2) _ (fun H3 e3 => ?_)
      refine iteF ?_
      exact ⟨v, rfl, q v [] H3 (e12.trans e3) (leaf.1.ex e3) List.nodup_nil (by simp)⟩
end
abbrev s__law_spoilt : Stmt := topS 20
abbrev N__law_spoilt : List Str := ["thing", "part"]
theorem sc__law_spoilt : FnScope N__law_spoilt ["thing"] (defScope s__law_spoilt) := ⟨rfl, rfl, rfl, by decide +kernel, rfl, by decide +kernel, by decide +kernel⟩
section
variable {P : Program} {w : World} {K : PySem.W.Frag} {mg : Str → Option Value} {base : Heap}
theorem cal__law_spoilt (b : Bi mg) (D : Dfn K mg "_law_spoilt" s__law_spoilt ["thing"]) : ∀ n : Nat, Cal P w K mg base n "_law_spoilt" (spSpoilt K n)
  | 0 => D.none fun vs H Q E h => by
    obtain ⟨v, d, L, _, _, _, h, _⟩ := h
    omega
  | n + 1 => by
    have c__law_spoilt : Cal P w K mg base n "_law_spoilt" (spSpoilt K n) := cal__law_spoilt b D n
    refine D.cal sc__law_spoilt (fun vs H Q E h => ?_) (fun f cdv A outer s H vs Q E hr h => ?_)
    · obtain ⟨v, d, L, rfl, _⟩ := h
      rfl
    obtain ⟨v, d, L, rfl, hv, hL, hdep, hf, q⟩ := h
    refine ⟨_, (Evl.pss_cut (ps_if (pt_val (pe_callB call_isiT (by rfl) b.isinstance bt_isinstance (pa_cons (pv 0) (pa_cons (pe_tup (pa_cons (pe_bltn (v := .ty "list") (by rfl) b.list bt_list rfl) (pa_cons (pe_bltn (v := .ty "tuple") (by rfl) b.tuple bt_tuple rfl) pa_nil))) pa_nil))))
        (pss_one (ps_for PassesOwn.never rfl (pi_seq (pv 0)) (pg_name (i := 1) sc__law_spoilt.nd rfl (.inl rfl))
        (pss_one (ps_expr (pe_c c__law_spoilt hr (by omega) rfl (pa_cons (pv 1) pa_nil))))))
        pss_nil)
      (pss_one (ps_if (pt_val (pe_callB call_isi (by rfl) b.isinstance bt_isinstance (pa_cons (pv 0) (pa_cons (pe_bltn (v := .ty "list") (by rfl) b.list bt_list rfl) pa_nil))))
        (pss_one (ps_expr (pe_bm PySem.F.plainAttrs_list PySem.F.slot_list_append PySem.F.type_list_append mt_append (pv 0) (pa_cons pe_str pa_nil))))
        pss_nil))), ?_⟩
    refine ⟨fun σ' H' => ∃ y, σ' = [some v, y] ∧ ExL L H H' ∧ Tree K H' v (half d) L, ?_, ?_⟩
    · refine (Evl.et_B (ev_isi2 (evd_var (i := 0) rfl (Tree.dp _ _ _ hv)))) H (Evl.Ex.refl H) _ (fun H1 e1 => ?_)
      refine ite2 (fun hb => ?_) (fun hb => ?_)
      · -- its things, one by one
        have turn : ∀ (a : Addr) (xs : List V) (ds : List PyData) (Lc : List Addr), v = .ref a → (d = .list ds ∨ d = .tuple ds) → (∀ b ∈ Lc, b ∈ L) → Lc.Nodup → xs.length ≤ ds.length →
            ∀ (Nx Bk : L2.St → Hp → Prop) (i : Nat) (x : V) (σ' : L2.St) (H2 : Hp), xs[i]? = some x → (∃ y, σ' = [some v, y] ∧ ExL L H H2 ∧ Trees K H2 xs (part ds i) Lc ∧ ∀ b o, H1 b = some o → b ∉ Lc → H2 b = some o) →
              (∀ y H3, ExL L H H3 → Trees K H3 xs (part ds (i + 1)) Lc → (∀ b o, H1 b = some o → b ∉ Lc → H3 b = some o) → Nx [some v, y] H3) →
              tDrop (tCal (spSpoilt K n) (tCons (tVar 1) tNil)) { nx := Nx, rt := Q, ct := Nx, bk := Bk } (σ'.set 1 (some x)) H2 := by
          rintro a xs ds Lc rfl hdd sub nd hlen Nx Bk i x σ' H2 hx ⟨y, rfl, ex, ts, fr⟩ k
          obtain ⟨d1, Li, h1, h2, h3, h4, h5⟩ := trees_put _ _ _ i x ts hx
          have h0 := part_at h1
          have hd1 := depth_get h0
          have g : d1.depth < n ∧ few d1 = true := by
            rcases hdd with rfl | rfl <;> (simp only [few, Bool.and_eq_true, decide_eq_true_eq] at hf; simp only [PyData.depth] at hdep; exact ⟨by omega, fews_get hf.2 h0⟩)
          refine ⟨x, rfl, x, d1, Li, rfl, h2, h4 nd, g.1, g.2, fun H3 e3 t3 => ?_⟩
          have z := h5 H3 (spoil d1) nd e3 t3
          rw [part_set h0] at z
          exact k (some x) H3 (ex.trans (e3.mono fun b hb => sub b (h3 b hb))) z (fun b o e nb => e3 b o (fr b o e nb) fun hb => nb (h3 b hb))
        cases hv with
        | @lst a xs ds Lc hs ht =>
          have nd := (List.nodup_cons.mp hL)
          have hlen : xs.length = ds.length := Trees.len ht
          refine .inl ⟨.ref a, rfl, a, rfl, ⟨xs, SqL.of (e1 _ _ hs)⟩, for_it (n := xs.length) walk_list (fun i σ' H2 => ∃ y, σ' = [some (.ref a), y] ∧ ExL (a :: Lc) H H2 ∧ Trees K H2 xs (part ds i) Lc ∧ ∀ b o, H1 b = some o → b ∉ Lc → H2 b = some o) ⟨none, rfl, ExL.of e1, by rw [part_0]; exact ht.ex e1, fun b o e _ => e⟩ (fun i σ' H2 hi p => ?_) (fun i x σ' H2 H3 hi p y => ?_) (fun σ' H2 p => ?_)⟩
          · obtain ⟨y, _, _, _, fr⟩ := p
            exact SqL.of (fr _ _ (e1 _ _ hs) nd.1)
          · obtain ⟨rfl, hx⟩ := y
            exact turn a xs ds Lc rfl (.inl rfl) (fun b hb => List.mem_cons_of_mem _ hb) nd.2 (by omega) _ _ i x σ' _ hx p (fun y H3 g1 g2 g3 => ⟨y, rfl, g1, g2, g3⟩)
          · obtain ⟨y, rfl, ex, ts, fr⟩ := p
            rw [hlen, part_all] at ts
            exact ⟨y, rfl, ex, .lst (fr _ _ (e1 _ _ hs) nd.1) ts⟩
        | @tup a xs ds Lc hs ht =>
          have hlen : xs.length = ds.length := Trees.len ht
          have hT : ∀ {H2 : Hp}, (∀ b o, H1 b = some o → b ∉ L → H2 b = some o) → SqT K H2 a xs := fun {H2} fr => exl_t (L := L) (fun b o e nb => fr b o e nb) (fun b hb => by
            obtain ⟨zs, z⟩ := Trees.own _ _ _ ht b hb
            exact ⟨zs, e1 _ _ z⟩) (Evl.ex_t e1 hs)
          refine .inr ⟨.ref a, rfl, a, rfl, ⟨xs, Evl.ex_t e1 hs⟩, for_it (n := xs.length) walk_tup (fun i σ' H2 => ∃ y, σ' = [some (.ref a), y] ∧ ExL L H H2 ∧ Trees K H2 xs (part ds i) L ∧ ∀ b o, H1 b = some o → b ∉ L → H2 b = some o) ⟨none, rfl, ExL.of e1, by rw [part_0]; exact ht.ex e1, fun b o e _ => e⟩ (fun i σ' H2 hi p => ?_) (fun i x σ' H2 H3 hi p y => ?_) (fun σ' H2 p => ?_)⟩
          · obtain ⟨y, _, _, _, fr⟩ := p
            exact hT fr
          · obtain ⟨rfl, hx⟩ := y
            exact turn a xs ds L rfl (.inr rfl) (fun b hb => hb) hL (by omega) _ _ i x σ' _ hx p (fun y H3 g1 g2 g3 => ⟨y, rfl, g1, g2, g3⟩)
          · obtain ⟨y, rfl, ex, ts, fr⟩ := p
            rw [hlen, part_all] at ts
            exact ⟨y, rfl, ex, .tup (hT fr) ts⟩
        | non => cases hb
        | bl b => cases hb
        | int i => cases hb
        | str x => cases hb
      · refine ⟨none, rfl, ExL.of e1, ?_⟩
        cases hv with
        | lst h1 a1 => exact absurd rfl hb
        | tup h1 a1 => exact absurd rfl hb
        | non => exact .non
        | bl b => exact .bl b
        | int i => exact .int i
        | str x => exact .str x
    · rintro σ' H1 ⟨y, rfl, ex, t⟩
      refine (Evl.et_B (ev_isi (evd_var (i := 0) rfl (Tree.dp _ _ _ t)) (kit_list _))) H1 (Evl.Ex.refl H1) _ (fun H2 e2 => ?_)
      have t2 := t.ex e2
      have ex2 := ex.trans (ExL.of (L := L) e2)
      cases d with
      | list ds =>
        refine iteT ?_
        have hdl : ds.length ≤ 100000 := by
          simp only [few, Bool.and_eq_true, decide_eq_true_eq] at hf
          exact hf.1
        simp only [half] at t2
        cases t2 with
        | @lst a xs _ Lc hs ht =>
          have nd := (List.nodup_cons.mp hL)
          refine ⟨.ref a, rfl, .inl ⟨rfl, _, SqL.of hs⟩, a, xs, .str "late", rfl, rfl, hs, Nat.lt_of_le_of_lt (by rw [Trees.len ht, spoils_len]; exact hdl) (by decide : 100000 < sizeLine), ?_⟩
          have ea : ExL [a] H2 (upd H2 a (.lst (xs ++ [.str "late"]))) := fun b o e n => by
            rw [upd_ne (fun z => n (by rw [z]; exact List.mem_singleton.mpr rfl))]
            exact e
          have own1 : ∀ b ∈ [a], ∃ zs, H2 b = some (.lst zs) := fun b hb => by
            rw [List.mem_singleton.mp hb]
            exact ⟨_, hs⟩
          refine q _ (ex2.trans (ea.mono fun b hb => by rw [List.mem_singleton.mp hb]; exact List.mem_cons_self)) (.lst upd_same ?_)
          have z := Trees.snoc (Trees.frame ea own1 _ _ _ ht fun b hb z => by
            rw [List.mem_singleton.mp z] at hb
            exact nd.1 hb) (Tree.str "late")
          rw [List.append_nil] at z
          exact z
      | tuple ds => exact iteF (q H2 ex2 t2)
      | none => exact iteF (q H2 ex2 t2)
      | bool b => exact iteF (q H2 ex2 t2)
      | int i => exact iteF (q H2 ex2 t2)
      | str x => exact iteF (q H2 ex2 t2)
      | dict k => exact iteF (q H2 ex2 t2)
end
abbrev s__law_twice : Stmt := topS 22
abbrev N__law_twice : List Str := ["due", "first", "other", "found", "spoilt"]
theorem sc__law_twice : FnScope N__law_twice ["due", "first", "other"] (defScope s__law_twice) := ⟨rfl, rfl, rfl, by decide +kernel, rfl, by decide +kernel, by decide +kernel⟩
section
theorem gives_twice {X : Cx} {n k : Nat} {g : Addr} {cdg : Value} (b : Bi X.mg) (c__law_copied : Cal X.prog X.w X.K X.mg X.base n "_law_copied" (spCopied X.K n)) (c__law_same : Cal X.prog X.w X.K X.mg X.base (n + 1) "_law_same" (spSame X.K (n + 1))) (c__law_spoilt : Cal X.prog X.w X.K X.mg X.base n "_law_spoilt" (spSpoilt X.K n)) (hk : n + 1 ≤ k) :
    Gives2 X k N__law_twice "_law_twice" (defScope s__law_twice) g cdg (defBody s__law_twice) "first" "other" (TTwice X.K n) := by
  intro f1 c1 f2 c2 v s H Q tl1 tl2 hr a_first a_other hc1 hc2 hT
  obtain ⟨d, hv, hdep, hf, hf2, m1, m2, q⟩ := hT
  refine ⟨_, (pss_cons (ps_par (i := 3) (j := 4) (by rfl) sc__law_twice.nd rfl rfl (by decide) rfl rfl (pa_cons (a_first _ _) (pa_cons (pe_c c__law_copied hr (by omega) rfl (pa_cons (pv 0) pa_nil)) pa_nil)) (by rfl))
      (pss_cons (ps_if (pt_not (pt_val (pe_c c__law_same hr (by omega) rfl (pa_cons (pv 3) (pa_cons (pv 0) pa_nil)))))
        (pss_one (ps_ret pe_bl))
        pss_nil)
      (pss_cons (ps_expr (pe_c c__law_spoilt hr (by omega) rfl (pa_cons (pv 3) pa_nil)))
      (pss_cons (ps_expr (pe_c c__law_spoilt hr (by omega) rfl (pa_cons (pv 4) pa_nil)))
      (pss_one (ps_ret (pe_c c__law_same hr (by omega) rfl (pa_cons (pe_lst (pa_cons (pv 3) (pa_cons (a_other _ _) (pa_cons (a_first _ _) pa_nil)))) (pa_cons (pe_lst (pa_cons (pv 4) (pa_cons (pv 0) (pa_cons (pv 0) pa_nil)))) pa_nil))))))))), ?_⟩
  refine ⟨rfl, hc1, m1 H (Evl.Ex.refl H) _ fun u L H1 e1 t1 n1 fr1 => ?_⟩
  refine ⟨v, rfl, v, d, rfl, dp_ex e1 d v hv, hdep, hf, fun w L2 H2 e2 t2 n2 fr2 => ?_⟩
  refine ⟨u, w, rfl, ?_⟩
  have e02 := e1.trans e2
  refine ⟨u, rfl, v, rfl, u, v, d, rfl, dp_ex e2 d u (Tree.dp d u L t1), dp_ex e02 d v hv, by omega, hf, fun H3 e3 => ⟨true, rfl, ?_⟩⟩
  refine iteF ?_
  have e03 := e02.trans e3
  have t13 : Tree X.K H3 u d L := (t1.ex e2).ex e3
  have t23 : Tree X.K H3 w d L2 := t2.ex e3
  have apart : ∀ a ∈ L2, a ∉ L := fun a h z => by
    have q := fr2 a h
    obtain ⟨zs, q2⟩ := Tree.own _ _ _ t1 a z
    rw [q2] at q
    cases q
  refine ⟨u, rfl, u, d, L, rfl, t13, n1, hdep, hf, fun H4 x4 t14 => ?_⟩
  have e04 : Ex H H4 := fun a o h => x4 a o (e03 a o h) fun z => by
    have q := fr1 a z
    rw [h] at q
    cases q
  have t24 : Tree X.K H4 w d L2 := Tree.frame x4 (Tree.own _ _ _ t13) d w L2 t23 apart
  refine ⟨w, rfl, w, d, L2, rfl, t24, n2, hdep, hf, fun H5 x5 t25 => ?_⟩
  have e05 : Ex H H5 := fun a o h => x5 a o (e04 a o h) fun z => by
    have q := fr2 a z
    rw [e1 a o h] at q
    cases q
  have t15 : Tree X.K H5 u (spoil d) L := Tree.frame x5 (Tree.own _ _ _ t24) _ u L t14 fun a h z => apart a z h
  refine ⟨u, rfl, rfl, e05 _ _ hc2, m2 H5 e05 _ fun u6 L6 H6 e6 t6 n6 fr6 => ?_⟩
  have e06 := e05.trans e6
  refine ⟨rfl, e06 _ _ hc1, m1 H6 e06 _ fun u7 L7 H7 e7 t7 n7 fr7 => ?_⟩
  have e07 := e06.trans e7
  have e57 := e6.trans e7
  refine ⟨(by show 3 ≤ sizeLine; decide), fun p hp => ⟨w, rfl, v, rfl, v, rfl, (by show 3 ≤ sizeLine; decide), fun p2 hp2 => ?_⟩⟩
  have x8 : Ex H7 (upd H7 p (.lst [u, u6, u7])) := Evl.Ex.new hp
  have x9 : Ex (upd H7 p (.lst [u, u6, u7])) (upd (upd H7 p (.lst [u, u6, u7])) p2 (.lst [w, v, v])) := Evl.Ex.new hp2
  have x79 := x8.trans x9
  refine ⟨_, _, .list [spoil d, d, d], rfl, .lst (SqL.of (x9 _ _ upd_same)) ?_, .lst (SqL.of upd_same) ?_, ?_, ?_, fun H' e' => q H' ((e07.trans x79).trans e')⟩
  · exact .cons (dp_ex (e57.trans x79) _ u (Tree.dp _ _ _ t15)) (.cons (dp_ex (e7.trans x79) d u6 (Tree.dp _ _ _ t6)) (.cons (dp_ex x79 d u7 (Tree.dp _ _ _ t7)) .nil))
  · exact .cons (dp_ex (e57.trans x79) _ w (Tree.dp _ _ _ t25)) (.cons (dp_ex (e07.trans x79) d v hv) (.cons (dp_ex (e07.trans x79) d v hv) .nil))
  · simp only [PyData.depth, PyData.depthAll, spoil_depth]
    omega
  · simp [few, fews, hf, hf2]
end
abbrev s_need_text : Stmt := topS 10
abbrev N_need_text : List Str := ["text"]
theorem sc_need_text : FnScope N_need_text ["text"] (defScope s_need_text) := ⟨rfl, rfl, rfl, by decide +kernel, rfl, by decide +kernel, by decide +kernel⟩
abbrev s_end_of : Stmt := topS 11
abbrev N_end_of : List Str := ["text", "at", "is_word"]
theorem sc_end_of : FnScope N_end_of ["text", "at", "is_word"] (defScope s_end_of) := ⟨rfl, rfl, rfl, by decide +kernel, rfl, by decide +kernel, by decide +kernel⟩
structure GM (K : PySem.W.Frag) (mg : Str → Option Value) (aW aS : Addr) : Prop where
  WORDS : ∃ u, mg "WORDS" = some u ∧ L2.RelV (.ref aW) u
  words : ∀ H, SqT K H aW (Mk.wordsS.map V.str)
  SIGNS : ∃ u, mg "SIGNS" = some u ∧ L2.RelV (.ref aS) u
  signs : ∀ H, SqT K H aS (Mk.signsS.map V.str)
  LETTERS : ∃ u, mg "LETTERS" = some u ∧ L2.RelV (.str "abcdefghijklmnopqrstuvwxyz") u
  GREATS : ∃ u, mg "GREATS" = some u ∧ L2.RelV (.str "ABCDEFGHIJKLMNOPQRSTUVWXYZ") u
  FIGURES : ∃ u, mg "FIGURES" = some u ∧ L2.RelV (.str "0123456789") u
  MOST : ∃ u, mg "MOST" = some u ∧ L2.RelV (.int 2147483647) u
section
variable {P : Program} {w : World} {K : PySem.W.Frag} {mg : Str → Option Value} {base : Heap} {aW aS : Addr}
def spNeedText : Sp := fun vs H Q _ => ∃ x : Str, vs = [.str x] ∧ ∀ H', Ex H H' → Q .non H'
theorem cal_need_text (b : Bi mg) (D : Dfn K mg "need_text" s_need_text ["text"]) : Cal P w K mg base 1 "need_text" spNeedText := by
  refine D.cal sc_need_text (fun vs H Q E h => ?_) (fun f cdv A outer s H vs Q E hr h => ?_)
  · obtain ⟨x, rfl, _⟩ := h
    rfl
  obtain ⟨x, rfl, q⟩ := h
  refine ⟨_, (pss_one (ps_if (pt_cmpR op_isNotX (pe_callTy call_type4 (by rfl) b.type bt_type (pa_cons (pv 0) pa_nil)) (pe_bltn (v := .ty "str") (by rfl) b.str bt_str rfl) (nomark _))
        (pss_one ps_never)
        pss_nil)), ?_⟩
  refine ⟨_, rfl, _, _, rfl, .str x, .inr ⟨_, _, rfl, rfl, _, rfl, ?_⟩⟩
  refine iteF ?_
  exact q H (Evl.Ex.refl H)
def spEndOf : Sp := fun vs H Q _ => ∃ (cs : List Nat) (i : Nat) (wd : Bool), vs = [.str (SX.S cs), .int (i : Nat), .bl wd] ∧ i ≤ cs.length ∧ cs.length ≤ 10000000 ∧ ∀ H', Ex H H' → Q (.int ((i + ((cs.drop i).takeWhile (Mk.alnum wd)).length : Nat))) H'
theorem cal_end_of (b : Bi mg) (g : GM K mg aW aS) (D : Dfn K mg "end_of" s_end_of ["text", "at", "is_word"]) : Cal P w K mg base 1 "end_of" spEndOf := by
  refine D.cal sc_end_of (fun vs H Q E h => ?_) (fun f cdv A outer s H vs Q E hr h => ?_)
  · obtain ⟨cs, i, wd, rfl, _⟩ := h
    rfl
  obtain ⟨cs, i, wd, rfl, hi, hz, q⟩ := h
  refine ⟨_, (Evl.pss_cut (ps_while PassesOwn.never (PW.pt (pw_and (pt_cmpR op_lt (pv 1) (pe_callB call_lenX (by rfl) b.len bt_len (pa_cons (pv 0) pa_nil)) (nomark _)) (pw_and1 (PW.pt (pw_or (pt_cmpR op_inX (pe_ix ix_seq (pv 0) (pv 1) (fun _ _ => rfl)) (pe_gl rfl g.FIGURES) rfl) (pw_or1 (PW.pt (pw_and (pt_val (pv 2)) (pw_and1 (PW.pt (pw_or (pt_cmpR op_inX (pe_ix ix_seq (pv 0) (pv 1) (fun _ _ => rfl)) (pe_gl rfl g.LETTERS) rfl) (pw_or1 (pt_cmpR op_inX (pe_ix ix_seq (pv 0) (pv 1) (fun _ _ => rfl)) (pe_gl rfl g.GREATS) rfl)))))))))))))
        (pss_one (ps_set (i := 1) sc_end_of.nd rfl (.inl rfl) (pe_op op_addX (pv 1) pe_int))))
      (pss_one (ps_ret (pv 1)))), ?_⟩
  refine ⟨fun σ' H' => σ' = [some (.str (SX.S cs)), some (.int ((i + ((cs.drop i).takeWhile (Mk.alnum wd)).length : Nat))), some (.bl wd)] ∧ Ex H H', ?_, ?_⟩
  · refine Evl.s_while (fun m σ' H' => ∃ j : Nat, σ' = [some (.str (SX.S cs)), some (.int (j : Nat)), some (.bl wd)] ∧ Ex H H' ∧ i ≤ j ∧ j ≤ cs.length ∧ m = cs.length - j ∧ i + ((cs.drop i).takeWhile (Mk.alnum wd)).length = j + ((cs.drop j).takeWhile (Mk.alnum wd)).length) (cs.length - i) ⟨i, rfl, Evl.Ex.refl H, Nat.le_refl _, hi, rfl, rfl⟩ ?_
    rintro m σ' H1 ⟨j, rfl, e1, h1, h2, rfl, h3⟩
    have V0 : ∀ H', Evl.Ev (tVar 0) [some (.str (SX.S cs)), some (.int (j : Nat)), some (.bl wd)] H' (.str (SX.S cs)) := fun H' => Evl.ev_var rfl
    have V1 : ∀ H', Evl.Ev (tVar 1) [some (.str (SX.S cs)), some (.int (j : Nat)), some (.bl wd)] H' (.int (j : Nat)) := fun H' => Evl.ev_var rfl
    have V2 : ∀ H', Evl.Ev (tVar 2) [some (.str (SX.S cs)), some (.int (j : Nat)), some (.bl wd)] H' (.bl wd) := fun H' => Evl.ev_var rfl
    by_cases hj : j < cs.length
    · have hc : cs[j]? = some cs[j] := List.getElem?_eq_getElem hj
      have hd : cs.drop j = cs[j] :: cs.drop (j + 1) := List.drop_eq_getElem_cons hj
      generalize cs[j] = c at hc hd
      have sg := fun H' => ev_sign (K := K) (V0 H') (V1 H') hz hc
      refine ⟨true && Mk.alnum wd c, Evl.et_and (Evl.et_is (Evl.et_test (ev_ltI (V1 H1) (ev_lenS (V0 H1) hz))) (decide_eq_true (by omega))) (fun _ => Evl.et_or (Evl.et_test (ev_fig (sg H1))) (fun _ => Evl.et_and (Evl.et_B (V2 H1)) (fun _ => Evl.et_or (Evl.et_test (ev_low (sg H1))) (fun _ => Evl.et_test (ev_up (sg H1)))))), ?_, ?_⟩
      · intro hb H2 e2
        refine ⟨fun σ' H' => σ' = [some (.str (SX.S cs)), some (.int ((j + 1 : Nat))), some (.bl wd)] ∧ Ex H H', ?_, ?_⟩
        · rintro σ' H3 ⟨rfl, e3⟩
          refine ⟨cs.length - (j + 1), by omega, j + 1, rfl, e3, by omega, by omega, rfl, ?_⟩
          rw [h3, hd, List.takeWhile_cons, if_pos (by simpa using hb), List.length_cons]
          omega
        · refine (ev_add (V1 H2) Evl.ev_c) H2 (Evl.Ex.refl H2) _ fun H3 e3 => ⟨rfl, (e1.trans e2).trans e3⟩
      · intro hb H2 e2
        refine ⟨?_, e1.trans e2⟩
        rw [h3, hd, List.takeWhile_cons, if_neg (by simpa using hb)]
        rfl
    · refine ⟨false && false, Evl.et_and (Evl.et_is (Evl.et_test (ev_ltI (V1 H1) (ev_lenS (V0 H1) hz))) (decide_eq_false (by omega))) (fun z => absurd z (by decide)), fun z => absurd z (by decide), ?_⟩
      intro _ H2 e2
      refine ⟨?_, e1.trans e2⟩
      rw [h3, List.drop_eq_nil_of_le (by omega)]
      rfl
  · rintro σ' H1 ⟨rfl, e1⟩
    exact ⟨_, rfl, q H1 e1⟩
end
abbrev s_mark_at : Stmt := topS 12
abbrev N_mark_at : List Str := ["text", "at", "sign", "kind"]
theorem sc_mark_at : FnScope N_mark_at ["text", "at"] (defScope s_mark_at) := ⟨rfl, rfl, rfl, by decide +kernel, rfl, by decide +kernel, by decide +kernel⟩
section
variable {P : Program} {w : World} {K : PySem.W.Frag} {mg : Str → Option Value} {base : Heap} {aW aS : Addr}
def spMarkAt : Sp := fun vs H Q _ => ∃ (t : List Nat) (i : Nat) (c : Nat) (cs : List Nat), vs = [.str (SX.S t), .int (i : Nat)] ∧ t.length ≤ 10000000 ∧ i < t.length ∧ t.drop i = c :: cs ∧
  ∀ (p : Addr) (H' : Hp), H p = none → Ex H H' → H' p = some (.tup [.str (Mk.markAt c cs).1, .str (SX.S (Mk.markAt c cs).2)]) → Q (.ref p) H'
theorem cal_mark_at (b : Bi mg) (g : GM K mg aW aS) (c_end_of : Cal P w K mg base 1 "end_of" spEndOf) (D : Dfn K mg "mark_at" s_mark_at ["text", "at"]) : Cal P w K mg base 2 "mark_at" spMarkAt := by
  refine D.cal sc_mark_at (fun vs H Q E h => ?_) (fun f cdv A outer s H vs Q E hr h => ?_)
  · obtain ⟨t, i, c, cs, rfl, _⟩ := h
    rfl
  obtain ⟨t, i, c, cs, rfl, hz, hi, hd, q⟩ := h
  have hu := hr.units
  refine ⟨_, (pss_cons (ps_if (PW.pt (pw_or (pt_cmpR op_inX (pe_ix ix_seq (pv 0) (pv 1) (fun _ _ => rfl)) (pe_gl rfl g.LETTERS) rfl) (pw_or1 (pt_cmpR op_inX (pe_ix ix_seq (pv 0) (pv 1) (fun _ _ => rfl)) (pe_gl rfl g.GREATS) rfl))))
        (pss_cons (ps_set (i := 2) sc_mark_at.nd rfl (.inl rfl) (pe_slice sl_X (pv 0) (po_some (pv 1)) (po_some (pe_c c_end_of hr (by omega) rfl (pa_cons (pv 0) (pa_cons (pv 1) (pa_cons pe_bl pa_nil)))))))
      (pss_cons (ps_if (pt_cmpR op_inX (pv 2) (pe_gl rfl g.WORDS) rfl)
        (pss_one (ps_ret (pe_tup (pa_cons (pv 2) (pa_cons (pv 2) pa_nil)))))
        pss_nil)
      (pss_cons (ps_set (i := 3) sc_mark_at.nd rfl (.inl rfl) (pe_ifExp (pt_cmpR op_inX (pe_ix ix_seq (pv 0) (pv 1) (fun _ _ => rfl)) (pe_gl rfl g.LETTERS) rfl) pe_str pe_str))
      (pss_one (ps_ret (pe_tup (pa_cons (pe_ifExp (pt_cmpR op_le (pe_callB call_lenX (by rfl) b.len bt_len (pa_cons (pv 2) pa_nil)) pe_int (nomark _)) (pv 3) pe_str) (pa_cons (pv 2) pa_nil))))))))
        pss_nil)
      (pss_cons (ps_if (pt_cmpR op_inX (pe_ix ix_seq (pv 0) (pv 1) (fun _ _ => rfl)) (pe_gl rfl g.FIGURES) rfl)
        (pss_cons (ps_set (i := 2) sc_mark_at.nd rfl (.inl rfl) (pe_ifExp (pt_cmpR (op_eqX hu) (pe_ix ix_seq (pv 0) (pv 1) (fun _ _ => rfl)) pe_str (nomark _)) pe_str (pe_slice sl_X (pv 0) (po_some (pv 1)) (po_some (pe_c c_end_of hr (by omega) rfl (pa_cons (pv 0) (pa_cons (pv 1) (pa_cons pe_bl pa_nil))))))))
      (pss_one (ps_ret (pe_tup (pa_cons (pe_ifExp (PW.pt (pw_and (pt_cmpR op_le (pe_callB call_lenX (by rfl) b.len bt_len (pa_cons (pv 2) pa_nil)) pe_int (nomark _)) (pw_and1 (pt_cmpR op_le (pe_callTy call_intX (by rfl) b.int bt_int (pa_cons (pv 2) pa_nil)) (pe_gl rfl g.MOST) (nomark _))))) pe_str pe_str) (pa_cons (pv 2) pa_nil))))))
        pss_nil)
      (Evl.pss_cut (ps_for PassesOwn.never rfl (pi_seq (pe_gl rfl g.SIGNS)) (pg_name (i := 2) sc_mark_at.nd rfl (.inl rfl))
        (pss_one (ps_if (pt_cmpR (op_eqX hu) (pe_slice sl_X (pv 0) (po_some (pv 1)) (po_some (pe_op op_addX (pv 1) (pe_callB call_lenX (by rfl) b.len bt_len (pa_cons (pv 2) pa_nil))))) (pv 2) (nomark _))
        (pss_one (ps_ret (pe_tup (pa_cons (pv 2) (pa_cons (pv 2) pa_nil)))))
        pss_nil)))
      (pss_one (ps_ret (pe_tup (pa_cons pe_str (pa_cons (pe_ix ix_seq (pv 0) (pv 1) (fun _ _ => rfl)) pa_nil)))))))), ?_⟩
  have hc : t[i]? = some c := by
    have e : (t.drop i)[0]? = some c := by rw [hd]; rfl
    rw [List.getElem?_drop] at e
    simpa using e
  have V0 : ∀ {y2 y3 : Option V} (H' : Hp), Evl.Ev (tVar 0) [some (.str (SX.S t)), some (.int (i : Nat)), y2, y3] H' (.str (SX.S t)) := fun H' => Evl.ev_var rfl
  have V1 : ∀ {y2 y3 : Option V} (H' : Hp), Evl.Ev (tVar 1) [some (.str (SX.S t)), some (.int (i : Nat)), y2, y3] H' (.int (i : Nat)) := fun H' => Evl.ev_var rfl
  have sg : ∀ {y2 y3 : Option V} (H' : Hp), Evl.Ev (tOp (rIx K) (tVar 0) (tVar 1)) [some (.str (SX.S t)), some (.int (i : Nat)), y2, y3] H' (.str (SX.S [c])) := fun H' => ev_sign (V0 H') (V1 H') hz hc
  have cut : ∀ {y2 y3 : Option V} (H' : Hp) (wd : Bool), Evl.Ev (tSl (rSlX K) (tVar 0) (tPart (tVar 1)) (tPart (tCal spEndOf (tCons (tVar 0) (tCons (tVar 1) (tCons (tC (.bl wd)) tNil)))))) [some (.str (SX.S t)), some (.int (i : Nat)), y2, y3] H' (.str (SX.S ((c :: cs).takeWhile (Mk.alnum wd)))) := fun {y2 y3} H' wd => by
    have z := ev_cut (K := K) (j := i + ((c :: cs).takeWhile (Mk.alnum wd)).length) (th := tCal spEndOf (tCons (tVar 0) (tCons (tVar 1) (tCons (tC (.bl wd)) tNil)))) (V0 (y2 := y2) (y3 := y3) H') (V1 H') (ev_calV (Evl.ea_cons (V0 H') (Evl.ea_cons (V1 H') (Evl.ea_cons Evl.ev_c Evl.ea_nil))) fun H1 _ Q E q => ⟨t, i, wd, rfl, by omega, hz, fun H' e => by
      rw [hd]
      exact q H' e⟩) hz (by omega) (by omega)
    rw [hd, show i + ((c :: cs).takeWhile (Mk.alnum wd)).length - i = ((c :: cs).takeWhile (Mk.alnum wd)).length by omega, Mk.take_tw] at z
    exact z
  have sz : ∀ wd, ((c :: cs).takeWhile (Mk.alnum wd)).length ≤ 10000000 := fun wd => by
    have h1 := Mk.tw_le (Mk.alnum wd) (c :: cs)
    rw [← hd, List.length_drop, hd] at h1
    omega
  refine Evl.q_when (Evl.et_or (Evl.et_test (ev_low (sg H))) (fun _ => Evl.et_test (ev_up (sg H)))) (fun hb H1 e1 => ?_) (fun hb H1 e1 => ?_)
  · -- a name
    have hm := Mk.mark_name (cs := cs) hb
    have hs := sz true
    have c1 := cut (y2 := none) (y3 := none) H1 true
    generalize (c :: cs).takeWhile (Mk.alnum true) = sign at hm hs c1
    refine Evl.q_asg c1 (fun H2 e2 => ?_)
    refine Evl.q_when (Evl.et_test (ev_inW (Evl.ev_var rfl) g.words)) (fun hb2 H3 e3 => ?_) (fun hb2 H3 e3 => ?_)
    · refine Evl.s_retU (Evl.eu_tup (Evl.ea_cons (Evl.ev_var rfl) (Evl.ea_cons (Evl.ev_var rfl) Evl.ea_nil)) (by show 2 ≤ 100000; decide)) fun p H4 hp e4 h4 => q p H4 (Evl.fresh_back ((e1.trans e2).trans e3) hp) (((e1.trans e2).trans e3).trans e4) ?_
      rw [hm, if_pos (of_decide_eq_true hb2)]
      exact h4
    · refine Evl.q_asg (ev_iteS (Evl.et_test (ev_low (sg H3))) Evl.ev_c Evl.ev_c) (fun H4 e4 => ?_)
      refine Evl.s_retU (Evl.eu_tup (Evl.ea_cons (ev_iteS (Evl.et_test (ev_leI (ev_lenS (Evl.ev_var rfl) hs) Evl.ev_c)) (Evl.ev_var rfl) Evl.ev_c) (Evl.ea_cons (Evl.ev_var rfl) Evl.ea_nil)) (by show 2 ≤ 100000; decide)) fun p H5 hp e5 h5 => q p H5 (Evl.fresh_back (((e1.trans e2).trans e3).trans e4) hp) ((((e1.trans e2).trans e3).trans e4).trans e5) ?_
      rw [hm, if_neg (of_decide_eq_false hb2)]
      rw [h5]
      by_cases hl : sign.length ≤ 8
      · rw [if_pos hl, if_pos (decide_eq_true (by omega))]
      · rw [if_neg hl, if_neg (fun z => hl (by have := of_decide_eq_true z; omega))]
  · refine Evl.q_when (Evl.et_test (ev_fig (sg H1))) (fun hb2 H2 e2 => ?_) (fun hb2 H2 e2 => ?_)
    · -- a number
      have hm := Mk.mark_num (cs := cs) hb hb2
      have hdg := Mk.num_digits (cs := cs) hb2
      have hs : (if c = 48 then [48] else (c :: cs).takeWhile (Mk.alnum false)).length ≤ 10000000 := by
        by_cases h0 : c = 48
        · rw [if_pos h0]
          decide
        · rw [if_neg h0]
          exact sz false
      have c1 := ev_iteS (Evl.et_test (ev_eqS (K := K) (sg (y2 := none) (y3 := none) H2) (Evl.ev_c (v := .str "0")))) (Evl.ev_c (v := .str "0")) (cut (y2 := none) (y3 := none) H2 false)
      have c2 := Evl.ev_is (w := .str (SX.S (if c = 48 then [48] else (c :: cs).takeWhile (Mk.alnum false)))) c1 (by
        by_cases h0 : c = 48
        · subst h0
          rw [if_pos rfl, if_pos (by decide +kernel)]
          rfl
        · rw [if_neg h0, if_neg (fun z => by
          have z : SX.S [c] = SX.S [48] := of_decide_eq_true z
          exact h0 (List.cons.inj (SX.S_inj z)).1)])
      clear c1
      generalize (if c = 48 then [48] else (c :: cs).takeWhile (Mk.alnum false)) = sign at hm hs c2 hdg
      refine Evl.q_asg c2 (fun H3 e3 => ?_)
      refine Evl.s_retU (Evl.eu_tup (Evl.ea_cons (ev_iteS (Evl.et_and (Evl.et_test (ev_leI (ev_lenS (Evl.ev_var rfl) hs) Evl.ev_c)) (fun hle => Evl.et_test (ev_leI (ev_intS (Evl.ev_var rfl) hdg.1 hdg.2 (by have := of_decide_eq_true hle; omega)) Evl.ev_c))) Evl.ev_c Evl.ev_c) (Evl.ea_cons (Evl.ev_var rfl) Evl.ea_nil)) (by show 2 ≤ 100000; decide)) fun p H5 hp e5 h5 => q p H5 (Evl.fresh_back ((e1.trans e2).trans e3) hp) (((e1.trans e2).trans e3).trans e5) ?_
      rw [hm]
      rw [h5]
      by_cases hl : sign.length ≤ 10 ∧ NumText.digitsVal sign ≤ 2147483647
      · rw [if_pos hl, if_pos (by rw [Bool.and_eq_true, decide_eq_true_eq, decide_eq_true_eq]; omega)]
      · rw [if_neg hl, if_neg (fun z => hl (by rw [Bool.and_eq_true, decide_eq_true_eq, decide_eq_true_eq] at z; omega))]
    · -- a sign
      have hm := Mk.mark_sgn (cs := cs) hb hb2
      refine Evl.q_cut (M := fun σ' H' => (∃ y, σ' = [some (.str (SX.S t)), some (.int (i : Nat)), y, none]) ∧ Ex H2 H' ∧ Mk.signOf (c :: cs) = none) ?_ ?_
      · refine s_forST Evl.ev_c (g.signs _) (fun n σ' H' => (∃ y, σ' = [some (.str (SX.S t)), some (.int (i : Nat)), y, none]) ∧ Ex H2 H' ∧ ∀ (j : Nat) (u : Str), j < n → Mk.signsS[j]? = some u → ((c :: cs).take u.length == u.cps.toList) = false)
          (fun H3 e3 => ⟨⟨_, rfl⟩, e3, fun j u h => absurd h (Nat.not_lt_zero _)⟩) (fun _ _ _ _ _ => g.signs _) ?_ ?_
        · rintro n x σ' H3 hx ⟨⟨y, rfl⟩, e3, hn⟩
          rw [List.getElem?_map] at hx
          obtain ⟨u, hu1, rfl⟩ := Option.map_eq_some_iff.mp hx
          have hsm : u.length ≤ 2 := Mk.signs_len u (List.mem_of_getElem? hu1)
          obtain ⟨m, rfl⟩ : ∃ m, u = SX.S m := ⟨_, (SX.S_tl u).symm⟩
          rw [SX.S_len] at hsm
          refine Evl.s_when (b := ((c :: cs).take m.length == m)) (Evl.et_is (Evl.et_test (ev_eqS (ev_cut (j := i + m.length) (V0 H3) (V1 H3) (Evl.ev_is (ev_add (V1 H3) (ev_lenS (cs := m) (Evl.ev_var rfl) (by omega))) (by rw [Int.natCast_add])) hz (by omega) (by omega)) (Evl.ev_var rfl))) ?_) (fun hb3 H4 e4 => ?_) (fun hb3 H4 e4 => ?_)
          · rw [hd, show i + m.length - i = m.length by omega]
            exact Mk.S_eq _ _
          · have so := Mk.sign_some hu1 (by rw [SX.S_len]; exact hb3) hn
            refine Evl.s_retU (Evl.eu_tup (Evl.ea_cons (Evl.ev_var rfl) (Evl.ea_cons (Evl.ev_var rfl) Evl.ea_nil)) (by show 2 ≤ 100000; decide)) fun p H5 hp e5 h5 => q p H5 (Evl.fresh_back (((e1.trans e2).trans e3).trans e4) hp) ((((e1.trans e2).trans e3).trans e4).trans e5) ?_
            rw [hm, so]
            exact h5
          · refine ⟨⟨_, rfl⟩, e3.trans e4, fun j u hj hu2 => ?_⟩
            by_cases hjn : j < n
            · exact hn j u hjn hu2
            · have hjn : j = n := by omega
              subst hjn
              rw [hu1] at hu2
              cases hu2
              rw [SX.S_len]
              exact hb3
        · rintro σ' H3 ⟨h1, e3, hn⟩
          refine ⟨h1, e3, Mk.sign_none fun j u hu1 => hn j u ?_ hu1⟩
          have := (List.getElem?_eq_some_iff.mp hu1).1
          rw [List.length_map]
          exact this
      · rintro σ' H3 ⟨⟨y, rfl⟩, e3, hn⟩
        refine Evl.s_retU (Evl.eu_tup (Evl.ea_cons Evl.ev_c (Evl.ea_cons (sg H3) Evl.ea_nil)) (by show 2 ≤ 100000; decide)) fun p H5 hp e5 h5 => q p H5 (Evl.fresh_back ((e1.trans e2).trans e3) hp) (((e1.trans e2).trans e3).trans e5) ?_
        rw [hm, hn]
        exact h5
end
abbrev s_marks_by : Stmt := topS 13
abbrev N_marks_by : List Str := ["text", "found", "at", "line", "begin", "kind", "sign"]
theorem sc_marks_by : FnScope N_marks_by ["text"] (defScope s_marks_by) := ⟨rfl, rfl, rfl, by decide +kernel, rfl, by decide +kernel, by decide +kernel⟩
abbrev s_marks_of : Stmt := topS 14
abbrev N_marks_of : List Str := ["text"]
theorem sc_marks_of : FnScope N_marks_of ["text"] (defScope s_marks_of) := ⟨rfl, rfl, rfl, by decide +kernel, rfl, by decide +kernel, by decide +kernel⟩
section
variable {P : Program} {w : World} {K : PySem.W.Frag} {mg : Str → Option Value} {base : Heap} {aW aS : Addr}
def spMarks (K : PySem.W.Frag) : Sp := fun vs H Q _ => ∃ (t : List Nat) (out : List Mk.MkT), vs = [.str (SX.S t)] ∧ t.length ≤ 90000 ∧ Mk.Lex [] t out ∧
  ∀ (u : V) (L : List Addr) (H' : Hp), Ex H H' → Kc.Tree K H' u (.list (out.map mkD)) L → L.Nodup → (∀ a ∈ L, H a = none) → Q u H'
def WMk (K : PySem.W.Frag) (H : Hp) (t : List Nat) (out : List Mk.MkT) (F : Addr) (m : Nat) (σ : L2.St) (H' : Hp) : Prop :=
  ∃ (p r : List Nat) (front rest : List Mk.MkT) (vs : List V) (y5 y6 : Option V), t = p ++ r ∧ Mk.Lex p r rest ∧ out = front ++ rest ∧ front.length ≤ p.length ∧ H F = none ∧ Ex H H' ∧ H' F = some (.lst vs) ∧ Kc.Trees K H' vs (front.map mkD) [] ∧ m = r.length ∧
    σ = [some (.str (SX.S t)), some (.ref F), some (.int (p.length : Nat)), some (.int (Mk.line p : Nat)), some (.int ((p.length - Mk.col0 p : Nat))), y5, y6]
theorem cal_marks_by (b : Bi mg) (c_mark_at : Cal P w K mg base 2 "mark_at" spMarkAt) (D : Dfn K mg "marks_by" s_marks_by ["text"]) : Cal P w K mg base 3 "marks_by" (spMarks K) := by
  refine D.cal sc_marks_by (fun vs H Q E h => ?_) (fun f cdv A outer s H vs Q E hr h => ?_)
  · obtain ⟨t, out, rfl, _⟩ := h
    rfl
  obtain ⟨t, out, rfl, hz, hx, q⟩ := h
  have hu := hr.units
  refine ⟨_, (pss_cons (ps_asg (pe_tup (pa_cons (pe_lst pa_nil) (pa_cons pe_int (pa_cons pe_int (pa_cons pe_int pa_nil))))) (pg_tup rfl (pgs_cons (pg_name (i := 1) sc_marks_by.nd rfl (.inl rfl)) (pgs_cons (pg_name (i := 2) sc_marks_by.nd rfl (.inl rfl)) (pgs_cons (pg_name (i := 3) sc_marks_by.nd rfl (.inl rfl)) (pgs_cons (pg_name (i := 4) sc_marks_by.nd rfl (.inl rfl)) pgs_nil))))))
      (Evl.pss_cut (ps_while PassesOwn.never (pt_cmpR op_lt (pv 2) (pe_callB call_lenX (by rfl) b.len bt_len (pa_cons (pv 0) pa_nil)) (nomark _))
        (pss_one (ps_if (pt_cmpR (op_eqX hu) (pe_ix ix_seq (pv 0) (pv 2) (fun _ _ => rfl)) pe_str (nomark _))
        (pss_one (ps_par3 (i := 2) (j := 3) (l := 4) (by rfl) sc_marks_by.nd rfl rfl rfl (by decide) (by decide) (by decide) rfl rfl rfl (pa_cons (pe_op op_addX (pv 2) pe_int) (pa_cons (pe_op op_addX (pv 3) pe_int) (pa_cons (pe_op op_addX (pv 2) pe_int) pa_nil))) (by rfl)))
        (pss_one (ps_if (pt_cmpR (op_eqX hu) (pe_ix ix_seq (pv 0) (pv 2) (fun _ _ => rfl)) pe_str (nomark _))
        (pss_one (ps_set (i := 2) sc_marks_by.nd rfl (.inl rfl) (pe_op op_addX (pv 2) pe_int)))
        (pss_one (ps_if (pt_cmpR (op_eqX hu) (pe_ix ix_seq (pv 0) (pv 2) (fun _ _ => rfl)) pe_str (nomark _))
        (pss_one (ps_while PassesOwn.never (PW.pt (pw_and (pt_cmpR op_lt (pv 2) (pe_callB call_lenX (by rfl) b.len bt_len (pa_cons (pv 0) pa_nil)) (nomark _)) (pw_and1 (pt_cmpR (op_neX hu) (pe_ix ix_seq (pv 0) (pv 2) (fun _ _ => rfl)) pe_str (nomark _)))))
        (pss_one (ps_set (i := 2) sc_marks_by.nd rfl (.inl rfl) (pe_op op_addX (pv 2) pe_int)))))
        (pss_cons (ps_asg (pe_c c_mark_at hr (by omega) rfl (pa_cons (pv 0) (pa_cons (pv 2) pa_nil))) (pg_tup rfl (pgs_cons (pg_name (i := 5) sc_marks_by.nd rfl (.inl rfl)) (pgs_cons (pg_name (i := 6) sc_marks_by.nd rfl (.inl rfl)) pgs_nil))))
      (pss_cons (ps_expr (pe_bm PySem.F.plainAttrs_list PySem.F.slot_list_append PySem.F.type_list_append mt_append (pv 1) (pa_cons (pe_tup (pa_cons (pv 5) (pa_cons (pv 6) (pa_cons (pe_tup (pa_cons (pv 3) (pa_cons (pe_op op_addX (pe_op op_sub (pv 2) (pv 4)) pe_int) pa_nil))) pa_nil)))) pa_nil)))
      (pss_one (ps_set (i := 2) sc_marks_by.nd rfl (.inl rfl) (pe_op op_addX (pv 2) (pe_callB call_lenX (by rfl) b.len bt_len (pa_cons (pv 6) pa_nil))))))))))))))
      (pss_one (ps_ret (pe_lst (StX.pa_star (pv 1) (pa_cons (pe_tup (pa_cons pe_str (pa_cons pe_str (pa_cons (pe_tup (pa_cons (pv 3) (pa_cons (pe_op op_addX (pe_op op_sub (pv 2) (pv 4)) pe_int) pa_nil))) pa_nil)))) pa_nil))))))), ?_⟩
  refine ⟨(by show 0 ≤ sizeLine; decide), fun F hF => ?_⟩
  refine ⟨(by show 4 ≤ sizeLine; decide), fun T hT => ?_⟩
  refine ⟨T, _, rfl, Evl.st_of upd_same, rfl, _, _, rfl, _, _, rfl, _, _, rfl, _, _, rfl, rfl, ?_⟩
  have eF : Ex H (upd H F (.lst [])) := Evl.Ex.new hF
  have eT : Ex (upd H F (.lst [])) (upd (upd H F (.lst [])) T (.tup [.ref F, .int 0, .int 1, .int 0])) := Evl.Ex.new hT
  refine ⟨fun σ' H' => ∃ m, WMk K H t out F m σ' H' ∧ m = 0, ?_, ?_⟩
  · refine Evl.s_while (WMk K H t out F) t.length ⟨[], t, [], out, [], none, none, rfl, hx, rfl, Nat.le_refl _, hF, eF.trans eT, eT _ _ upd_same, .nil, rfl, rfl⟩ ?_
    rintro m σ' H1 ⟨p, r, front, rest, vs, y5, y6, rfl, hl, ho, hfl, hF1, e1, h1, ht, rfl, rfl⟩
    have hi : ∀ {c : Nat} {r' : List Nat}, r = c :: r' → (p ++ r)[p.length]? = some c := fun h => by rw [h, List.getElem?_append_right (Nat.le_refl _), Nat.sub_self]; rfl
    have V0 : ∀ (H' : Hp), Evl.Ev (tVar 0) [some (.str (SX.S (p ++ r))), some (.ref F), some (.int (p.length : Nat)), some (.int (Mk.line p : Nat)), some (.int ((p.length - Mk.col0 p : Nat))), y5, y6] H' (.str (SX.S (p ++ r))) := fun H' => Evl.ev_var rfl
    have V2 : ∀ (H' : Hp), Evl.Ev (tVar 2) [some (.str (SX.S (p ++ r))), some (.ref F), some (.int (p.length : Nat)), some (.int (Mk.line p : Nat)), some (.int ((p.length - Mk.col0 p : Nat))), y5, y6] H' (.int (p.length : Nat)) := fun H' => Evl.ev_var rfl
    have hz7 : (p ++ r).length ≤ 10000000 := by omega
    cases r with
    | nil =>
      refine ⟨false, Evl.et_is (Evl.et_test (ev_ltI (V2 H1) (ev_lenS (V0 H1) hz7))) (decide_eq_false (by rw [List.append_nil]; omega)), fun z => absurd z (by decide), fun _ H2 e2 => ?_⟩
      exact ⟨_, ⟨p, [], front, rest, vs, y5, y6, rfl, hl, ho, hfl, hF1, e1.trans e2, e2 _ _ h1, ht.ex e2, rfl, rfl⟩, rfl⟩
    | cons c r =>
      refine ⟨true, Evl.et_is (Evl.et_test (ev_ltI (V2 H1) (ev_lenS (V0 H1) hz7))) (decide_eq_true (by rw [List.length_append, List.length_cons]; omega)), fun _ H2 e2 => ?_, fun z => absurd z (by decide)⟩
      have e12 := e1.trans e2
      have sg : ∀ H', Evl.Ev (tOp (rIx K) (tVar 0) (tVar 2)) [some (.str (SX.S (p ++ c :: r))), some (.ref F), some (.int (p.length : Nat)), some (.int (Mk.line p : Nat)), some (.int ((p.length - Mk.col0 p : Nat))), y5, y6] H' (.str (SX.S [c])) := fun H' => ev_sign (V0 H') (V2 H') hz7 (hi rfl)
      have is1 : ∀ (H' : Hp) (d : Nat), Evl.EvT (tTest (tOp (rEqX K) (tOp (rIx K) (tVar 0) (tVar 2)) (tC (.str (SX.S [d]))))) [some (.str (SX.S (p ++ c :: r))), some (.ref F), some (.int (p.length : Nat)), some (.int (Mk.line p : Nat)), some (.int ((p.length - Mk.col0 p : Nat))), y5, y6] H' (decide (c = d)) := fun H' d => Evl.et_is (Evl.et_test (ev_eqS (K := K) (sg H') Evl.ev_c)) (by
        by_cases h : c = d
        · rw [h, decide_eq_true rfl, decide_eq_true rfl]
        · rw [decide_eq_false h, decide_eq_false (fun z => h (List.cons.inj (SX.S_inj z)).1)])
      have h2 := e2 _ _ h1
      have hc0 := Mk.col0_le p
      refine ⟨fun σ' H' => ∃ m', m' < (c :: r).length ∧ WMk K H (p ++ c :: r) out F m' σ' H', fun _ _ z => z, ?_⟩
      refine Evl.s_if (is1 H2 10) (fun hc H3 e3 => ?_) (fun hc H3 e3 => ?_)
      · obtain rfl := of_decide_eq_true hc
        refine ⟨_, rfl, addX_int ⟨_, rfl, addX_int ⟨_, rfl, addX_int ⟨_, _, _, rfl, r.length, by simp, p ++ [10], r, front, rest, vs, y5, y6, by simp, Mk.lex_nl hl, ho, by rw [List.length_append]; omega, hF1, e12.trans e3, e3 _ _ h2, (ht.ex e2).ex e3, rfl, ?_⟩⟩⟩⟩
        rw [Mk.line_nl, Mk.col0_nl, List.length_append]
        rfl
      refine Evl.s_if (is1 H3 32) (fun hc2 H4 e4 => ?_) (fun hc2 H4 e4 => ?_)
      · obtain rfl := of_decide_eq_true hc2
        refine Evl.s_asg (ev_add (V2 H4) Evl.ev_c) fun H5 e5 => ?_
        refine ⟨r.length, by simp, p ++ [32], r, front, rest, vs, y5, y6, by simp, Mk.lex_sp hl, ho, by rw [List.length_append]; omega, hF1, ((e12.trans e3).trans e4).trans e5, e5 _ _ (e4 _ _ (e3 _ _ h2)), (((ht.ex e2).ex e3).ex e4).ex e5, rfl, ?_⟩
        rw [Mk.line_app _ _ (by decide), Mk.col0_app _ _ (by decide), List.length_append, show p.length + [32].length - (Mk.col0 p + [32].length) = p.length - Mk.col0 p by simp]
        rfl
      have hc : c ≠ 10 := of_decide_eq_false hc
      have hc2 : c ≠ 32 := of_decide_eq_false hc2
      refine Evl.s_if (is1 H4 35) (fun hc3 H5 e5 => ?_) (fun hc3 H5 e5 => ?_)
      · obtain rfl := of_decide_eq_true hc3
        have e15 := ((e12.trans e3).trans e4).trans e5
        obtain ⟨a, r2, rfl, ga, g2, gl⟩ := Mk.lex_rem hl
        have lz : (p ++ 35 :: (a ++ r2)).length = p.length + 1 + a.length + r2.length := by simp only [List.length_append, List.length_cons]; omega
        refine Evl.s_while (fun n σ' H' => ∃ j : Nat, p.length ≤ j ∧ j ≤ p.length + 1 + a.length ∧ n = p.length + 1 + a.length - j ∧ Ex H5 H' ∧ σ' = [some (.str (SX.S (p ++ 35 :: (a ++ r2)))), some (.ref F), some (.int (j : Nat)), some (.int (Mk.line p : Nat)), some (.int ((p.length - Mk.col0 p : Nat))), y5, y6]) (1 + a.length) ⟨p.length, Nat.le_refl _, by omega, by omega, Evl.Ex.refl _, rfl⟩ ?_
        rintro n σ' H6 ⟨j, j1, j2, rfl, e6, rfl⟩
        have U0 : ∀ (H' : Hp), Evl.Ev (tVar 0) [some (.str (SX.S (p ++ 35 :: (a ++ r2)))), some (.ref F), some (.int (j : Nat)), some (.int (Mk.line p : Nat)), some (.int ((p.length - Mk.col0 p : Nat))), y5, y6] H' (.str (SX.S (p ++ 35 :: (a ++ r2)))) := fun H' => Evl.ev_var rfl
        have U2 : ∀ (H' : Hp), Evl.Ev (tVar 2) [some (.str (SX.S (p ++ 35 :: (a ++ r2)))), some (.ref F), some (.int (j : Nat)), some (.int (Mk.line p : Nat)), some (.int ((p.length - Mk.col0 p : Nat))), y5, y6] H' (.int (j : Nat)) := fun H' => Evl.ev_var rfl
        have isn : ∀ (H' : Hp) (x : Nat), (p ++ 35 :: (a ++ r2))[j]? = some x → Evl.EvT (tTest (tOp (rNeX K) (tOp (rIx K) (tVar 0) (tVar 2)) (tC (.str (SX.S [10]))))) [some (.str (SX.S (p ++ 35 :: (a ++ r2)))), some (.ref F), some (.int (j : Nat)), some (.int (Mk.line p : Nat)), some (.int ((p.length - Mk.col0 p : Nat))), y5, y6] H' (!decide (x = 10)) := fun H' x hx => Evl.et_is (Evl.et_test (ev_neS (K := K) (ev_sign (U0 H') (U2 H') hz7 hx) Evl.ev_c)) (by
          by_cases h : x = 10
          · rw [h, decide_eq_true rfl, decide_eq_true rfl]
          · rw [decide_eq_false h, decide_eq_false (fun z => h (List.cons.inj (SX.S_inj z)).1)])
        by_cases hj : j < p.length + 1 + a.length
        · have hx : ∃ x, (p ++ 35 :: (a ++ r2))[j]? = some x ∧ x ≠ 10 := by
            rw [List.getElem?_append_right j1]
            by_cases h0 : j = p.length
            · rw [h0, Nat.sub_self]
              exact ⟨35, rfl, by decide⟩
            · obtain ⟨k, hk⟩ : ∃ k, j - p.length = k + 1 := ⟨j - p.length - 1, by omega⟩
              rw [hk, List.getElem?_cons_succ, List.getElem?_append_left (by omega), List.getElem?_eq_getElem (by omega)]
              exact ⟨_, rfl, fun z => ga (z ▸ List.getElem_mem _)⟩
          obtain ⟨x, hx, hne⟩ := hx
          refine ⟨true, Evl.et_is (Evl.et_and (Evl.et_test (ev_ltI (U2 H6) (ev_lenS (U0 H6) hz7))) (fun _ => isn H6 x hx)) (by rw [decide_eq_true (by omega), decide_eq_false hne]; rfl), fun _ H7 e7 => ⟨fun σ' H' => ∃ n', n' < p.length + 1 + a.length - j ∧ ∃ j : Nat, p.length ≤ j ∧ j ≤ p.length + 1 + a.length ∧ n' = p.length + 1 + a.length - j ∧ Ex H5 H' ∧ σ' = [some (.str (SX.S (p ++ 35 :: (a ++ r2)))), some (.ref F), some (.int (j : Nat)), some (.int (Mk.line p : Nat)), some (.int ((p.length - Mk.col0 p : Nat))), y5, y6], fun _ _ z => z, ?_⟩, fun z => absurd z (by decide)⟩
          refine Evl.s_asg (ev_add (U2 H7) Evl.ev_c) fun H8 e8 => ?_
          exact ⟨p.length + 1 + a.length - (j + 1), by omega, j + 1, by omega, by omega, rfl, (e6.trans e7).trans e8, rfl⟩
        · have hj2 : j = p.length + 1 + a.length := by omega
          have fin : ∀ H7, Ex H6 H7 → ∃ m', m' < (35 :: (a ++ r2)).length ∧ WMk K H (p ++ 35 :: (a ++ r2)) out F m' [some (.str (SX.S (p ++ 35 :: (a ++ r2)))), some (.ref F), some (.int (j : Nat)), some (.int (Mk.line p : Nat)), some (.int ((p.length - Mk.col0 p : Nat))), y5, y6] H7 := fun H7 e7 => by
            have e57 := e6.trans e7
            have n10 : 10 ∉ (35 :: a : List Nat) := fun z => (List.mem_cons.mp z).elim (fun z => by cases z) ga
            have lw : (p ++ 35 :: a).length = p.length + 1 + a.length := by simp only [List.length_append, List.length_cons]; omega
            refine ⟨r2.length, by simp only [List.length_append, List.length_cons]; omega, p ++ 35 :: a, r2, front, rest, vs, y5, y6, by simp, gl, ho, by omega, hF1, e15.trans e57, e57 _ _ (e5 _ _ (e4 _ _ (e3 _ _ h2))), ((((ht.ex e2).ex e3).ex e4).ex e5).ex e57, rfl, ?_⟩
            rw [Mk.line_app _ _ n10, Mk.col0_app _ _ n10, lw, List.length_cons, hj2, show p.length + 1 + a.length - (Mk.col0 p + (a.length + 1)) = p.length - Mk.col0 p by omega]
          rcases g2 with rfl | hh
          · refine ⟨false, Evl.et_is (b := false) (Evl.et_and (b := true) (Evl.et_test (ev_ltI (U2 H6) (ev_lenS (U0 H6) hz7))) (fun z => absurd z (by rw [decide_eq_false (by rw [lz]; simp; omega)]; decide))) (by rw [decide_eq_false (by rw [lz]; simp; omega)]; rfl), fun z => absurd z (by decide), fun _ H7 e7 => fin H7 e7⟩
          · cases r2 with
            | nil => cases hh
            | cons y r2 =>
              obtain rfl : y = 10 := by simpa using hh
              have hx : (p ++ 35 :: (a ++ 10 :: r2))[j]? = some 10 := by
                rw [List.getElem?_append_right j1, show j - p.length = a.length + 1 by omega, List.getElem?_cons_succ, List.getElem?_append_right (Nat.le_refl _), Nat.sub_self]
                rfl
              refine ⟨false, Evl.et_is (Evl.et_and (Evl.et_test (ev_ltI (U2 H6) (ev_lenS (U0 H6) hz7))) (fun _ => isn H6 10 hx)) (by rw [decide_eq_true rfl, Bool.not_true, Bool.and_false]), fun z => absurd z (by decide), fun _ H7 e7 => fin H7 e7⟩
      have hc3 : c ≠ 35 := of_decide_eq_false hc3
      obtain ⟨r2, out', g1, g2, g3, rfl⟩ := Mk.lex_mk hl hc hc2 hc3
      have e15 := ((e12.trans e3).trans e4).trans e5
      refine ⟨_, rfl, _, rfl, p ++ c :: r, p.length, c, r, rfl, hz7, by rw [List.length_append, List.length_cons]; omega, by rw [List.drop_left], fun M H6 hM e6 h6 => ?_⟩
      have e16 := e15.trans e6
      have h6F : H6 F = some (.lst vs) := e6 _ _ (e5 _ _ (e4 _ _ (e3 _ _ h2)))
      refine ⟨M, _, rfl, Evl.st_of h6, rfl, _, _, rfl, _, _, rfl, rfl, ?_⟩
      have hfr : front.length ≤ p.length := hfl
      have hvl : vs.length = front.length := by rw [Kc.Trees.len ht, List.length_map]
      have hpz : p.length ≤ 90000 := by
        rw [List.length_append] at hz
        omega
      refine ⟨.ref F, rfl, .inl ⟨rfl, _, SqL.of h6F⟩, _, rfl, _, rfl, _, rfl, _, rfl, _, rfl, _, _, rfl, rfl, addX_int ⟨(by show 2 ≤ sizeLine; decide), fun q2 hq2 => ⟨(by show 3 ≤ sizeLine; decide), fun q3 hq3 => ?_⟩⟩⟩
      have x2 := Evl.Ex.new (o := .tup [.int (Mk.line p : Nat), .int (((p.length : Nat) : Int) - ((p.length - Mk.col0 p : Nat) : Int) + 1)]) hq2
      have x3 := Evl.Ex.new (o := .tup [.str (Mk.markAt c r).1, .str (SX.S (Mk.markAt c r).2), .ref q2]) hq3
      have colE : (((p.length : Nat) : Int) - ((p.length - Mk.col0 p : Nat) : Int) + 1) = ((Mk.col0 p + 1 : Nat) : Int) := by omega
      rw [colE] at x2 x3 hq3 ⊢
      have htm := tree_mk (K := K) (m := ((Mk.markAt c r).1, (Mk.markAt c r).2, Mk.line p, Mk.col0 p + 1)) (Evl.st_of (upd_same (H := upd H6 q2 (.tup [.int (Mk.line p : Nat), .int ((Mk.col0 p + 1 : Nat) : Int)])) (a := q3) (o := .tup [.str (Mk.markAt c r).1, .str (SX.S (Mk.markAt c r).2), .ref q2]))) (Evl.st_of (x3 _ _ upd_same))
      have hv6 := ((((((ht.ex e2).ex e3).ex e4).ex e5).ex e6).ex x2).ex x3
      have hF3 := x3 _ _ (x2 _ _ h6F)
      have e13 := (e16.trans x2).trans x3
      generalize (upd (upd H6 q2 (.tup [.int (Mk.line p : Nat), .int ((Mk.col0 p + 1 : Nat) : Int)])) q3 (.tup [.str (Mk.markAt c r).1, .str (SX.S (Mk.markAt c r).2), .ref q2])) = HX at htm hv6 hF3 e13
      have hlen : (c :: r).length = (Mk.markAt c r).2.length + r2.length := by rw [g1, List.length_append]
      have hsp : 0 < (Mk.markAt c r).2.length := List.length_pos_iff.mpr g2
      have nlm := Mk.mark_nl (cs := r) hc
      have tE : p ++ c :: r = p ++ (Mk.markAt c r).2 ++ r2 := by rw [List.append_assoc, ← g1]
      have lenS : (Mk.markAt c r).2.length ≤ 10000000 := by
        rw [List.length_append] at hz
        omega
      generalize (Mk.markAt c r).2 = sgn at ho htm g1 g2 g3 hlen hsp nlm tE lenS x2 x3 hq3 h6 ⊢
      generalize (Mk.markAt c r).1 = knd at ho htm x3 hq3 h6 ⊢
      refine ⟨F, vs, .ref q3, rfl, rfl, hF3, Evl.sz_lt (by omega), ?_⟩
      have ea : ExL [F] HX (upd HX F (.lst (vs ++ [.ref q3]))) := fun b o e n => by
        rw [upd_ne (fun z => n (by rw [z]; exact List.mem_singleton.mpr rfl))]
        exact e
      have own1 : ∀ b ∈ [F], ∃ zs, HX b = some (.lst zs) := fun b hb => by
        rw [List.mem_singleton.mp hb]
        exact ⟨_, hF3⟩
      have tz := Kc.Trees.snoc (Kc.Trees.frame ea own1 _ _ _ hv6 (by simp)) (Kc.Tree.frame ea own1 _ _ _ htm (by simp))
      refine Evl.s_asg (ev_add (Evl.ev_var rfl) (ev_lenS (cs := sgn) (Evl.ev_var rfl) lenS)) fun H9 e9 => ?_
      refine ⟨r2.length, by omega, p ++ sgn, r2, front ++ [(knd, sgn, Mk.line p, Mk.col0 p + 1)], out', vs ++ [.ref q3], some (.str knd), some (.str (SX.S sgn)), tE, g3, ?_, ?_, hF1, (e13.mut hF1).trans e9, e9 _ _ upd_same, ?_, rfl, ?_⟩
      · rw [ho, List.append_assoc]
        rfl
      · rw [List.length_append, List.length_append, List.length_singleton]
        omega
      · rw [List.map_append]
        exact tz.ex e9
      · rw [Mk.line_app _ _ nlm, Mk.col0_app _ _ nlm, List.length_append, show p.length + sgn.length - (Mk.col0 p + sgn.length) = p.length - Mk.col0 p by omega, Int.natCast_add]
        rfl
  · rintro σ' H1 ⟨m, ⟨p, r, front, rest, vs, y5, y6, rfl, hl, ho, hfl, hF1, e1, h1, ht, rfl, rfl⟩, hm⟩
    obtain rfl := List.length_eq_zero_iff.mp hm
    rw [Mk.lex_end hl] at ho
    subst ho
    have hvl : vs.length = front.length := by rw [Kc.Trees.len ht, List.length_map]
    refine ⟨.ref F, rfl, F, vs, rfl, .inr (Evl.sq_of h1), _, rfl, _, rfl, _, rfl, _, _, rfl, rfl, addX_int ⟨(by show 2 ≤ sizeLine; decide), fun q2 hq2 => ⟨(by show 3 ≤ sizeLine; decide), fun q3 hq3 => ⟨?_, fun l hl2 => ?_⟩⟩⟩⟩
    · refine Evl.sz_of ?_
      rw [List.append_nil] at hz
      rw [List.length_append, List.length_singleton]
      omega
    · have hc0 := Mk.col0_le p
      have colE : (((p.length : Nat) : Int) - ((p.length - Mk.col0 p : Nat) : Int) + 1) = ((Mk.col0 p + 1 : Nat) : Int) := by omega
      rw [colE] at hq3 hl2 ⊢
      have x2 := Evl.Ex.new (o := .tup [.int (Mk.line p : Nat), .int ((Mk.col0 p + 1 : Nat) : Int)]) hq2
      have x3 := Evl.Ex.new (o := .tup [.str "end", .str "", .ref q2]) hq3
      have x4 := Evl.Ex.new (o := .lst (vs ++ [.ref q3])) hl2
      have htm := tree_mk (K := K) (m := (("end" : Str), [], Mk.line p, Mk.col0 p + 1)) (Evl.st_of (x4 _ _ upd_same)) (Evl.st_of (x4 _ _ (x3 _ _ upd_same)))
      have tz := Kc.Trees.snoc (((ht.ex x2).ex x3).ex x4) htm
      refine q (.ref l) [l] _ (((e1.trans x2).trans x3).trans x4) (.lst (L := []) upd_same ?_) (by simp) (fun a ha => ?_)
      · rw [List.map_append]
        exact tz
      · rw [List.mem_singleton.mp ha]
        exact Evl.fresh_back ((e1.trans x2).trans x3) hl2
theorem cal_marks_of (b : Bi mg) (c_need_text : Cal P w K mg base 1 "need_text" spNeedText) (c_marks_by : Cal P w K mg base 3 "marks_by" (spMarks K)) (D : DfnK K mg "marks_of" s_marks_of ["text"]) : Cal P w K mg base 4 "marks_of" (spMarks K) ∧ CalK P w K mg base 4 "marks_of" ["text"] (spMarks K) := by
  refine D.cal (by simp) sc_marks_of (fun vs H Q E h => ?_) (fun f cdv A outer s H vs Q E hr h => ?_)
  · obtain ⟨t, out, rfl, _⟩ := h
    rfl
  obtain ⟨t, out, rfl, hz, hx, q⟩ := h
  have hu := hr.units
  refine ⟨_, (pss_cons (ps_expr (pe_c c_need_text hr (by omega) rfl (pa_cons (pv 0) pa_nil)))
      (pss_one (ps_ret (pe_c c_marks_by hr (by omega) rfl (pa_cons (pv 0) pa_nil))))), ?_⟩
  refine ⟨_, rfl, _, rfl, fun H1 e1 => ⟨_, rfl, t, out, rfl, hz, hx, fun u L H' e tr n fr => q u L H' (e1.trans e) tr n fun a ha => Evl.fresh_back e1 (fr a ha)⟩⟩
end
abbrev s__law_drawn : Stmt := topS 24
abbrev N__law_drawn : List Str := ["stream", "way", "words"]
theorem sc__law_drawn : FnScope N__law_drawn ["stream"] (defScope s__law_drawn) := ⟨rfl, rfl, rfl, by decide +kernel, rfl, by decide +kernel, by decide +kernel⟩
section
variable {P : Program} {w : World} {K : PySem.W.Frag} {mg : Str → Option Value} {base : Heap}
def spDrawn : Sp := fun vs H Q _ => ∃ (st L : Addr) (n : Nat), vs = [.ref st] ∧ Strm H st L n ∧ n < 900000000 ∧
  ∀ (l : Addr) (m : List Nat) (k : Str) (H' : Hp), Mk.Good k m → H l = none → H' l = some (.lst [.str (SX.S m), .str k]) → Strm H' st L (n + 3) → ExS st L H H' → Q (.ref l) H'
theorem cal__law_drawn (b : Bi mg) (c__law_draw : Cal P w K mg base 1 "_law_draw" spDraw) (c__law_pick : Cal P w K mg base 2 "_law_pick" spPick) (D : Dfn K mg "_law_drawn" s__law_drawn ["stream"]) : Cal P w K mg base 3 "_law_drawn" spDrawn := by
  refine D.cal sc__law_drawn (fun vs H Q E h => ?_) (fun f cdv A outer s H vs Q E hr h => ?_)
  · obtain ⟨st, L, n, rfl, _⟩ := h
    rfl
  obtain ⟨st, L, n, rfl, hS, hn, q⟩ := h
  have hu := hr.units
  refine ⟨_, (pss_cons (ps_set (i := 1) sc__law_drawn.nd rfl (.inl rfl) (pe_c c__law_draw hr (by omega) rfl (pa_cons (pv 0) (pa_cons pe_int pa_nil))))
      (pss_cons (ps_set (i := 2) sc__law_drawn.nd rfl (.inl rfl) (pe_lst (pa_cs rfl)))
      (pss_cons (ps_if (pt_cmpR (op_eqX hu) (pv 1) pe_int (nomark _))
        (pss_one (ps_ret (pe_op op_mulX (pe_lst (pa_cons (pe_c c__law_pick hr (by omega) rfl (pa_cons (pv 0) (pa_cons (pv 2) pa_nil))) pa_nil)) pe_int)))
        pss_nil)
      (pss_cons (ps_if (pt_cmpR (op_eqX hu) (pv 1) pe_int (nomark _))
        (pss_one (ps_ret (pe_op op_mulX (pe_lst (pa_cons (pe_c c__law_pick hr (by omega) rfl (pa_cons (pv 0) (pa_cons (pe_lst (pa_cs rfl)) pa_nil))) pa_nil)) pe_int)))
        pss_nil)
      (pss_cons (ps_if (pt_cmpR (op_eqX hu) (pv 1) pe_int (nomark _))
        (pss_one (ps_ret (pe_lst (pa_cons (pe_c c__law_pick hr (by omega) rfl (pa_cons (pv 0) (pa_cons (pe_lst (pa_cs rfl)) pa_nil))) (pa_cons pe_str pa_nil)))))
        pss_nil)
      (pss_cons (ps_if (pt_cmpR (op_eqX hu) (pv 1) pe_int (nomark _))
        (pss_one (ps_ret (pe_lst (pa_cons (pe_c c__law_pick hr (by omega) rfl (pa_cons (pv 0) (pa_cons (pe_lst (pa_cs rfl)) pa_nil))) (pa_cons pe_str pa_nil)))))
        pss_nil)
      (pss_cons (ps_if (pt_cmpR (op_eqX hu) (pv 1) pe_int (nomark _))
        (pss_one (ps_ret (pe_lst (pa_cons (pe_callTy call_strX (by rfl) b.str bt_str (pa_cons (pe_c c__law_pick hr (by omega) rfl (pa_cons (pv 0) (pa_cons (pe_lst (pa_cons pe_int (pa_cons pe_int (pa_cons pe_int (pa_cons pe_int (pa_cons pe_int (pa_cons pe_int (pa_cons (pe_c c__law_draw hr (by omega) rfl (pa_cons (pv 0) (pa_cons pe_int pa_nil))) pa_nil)))))))) pa_nil))) pa_nil)) (pa_cons pe_str pa_nil)))))
        pss_nil)
      (pss_one (ps_ret (pe_lst (pa_cons (pe_c c__law_pick hr (by omega) rfl (pa_cons (pv 0) (pa_cons (pe_lst (pa_cs rfl)) pa_nil))) (pa_cons pe_str pa_nil)))))))))))), ?_⟩
  refine ⟨_, rfl, st, L, n, 6, rfl, hS, by decide, by decide, by omega, fun d H1 h0 h6 S1 x1 => ?_⟩
  refine ⟨(by show 17 ≤ sizeLine; decide), fun wl hwl => ?_⟩
  have y2 := Evl.Ex.new (o := .lst [.str "module", .str "use", .str "data", .str "class", .str "under", .str "instance", .str "with", .str "fun", .str "let", .str "in", .str "case", .str "of", .str "if", .str "then", .str "else", .str "print", .str "int"]) hwl
  have S2 := S1.ext y2
  have x2 := x1.trans (ExS.of (st := st) (L := L) y2)
  have hW := upd_same (H := H1) (a := wl) (o := .lst [.str "module", .str "use", .str "data", .str "class", .str "under", .str "instance", .str "with", .str "fun", .str "let", .str "in", .str "case", .str "of", .str "if", .str "then", .str "else", .str "print", .str "int"])
  obtain ⟨wn1, wn2⟩ := S1.new hwl
  clear y2 S1 x1
  generalize (upd H1 wl _) = H2 at S2 x2 hW
  have fin : ∀ (l : Addr) (m : List Nat) (k : Str) (H3 H4 : Hp) (j : Nat), Mk.Good k m → j ≤ n + 3 → Strm H3 st L j → ExS st L H H3 → Evl.Ex H3 H4 → H4 l = none → Q (.ref l) (upd H4 l (.lst [.str (SX.S m), .str k])) := fun l m k H3 H4 j g hj s3 x3 e4 hl =>
    q l m k _ g (exs_fresh x3 s3 (Evl.fresh_back e4 hl)) upd_same (((s3.ext e4).ext (Evl.Ex.new hl)).mono hj) (x3.trans (ExS.of (e4.trans (Evl.Ex.new hl))))
  refine Evl.q_when (Evl.et_test (ev_eqI (Evl.ev_var rfl) Evl.ev_c)) (fun _ H3 e3 => ?_) (fun _ H3 e3 => ?_)
  · have S3 := S2.ext e3
    have x3 := x2.trans (ExS.of (st := st) (L := L) e3)
    refine ⟨_, rfl, _, rfl, st, L, wl, n + 1, _, rfl, S3, e3 _ _ hW, wn1, wn2, by simp, by simp, by omega, fun v H4 hv S4 x4 => ?_⟩
    obtain ⟨s, hs, rfl, hg⟩ := chk_pick (ws := Mk.wordsS) (fun s => s) hv (by decide +kernel)
    refine ⟨(by show 1 ≤ sizeLine; decide), fun p hp => mulX_rep upd_same ⟨by decide, by decide⟩ (by show 2 ≤ sizeLine; decide) fun l hl => ?_⟩
    rw [SX.S_tl]
    have z := fin l _ _ H4 _ _ hg (by omega) S4 (x3.trans x4) (Evl.Ex.new hp) hl
    rw [SX.S_tl] at z
    exact z
  have S2 := S2.ext e3
  have x2 := x2.trans (ExS.of (st := st) (L := L) e3)
  clear hW wn1 wn2
  refine Evl.q_when (Evl.et_test (ev_eqI (Evl.ev_var rfl) Evl.ev_c)) (fun _ H3 e3 => ?_) (fun _ H3 e3 => ?_)
  · have S3 := S2.ext e3
    have x3 := x2.trans (ExS.of (st := st) (L := L) e3)
    refine ⟨_, rfl, (by show 16 ≤ sizeLine; decide), fun a ha => ?_⟩
    have ya := Evl.Ex.new (o := .lst ((["==", "=", "->", "(", ")", "{", "}", ",", ";", ":", ".", "|", "<", "+", "-", "*"] : List Str).map V.str)) ha
    obtain ⟨an1, an2⟩ := S3.new ha
    refine ⟨st, L, a, n + 1, _, rfl, S3.ext ya, upd_same, an1, an2, by simp, by simp, by omega, fun v H4 hv S4 x4 => ?_⟩
    obtain ⟨s, hs, rfl, hg⟩ := chk_pick (ws := ["==", "=", "->", "(", ")", "{", "}", ",", ";", ":", ".", "|", "<", "+", "-", "*"]) (fun s => s) hv (by decide +kernel)
    have x4 := x3.trans ((ExS.of ya).trans x4)
    refine ⟨(by show 1 ≤ sizeLine; decide), fun p hp => mulX_rep upd_same ⟨by decide, by decide⟩ (by show 2 ≤ sizeLine; decide) fun l hl => ?_⟩
    rw [SX.S_tl]
    have z := fin l _ _ H4 _ _ hg (by omega) S4 x4 (Evl.Ex.new hp) hl
    rw [SX.S_tl] at z
    exact z
  have S2 := S2.ext e3
  have x2 := x2.trans (ExS.of (st := st) (L := L) e3)
  refine Evl.q_when (Evl.et_test (ev_eqI (Evl.ev_var rfl) Evl.ev_c)) (fun _ H3 e3 => ?_) (fun _ H3 e3 => ?_)
  · have S3 := S2.ext e3
    have x3 := x2.trans (ExS.of (st := st) (L := L) e3)
    refine ⟨_, rfl, (by show 8 ≤ sizeLine; decide), fun a ha => ?_⟩
    have ya := Evl.Ex.new (o := .lst ((["lets", "inn", "x", "a1", "q7z", "abcdefgh", "int1", "o9"] : List Str).map V.str)) ha
    obtain ⟨an1, an2⟩ := S3.new ha
    refine ⟨st, L, a, n + 1, _, rfl, S3.ext ya, upd_same, an1, an2, by simp, by simp, by omega, fun v H4 hv S4 x4 => ?_⟩
    obtain ⟨s, hs, rfl, hg⟩ := chk_pick (ws := ["lets", "inn", "x", "a1", "q7z", "abcdefgh", "int1", "o9"]) (fun s => "small") hv (by decide +kernel)
    have x4 := x3.trans ((ExS.of ya).trans x4)
    exact ⟨(by show 2 ≤ sizeLine; decide), fun l hl => fin l _ _ H4 _ _ hg (by omega) S4 x4 (Evl.Ex.refl H4) hl⟩
  have S2 := S2.ext e3
  have x2 := x2.trans (ExS.of (st := st) (L := L) e3)
  refine Evl.q_when (Evl.et_test (ev_eqI (Evl.ev_var rfl) Evl.ev_c)) (fun _ H3 e3 => ?_) (fun _ H3 e3 => ?_)
  · have S3 := S2.ext e3
    have x3 := x2.trans (ExS.of (st := st) (L := L) e3)
    refine ⟨_, rfl, (by show 6 ≤ sizeLine; decide), fun a ha => ?_⟩
    have ya := Evl.Ex.new (o := .lst ((["T", "L1", "Let", "Abcdefgh", "Q7", "Int"] : List Str).map V.str)) ha
    obtain ⟨an1, an2⟩ := S3.new ha
    refine ⟨st, L, a, n + 1, _, rfl, S3.ext ya, upd_same, an1, an2, by simp, by simp, by omega, fun v H4 hv S4 x4 => ?_⟩
    obtain ⟨s, hs, rfl, hg⟩ := chk_pick (ws := ["T", "L1", "Let", "Abcdefgh", "Q7", "Int"]) (fun s => "great") hv (by decide +kernel)
    have x4 := x3.trans ((ExS.of ya).trans x4)
    exact ⟨(by show 2 ≤ sizeLine; decide), fun l hl => fin l _ _ H4 _ _ hg (by omega) S4 x4 (Evl.Ex.refl H4) hl⟩
  have S2 := S2.ext e3
  have x2 := x2.trans (ExS.of (st := st) (L := L) e3)
  refine Evl.q_when (Evl.et_test (ev_eqI (Evl.ev_var rfl) Evl.ev_c)) (fun _ H3 e3 => ?_) (fun _ H3 e3 => ?_)
  · have S3 := S2.ext e3
    have x3 := x2.trans (ExS.of (st := st) (L := L) e3)
    refine ⟨_, rfl, _, rfl, st, L, n + 1, 2147483647, rfl, S3, by decide, by decide, by omega, fun d2 H4 hd0 hd1 S4 x4 => ?_⟩
    refine ⟨(by show 7 ≤ sizeLine; decide), fun a ha => ?_⟩
    have ya := Evl.Ex.new (o := .lst [.int 0, .int 1, .int 9, .int 10, .int 2147483646, .int 2147483647, .int d2]) ha
    obtain ⟨an1, an2⟩ := S4.new ha
    refine ⟨st, L, a, n + 2, _, rfl, S4.ext ya, upd_same, an1, an2, by simp, by simp, by omega, fun v H5 hv S5 x5 => ?_⟩
    have x5 := x3.trans (x4.trans ((ExS.of ya).trans x5))
    obtain ⟨i, rfl, hi⟩ : ∃ i : Nat, v = .int (i : Nat) ∧ i ≤ 2147483647 := by
      simp only [List.mem_cons, List.mem_nil_iff, or_false] at hv
      rcases hv with rfl | rfl | rfl | rfl | rfl | rfl | rfl
      · exact ⟨0, rfl, by decide⟩
      · exact ⟨1, rfl, by decide⟩
      · exact ⟨9, rfl, by decide⟩
      · exact ⟨10, rfl, by decide⟩
      · exact ⟨2147483646, rfl, by decide⟩
      · exact ⟨2147483647, rfl, by decide⟩
      · exact ⟨d2.toNat, by rw [Int.toNat_of_nonneg hd0], by omega⟩
    refine ⟨_, rfl, ?_, (by show 2 ≤ sizeLine; decide), fun l hl => ?_⟩
    · by_cases h0 : i = 0
      · subst h0
        decide +kernel
      · exact (Nat.log2_lt h0).mpr (Nat.lt_of_le_of_lt hi (by decide +kernel))
    · rw [SX.num_S]
      exact fin l _ _ H5 _ _ (Mk.good_numL hi) (by omega) S5 x5 (Evl.Ex.refl H5) hl
  have S2 := S2.ext e3
  have x2 := x2.trans (ExS.of (st := st) (L := L) e3)
  refine ⟨_, rfl, (by show 15 ≤ sizeLine; decide), fun a ha => ?_⟩
  have ya := Evl.Ex.new (o := .lst ((["2147483648", "9999999999", "12345678901", "abcdefghi", "Abcdefghi", "!", "?", "@", "$", "[", "]", "~", "^", "/", ">"] : List Str).map V.str)) ha
  obtain ⟨an1, an2⟩ := S2.new ha
  refine ⟨st, L, a, n + 1, _, rfl, S2.ext ya, upd_same, an1, an2, by simp, by simp, by omega, fun v H4 hv S4 x4 => ?_⟩
  obtain ⟨s, hs, rfl, hg⟩ := chk_pick (ws := ["2147483648", "9999999999", "12345678901", "abcdefghi", "Abcdefghi", "!", "?", "@", "$", "[", "]", "~", "^", "/", ">"]) (fun s => "wrong") hv (by decide +kernel)
  have x4 := x2.trans ((ExS.of ya).trans x4)
  exact ⟨(by show 2 ≤ sizeLine; decide), fun l hl => fin l _ _ H4 _ _ hg (by omega) S4 x4 (Evl.Ex.refl H4) hl⟩
end
abbrev s__law_t_laid : Stmt := topS 23
abbrev N__law_t_laid : List Str := ["stream", "marks", "text", "places", "tight", "k", "mark", "between"]
theorem sc__law_t_laid : FnScope N__law_t_laid ["stream", "marks"] (defScope s__law_t_laid) := ⟨rfl, rfl, rfl, by decide +kernel, rfl, by decide +kernel, by decide +kernel⟩
section
variable {P : Program} {w : World} {K : PySem.W.Frag} {mg : Str → Option Value} {base : Heap}
def spLaid : Sp := fun vs H Q _ => ∃ (st L M : Addr) (n : Nat) (mk : List (Str × List Nat)), vs = [.ref st, .ref M] ∧ Strm H st L n ∧ n < 800000000 ∧ (∀ p ∈ mk, Mk.Good p.1 p.2) ∧ mk.length ≤ 100 ∧ H M = some (.lst (mk.map fun p => V.str (SX.S p.2))) ∧ M ≠ st ∧ M ≠ L ∧
  ∀ (u pl : Addr) (t : List Nat) (pos : List (Nat × Nat)) (e : Nat × Nat) (vs : List V) (H' : Hp), Mk.Lex [] t (List.zipWith Mk.mkm mk pos ++ [Mk.mkm ("end", []) e]) → t.length ≤ 90000 → pos.length = mk.length →
    H' u = some (.tup [.str (SX.S t), .ref pl]) → H' pl = some (.lst vs) → PlAt H' vs (pos ++ [e]) → H pl = none → H u = none → Strm H' st L (n + 402) → ExS st L H H' → Q (.ref u) H'
def lstEnd (mk : List (Str × List Nat)) : Nat → Option (List Nat)
  | 0 => none
  | i + 1 => (mk[i]?).map Prod.snd
theorem cal__law_t_laid (b : Bi mg) (c__law_draw : Cal P w K mg base 1 "_law_draw" spDraw) (c__law_pick : Cal P w K mg base 2 "_law_pick" spPick) (D : Dfn K mg "_law_t_laid" s__law_t_laid ["stream", "marks"]) : Cal P w K mg base 3 "_law_t_laid" spLaid := by
  refine D.cal sc__law_t_laid (fun vs H Q E h => ?_) (fun f cdv A outer s H vs Q E hr h => ?_)
  · obtain ⟨st, L, M, n, mk, rfl, _⟩ := h
    rfl
  obtain ⟨st, L, M, n, mk, rfl, hS, hn, hg, hml, hM, hMs, hML, q⟩ := h
  have hu := hr.units
  refine ⟨_, (pss_cons (ps_par3 (i := 2) (j := 3) (l := 4) (by rfl) sc__law_t_laid.nd rfl rfl rfl (by decide) (by decide) (by decide) rfl rfl rfl (pa_cons pe_str (pa_cons (pe_lst pa_nil) (pa_cons pe_str pa_nil))) (by rfl))
      (Evl.pss_cut (ps_for PassesOwn.never rfl (pi_enum (by rfl) b.enumerate (pa_cons (pv 1) pa_nil)) (pg_tup rfl (pgs_cons (pg_name (i := 5) sc__law_t_laid.nd rfl (.inl rfl)) (pgs_cons (pg_name (i := 6) sc__law_t_laid.nd rfl (.inl rfl)) pgs_nil)))
        (pss_cons (ps_set (i := 7) sc__law_t_laid.nd rfl (.inl rfl) (pe_c c__law_pick hr (by omega) rfl (pa_cons (pv 0) (pa_cons (pe_lst (pa_cs rfl)) pa_nil))))
      (Evl.pss_cut (ps_if (PW.pt (pw_or (pt_cmpR (op_eqX hu) (pv 5) pe_int (nomark _)) (pw_or1 (PW.pt (pw_and (PW.pt (pw_or (pt_cmpR op_inX (pe_ix ix_seq (pv 1) (pe_op op_sub (pv 5) pe_int) (fun _ _ => rfl)) (pv 4) rfl) (pw_or1 (pt_cmpR op_inX (pv 6) (pv 4) rfl)))) (pw_and1 (pt_cmpR (op_eqX hu) (pe_c c__law_draw hr (by omega) rfl (pa_cons (pv 0) (pa_cons pe_int pa_nil))) pe_int (nomark _))))))))
        (pss_one (ps_set (i := 7) sc__law_t_laid.nd rfl (.inl rfl) (pe_ifExp (PW.pt (pw_or (pt_cmpR op_gt (pv 5) pe_int (nomark _)) (pw_or1 (pt_cmpR (op_eqX hu) (pe_c c__law_draw hr (by omega) rfl (pa_cons (pv 0) (pa_cons pe_int pa_nil))) pe_int (nomark _))))) pe_str pe_str)))
        pss_nil)
      (pss_cons (ps_set (i := 2) sc__law_t_laid.nd rfl (.inl rfl) (pe_op op_addX (pv 2) (pv 7)))
      (pss_cons (ps_expr (pe_bm PySem.F.plainAttrs_list PySem.F.slot_list_append PySem.F.type_list_append mt_append (pv 3) (pa_cons (pe_tup (pa_cons (pe_op op_addX (pe_bm PySem.F.plainAttrs_str PySem.F.slot_str_count PySem.F.type_str_count mt_count (pv 2) (pa_cons pe_str pa_nil)) pe_int) (pa_cons (pe_op op_addX (pe_op op_sub (pe_callB call_lenX (by rfl) b.len bt_len (pa_cons (pv 2) pa_nil)) (pe_op op_addX (pe_bm PySem.F.plainAttrs_str PySem.F.slot_str_rfind PySem.F.type_str_rfind mt_rfind (pv 2) (pa_cons pe_str pa_nil)) pe_int)) pe_int) pa_nil))) pa_nil)))
      (pss_one (ps_set (i := 2) sc__law_t_laid.nd rfl (.inl rfl) (pe_op op_addX (pv 2) (pv 6)))))))))
      (pss_cons (ps_set (i := 2) sc__law_t_laid.nd rfl (.inl rfl) (pe_op op_addX (pv 2) (pe_c c__law_pick hr (by omega) rfl (pa_cons (pv 0) (pa_cons (pe_lst (pa_cs rfl)) pa_nil)))))
      (pss_one (ps_ret (pe_tup (pa_cons (pv 2) (pa_cons (pe_op op_addX (pv 3) (pe_lst (pa_cons (pe_tup (pa_cons (pe_op op_addX (pe_bm PySem.F.plainAttrs_str PySem.F.slot_str_count PySem.F.type_str_count mt_count (pv 2) (pa_cons pe_str pa_nil)) pe_int) (pa_cons (pe_op op_addX (pe_op op_sub (pe_callB call_lenX (by rfl) b.len bt_len (pa_cons (pv 2) pa_nil)) (pe_op op_addX (pe_bm PySem.F.plainAttrs_str PySem.F.slot_str_rfind PySem.F.type_str_rfind mt_rfind (pv 2) (pa_cons pe_str pa_nil)) pe_int)) pe_int) pa_nil))) pa_nil))) pa_nil)))))))), ?_⟩
  refine ⟨(by show 0 ≤ sizeLine; decide), fun F hF => ⟨_, _, _, rfl, ?_⟩⟩
  have eF : Ex H (upd H F (.lst [])) := Evl.Ex.new hF
  obtain ⟨Fs, FL⟩ := hS.new hF
  let Inv : Nat → L2.St → Hp → Prop := fun i σ' H' => ∃ (T : List Nat) (pos : List (Nat × Nat)) (vs : List V) (y5 y6 y7 : Option V), σ' = [some (.ref st), some (.ref M), some (.str (SX.S T)), some (.ref F), some (.str "(){},;:.|"), y5, y6, y7] ∧ pos.length = i ∧ T.length ≤ 40 * i ∧
    Mk.Front T (List.zipWith Mk.mkm (mk.take i) pos) (lstEnd mk i) ∧ Strm H' st L (n + 4 * i) ∧ ExS st L H H' ∧ H' F = some (.lst vs) ∧ PlAt H' vs pos
  refine ⟨Inv mk.length, ?_, ?_⟩
  · refine ⟨_, rfl, M, mk.map fun p => V.str (SX.S p.2), rfl, SqL.of (eF _ _ hM), for_it (n := (mk.map fun p => V.str (SX.S p.2)).length) walk_enum Inv ?_ ?_ ?_ ?_⟩
    · exact ⟨[], [], [], none, none, none, rfl, rfl, Nat.le_refl _, Mk.front_nil, hS.ext eF, ExS.of eF, upd_same, trivial⟩
    · rintro i σ' H' _ ⟨T, pos, vs, y5, y6, y7, rfl, h1, h2, h3, h4, h5, h6, h7⟩
      exact SqL.of (h5 _ _ hM hMs hML)
    · rintro i x σ' H1 H2 hi ⟨T, pos, vs, y5, y6, y7, rfl, h1, h2, h3, h4, h5, h6, h7⟩ ⟨W, x1, x2, rfl, hW, rfl, ex1, ex2⟩
      have ex1 : V.int (i : Nat) = x1 := Option.some.inj ex1
      subst ex1
      dsimp only at ex2
      rw [List.getElem?_map] at ex2
      obtain ⟨⟨k, m⟩, hm, e2⟩ := Option.map_eq_some_iff.mp ex2
      subst e2
      have good : Mk.Good k m := hg _ (List.mem_of_getElem? hm)
      have hi' : i < mk.length := by simpa using hi
      have eW := Evl.Ex.new (o := .tup [.int (i : Nat), .str (SX.S m)]) hW
      refine ⟨W, _, rfl, Evl.st_of upd_same, rfl, _, _, rfl, _, _, rfl, rfl, ?_⟩
      have h4 := h4.ext eW
      have h5 := h5.trans (ExS.of (st := st) (L := L) eW)
      have h6 := eW _ _ h6
      have h7 := plAt_mono (TupS.of eW) h7
      generalize (upd H1 W _) = H2 at h4 h5 h6 h7
      clear eW hW ex2
      refine ⟨_, rfl, (by show 7 ≤ sizeLine; decide), fun a ha => ?_⟩
      have ya := Evl.Ex.new (o := .lst [.str " ", .str " ", .str " ", .str "\n", .str "  ", .str " # no (words; \n", .str "\n\n   "]) ha
      obtain ⟨an1, an2⟩ := h4.new ha
      refine ⟨st, L, a, n + 4 * i, _, rfl, h4.ext ya, upd_same, an1, an2, by simp, by simp, by omega, fun v H3 hv S3 x3 => ?_⟩
      obtain ⟨g0, rfl, hg0, hne⟩ : ∃ g0, v = .str (SX.S g0) ∧ g0 ∈ Mk.gaps ∧ g0 ≠ [] := by
        simp only [List.mem_cons, List.mem_nil_iff, or_false] at hv
        rcases hv with rfl | rfl | rfl | rfl | rfl | rfl | rfl
        · exact ⟨[32], rfl, by decide, by decide⟩
        · exact ⟨[32], rfl, by decide, by decide⟩
        · exact ⟨[32], rfl, by decide, by decide⟩
        · exact ⟨[10], rfl, by decide, by decide⟩
        · exact ⟨[32, 32], rfl, by decide, by decide⟩
        · exact ⟨[32, 35, 32, 110, 111, 32, 40, 119, 111, 114, 100, 115, 59, 32, 10], rfl, by decide, by decide⟩
        · exact ⟨[10, 10, 32, 32, 32], rfl, by decide, by decide⟩
      have x3 := (ExS.of (st := st) (L := L) ya).trans x3
      have t3 := TupS.exs h4 x3
      have h7 := plAt_mono t3 h7
      have h6 := x3 _ _ h6 Fs FL
      have h5 := h5.trans x3
      clear t3 ya ha an1 an2 x3 h4
      refine ⟨fun σ' H' => ∃ gp : List Nat, σ' = [some (.ref st), some (.ref M), some (.str (SX.S T)), some (.ref F), some (.str "(){},;:.|"), some (.int (i : Nat)), some (.str (SX.S m)), some (.str (SX.S gp))] ∧ gp ∈ Mk.gaps ∧ (gp ≠ [] ∨ lstEnd mk i = none ∨ (∃ l, lstEnd mk i = some l ∧ Mk.tight l = true) ∨ Mk.tight m = true) ∧ Strm H' st L (n + 4 * i + 3) ∧ ExS st L H3 H', ?_, ?_⟩
      · cases i with
        | zero =>
          refine (Evl.et_test (ev_eqI (K := K) (Evl.ev_var rfl) Evl.ev_c)) H3 (Evl.Ex.refl H3) _ (fun H4 e4 => ?_)
          refine iteT ?_
          refine iteT ?_
          refine (Evl.et_test (ev_gtI (Evl.ev_var rfl) Evl.ev_c)) H4 (Evl.Ex.refl H4) _ (fun H5 e5 => ?_)
          refine iteF ?_
          refine ⟨_, rfl, st, L, _, 2, rfl, (S3.ext e4).ext e5, by decide, by decide, by omega, fun d H6 d0 d2 S6 x6 => eqX_int ⟨_, rfl, ?_⟩⟩
          have x36 := (ExS.of (st := st) (L := L) (e4.trans e5)).trans x6
          refine ite2 (fun hd => ?_) (fun hd => ?_)
          · exact ⟨[], rfl, by decide, .inr (.inl rfl), S6.mono (by omega), x36⟩
          · exact ⟨[10, 32, 32], rfl, by decide, .inr (.inl rfl), S6.mono (by omega), x36⟩
        | succ j =>
          obtain ⟨⟨kp, mp⟩, hp⟩ : ∃ p, mk[j]? = some p := ⟨_, List.getElem?_eq_getElem (by omega)⟩
          have goodp : Mk.Good kp mp := hg _ (List.mem_of_getElem? hp)
          have hl : lstEnd mk (j + 1) = some mp := by
            show (mk[j]?).map Prod.snd = _
            rw [hp]
            rfl
          have hM3 := h5 _ _ hM hMs hML
          have hx : (mk.map fun p => V.str (SX.S p.2))[j]? = some (.str (SX.S mp)) := by
            rw [List.getElem?_map, hp]
            rfl
          refine (Evl.et_test (ev_eqI (K := K) (Evl.ev_var rfl) Evl.ev_c)) H3 (Evl.Ex.refl H3) _ (fun H4 e4 => ?_)
          rw [show decide (((j + 1 : Nat) : Int) = 0) = false from decide_eq_false (by omega)]
          refine iteF ?_
          refine (Evl.et_or (Evl.et_test (ev_inF (K := K) (ev_ixL (K := K) (v := .str (SX.S mp)) (i := j) (Evl.ev_var rfl) (Evl.ev_is (ev_subI (Evl.ev_var rfl) Evl.ev_c) (by congr 1; omega)) (e4 _ _ hM3) hx) (Evl.ev_var rfl))) (fun _ => Evl.et_test (ev_inF (K := K) (s := SX.S m) (Evl.ev_var rfl) (Evl.ev_var rfl)))) H4 (Evl.Ex.refl H4) _ (fun H5 e5 => ?_)
          refine ite2 (fun hb => ?_) (fun hb => ?_)
          · have ht : Mk.tight mp = true ∨ Mk.tight m = true := by
              rcases Bool.or_eq_true_iff.mp hb with h | h
              · exact .inl (Mk.tight_of goodp h)
              · exact .inr (Mk.tight_of good h)
            refine ⟨_, rfl, st, L, _, 2, rfl, (S3.ext e4).ext e5, by decide, by decide, by omega, fun d H6 d0 d2 S6 x6 => eqX_int ⟨_, rfl, ?_⟩⟩
            have x36 := (ExS.of (st := st) (L := L) (e4.trans e5)).trans x6
            refine ite2 (fun hd => ?_) (fun hd => ?_)
            · refine (Evl.et_test (ev_gtI (Evl.ev_var rfl) Evl.ev_c)) H6 (Evl.Ex.refl H6) _ (fun H7 e7 => ?_)
              rw [show decide ((0 : Int) < ((j + 1 : Nat) : Int)) = true from decide_eq_true (by omega)]
              refine iteT ?_
              refine iteT ?_
              refine ⟨[], rfl, by decide, ?_, (S6.ext e7).mono (by omega), x36.trans (ExS.of e7)⟩
              rcases ht with h | h
              · exact .inr (.inr (.inl ⟨mp, hl, h⟩))
              · exact .inr (.inr (.inr h))
            · exact ⟨g0, rfl, hg0, .inl hne, S6.mono (by omega), x36⟩
          · refine iteF ?_
            exact ⟨g0, rfl, hg0, .inl hne, ((S3.ext e4).ext e5).mono (by omega), ExS.of (e4.trans e5)⟩
      · rintro σ' H4 ⟨gp, rfl, hgp, hcond, S4, x4⟩
        have gl : gp.length ≤ 15 := by
          have all : ∀ g ∈ Mk.gaps, g.length ≤ 15 := by decide
          exact all gp hgp
        have ml := good.len
        have T4 := TupS.exs S3 x4
        have h7 := plAt_mono T4 h7
        have h6 := x4 _ _ h6 Fs FL
        have h5 := h5.trans x4
        refine Evl.q_asg (Evl.ev_is (w := .str (SX.S (T ++ gp))) (ev_addS (Evl.ev_var rfl) (Evl.ev_var rfl) (by rw [SX.S_len, SX.S_len]; exact Evl.sz_of (by omega))) (by rw [SX.S_cat])) (fun H5 e5 => ?_)
        have hTg : (T ++ gp).length ≤ 10000000 := by rw [List.length_append]; omega
        have hst := Mk.front_step h3 hgp good hcond
        refine ⟨.ref F, rfl, .inl ⟨rfl, _, SqL.of (e5 _ _ h6)⟩, ?_⟩
        refine (ev_row (K := K) (p := T ++ gp) (Evl.ev_var rfl)) H5 (Evl.Ex.refl H5) _ fun H6 e6 => ?_
        refine (ev_col (K := K) (p := T ++ gp) (Evl.ev_var rfl) hTg) H6 (Evl.Ex.refl H6) _ fun H7 e7 => ?_
        have e57 := (e5.trans e6).trans e7
        refine ⟨(by show 2 ≤ sizeLine; decide), fun p hp => ⟨F, vs, .ref p, rfl, rfl, (Evl.Ex.new hp) _ _ (e57 _ _ h6), Evl.sz_lt (by rw [plAt_len h7]; omega), ?_⟩⟩
        have ep := Evl.Ex.new (o := .tup [.int (Mk.line (T ++ gp) : Nat), .int (Mk.col0 (T ++ gp) + 1 : Nat)]) hp
        have hpp : (upd H7 p (.tup [.int (Mk.line (T ++ gp) : Nat), .int (Mk.col0 (T ++ gp) + 1 : Nat)])) p = some (.tup [.int (Mk.line (T ++ gp) : Nat), .int (Mk.col0 (T ++ gp) + 1 : Nat)]) := upd_same
        have e58 := e57.trans ep
        generalize (upd H7 p _) = H8 at ep hpp e58
        have hF8 := e58 _ _ h6
        have tF := TupS.lst (o := .lst (vs ++ [.ref p])) hF8
        refine Evl.s_asg (Evl.ev_is (w := .str (SX.S (T ++ gp ++ m))) (ev_addS (Evl.ev_var rfl) (Evl.ev_var rfl) (by rw [SX.S_len, SX.S_len]; exact Evl.sz_of (by rw [List.length_append]; omega))) (by rw [SX.S_cat])) (fun H9 e9 => ?_)
        refine ⟨T ++ gp ++ m, pos ++ [(Mk.line (T ++ gp), Mk.col0 (T ++ gp) + 1)], vs ++ [.ref p], _, _, _, rfl, by rw [List.length_append, h1]; rfl, by rw [List.length_append, List.length_append]; omega, ?_, ?_, ?_, e9 _ _ upd_same, ?_⟩
        · rw [Mk.zip_snoc hm h1]
          have hl : lstEnd mk (i + 1) = some m := by
            show (mk[i]?).map Prod.snd = _
            rw [hm]
            rfl
          rw [hl]
          exact hst
        · exact (((S4.ext e58).put Fs FL).ext e9).mono (by omega)
        · exact ((h5.trans (ExS.of e58)).mut hF).trans (ExS.of e9)
        · exact plAt_mono (TupS.of e9) (plAt_snoc (tF _ _ hpp) (plAt_mono tF (plAt_mono (TupS.of e58) h7)))
    · rintro σ' H' h
      rw [List.length_map] at h
      exact h
  · rintro σ' H1 ⟨T, pos, vs, y5, y6, y7, rfl, h1, h2, h3, h4, h5, h6, h7⟩
    rw [List.take_length] at h3
    refine ⟨_, rfl, _, rfl, (by show 5 ≤ sizeLine; decide), fun a ha => ?_⟩
    have ya := Evl.Ex.new (o := .lst [.str "", .str " ", .str "\n", .str "\n  \n", .str " # end"]) ha
    obtain ⟨an1, an2⟩ := h4.new ha
    refine ⟨st, L, a, n + 4 * mk.length, _, rfl, h4.ext ya, upd_same, an1, an2, by simp, by simp, by omega, fun v H3 hv S3 x3 => ?_⟩
    obtain ⟨g0, rfl, hg0⟩ : ∃ g0, v = .str (SX.S g0) ∧ (g0 ∈ Mk.gaps ∨ g0 = [32, 35, 32, 101, 110, 100]) := by
      simp only [List.mem_cons, List.mem_nil_iff, or_false] at hv
      rcases hv with rfl | rfl | rfl | rfl | rfl
      · exact ⟨[], rfl, .inl (by decide)⟩
      · exact ⟨[32], rfl, .inl (by decide)⟩
      · exact ⟨[10], rfl, .inl (by decide)⟩
      · exact ⟨[10, 32, 32, 10], rfl, .inl (by decide)⟩
      · exact ⟨[32, 35, 32, 101, 110, 100], rfl, .inr rfl⟩
    have x3 := (ExS.of (st := st) (L := L) ya).trans x3
    have h7 := plAt_mono (TupS.exs h4 x3) h7
    have h6 := x3 _ _ h6 Fs FL
    have h5 := h5.trans x3
    have gl : g0.length ≤ 15 := by
      have all : ∀ g ∈ Mk.gaps, g.length ≤ 15 := by decide
      rcases hg0 with h | rfl
      · exact all g0 h
      · decide
    have tl : (T ++ g0).length ≤ 90000 := by rw [List.length_append]; omega
    refine addX_str (by rw [SX.S_len, SX.S_len]; exact Evl.sz_of (by omega)) ?_
    rw [SX.S_cat]
    have fin := Mk.front_end h3 hg0
    refine ⟨_, rfl, _, rfl, ?_⟩
    refine (ev_row (K := K) (p := T ++ g0) (Evl.ev_var rfl)) H3 (Evl.Ex.refl H3) _ fun H6 e6 => ?_
    refine (ev_col (K := K) (p := T ++ g0) (Evl.ev_var rfl) (by omega)) H6 (Evl.Ex.refl H6) _ fun H7 e7 => ?_
    have e37 := e6.trans e7
    refine ⟨(by show 2 ≤ sizeLine; decide), fun p hp => ⟨(by show 1 ≤ sizeLine; decide), fun l1 hl1 => addX_lst (xs := vs) (ys := [.ref p]) ((Evl.Ex.new hl1) _ _ ((Evl.Ex.new hp) _ _ (e37 _ _ h6))) upd_same (Evl.sz_of (by rw [plAt_len h7]; simp; omega)) fun l2 hl2 => ⟨(by show 2 ≤ sizeLine; decide), fun u hu2 => ?_⟩⟩⟩
    have ep := Evl.Ex.new (o := .tup [.int (Mk.line (T ++ g0) : Nat), .int (Mk.col0 (T ++ g0) + 1 : Nat)]) hp
    have e1 := Evl.Ex.new (o := .lst [.ref p]) hl1
    have e2 := Evl.Ex.new (o := .lst (vs ++ [.ref p])) hl2
    have e3 := Evl.Ex.new (o := .tup [.str (SX.S (T ++ g0)), .ref l2]) hu2
    have eA := (((e37.trans ep).trans e1).trans e2).trans e3
    refine q u l2 (T ++ g0) pos (Mk.line (T ++ g0), Mk.col0 (T ++ g0) + 1) (vs ++ [.ref p]) _ fin tl h1 upd_same (e3 _ _ upd_same) ?_ ?_ ?_ ((S3.ext eA).mono (by omega)) (h5.trans (ExS.of eA))
    · exact plAt_mono (TupS.of ((e1.trans e2).trans e3)) (plAt_snoc (q := (Mk.line (T ++ g0), Mk.col0 (T ++ g0) + 1)) upd_same (plAt_mono (TupS.of (e37.trans ep)) h7))
    · exact exs_fresh h5 S3 (Evl.fresh_back ((e37.trans ep).trans e1) hl2)
    · exact exs_fresh h5 S3 (Evl.fresh_back (((e37.trans ep).trans e1).trans e2) hu2)
end
abbrev s_law : Stmt := topS 25
abbrev N_law : List Str := ["script", "stream", "turn", "drawn", "k", "signs", "kinds", "one", "look", "text", "places", "due", "kind", "sign", "place", "near"]
theorem sc_law : FnScope N_law ["script"] (defScope s_law) := ⟨rfl, rfl, rfl, by decide +kernel, rfl, by decide +kernel, by decide +kernel⟩
section
variable {P : Program} {w : World} {K : PySem.W.Frag} {mg : Str → Option Value} {base : Heap}
def spLaw (K : PySem.W.Frag) (PT : Addr) : Sp := fun vs H Q _ => ∃ (a : Addr) (ns : List Int), vs = [.ref a] ∧ SqL K H a (ns.map V.int) ∧ ns.length ≤ 63 ∧ H PT = some (.tbl #[]) ∧ ∀ H', Q (.bl true) H'
theorem lc_due {y0 y1 y2 y3 y4 y7 y8 y9 y11 y12 y13 y14 y15 : Option V} {sl kl pl : Addr} {mk : List (Str × List Nat)} {pos : List (Nat × Nat)} {e : Nat × Nat} {vs : List V} {H : Hp} {Q : VK} (hk : H kl = some (.lst (mk.map fun p => V.str p.1))) (hs : H sl = some (.lst (mk.map fun p => V.str (SX.S p.2)))) (hp : H pl = some (.lst vs))
    (hat : PlAt H vs (pos ++ [e])) (hl : pos.length = mk.length) (hn : mk.length ≤ 1000) (q : ∀ Dl us H2, Ex H H2 → H Dl = none → H2 Dl = some (.lst us) → Kc.Trees K H2 us ((List.zipWith Mk.mkm mk pos).map mkD) [] → Q (.ref Dl) H2) :
    tLc (iZip3 K (tCons (tVar 6) (tCons (tVar 5) (tCons (tVar 10) tNil)))) (gTup K 3 (gCons (gName 12) (gCons (gName 13) (gCons (gName 14) gNil)))) tYes (tTup (tCons (tVar 12) (tCons (tVar 13) (tCons (tVar 14) tNil)))) [12, 13, 14]
      [y0, y1, y2, y3, y4, some (.ref sl), some (.ref kl), y7, y8, y9, some (.ref pl), y11, y12, y13, y14, y15] H Q := by
  have hvl := plAt_len hat
  rw [List.length_append, List.length_singleton] at hvl
  have hzl : (List.zipWith Mk.mkm mk pos).length = mk.length := by rw [List.length_zipWith]; omega
  refine ⟨_, rfl, _, rfl, _, rfl, kl, sl, pl, _, _, _, rfl, Evl.sq_of hk, Evl.sq_of hs, Evl.sq_of hp, fun Dl hD => ?_⟩
  let Pv : Nat → Hp → Prop := fun i H' => H Dl = none ∧ Ex H H' ∧ ∃ us, H' Dl = some (.lst us) ∧ Kc.Trees K H' us (((List.zipWith Mk.mkm mk pos).take i).map mkD) []
  refine lc_it (walk_zip3 (n := mk.length) (by rw [List.length_map]; omega) (by rw [List.length_map]; omega) (by omega) (.inl (by rw [List.length_map]))) Pv ⟨hD, Evl.Ex.new hD, [], upd_same, .nil⟩ (fun i H' _ p => ⟨Evl.sq_of (p.2.1 _ _ hk), Evl.sq_of (p.2.1 _ _ hs), Evl.sq_of (p.2.1 _ _ hp)⟩) ?_ ?_
  · rintro i x H4 H5 hi ⟨p1, p2, us, p3, p4⟩ ⟨T, x1, x2, x3, rfl, hT, rfl, g1, g2, g3⟩
    dsimp only at g1 g2 g3
    have hm : mk[i]? = some mk[i] := List.getElem?_eq_getElem hi
    have hi2 : i < pos.length := by omega
    generalize mk[i] = m at hm
    rw [List.getElem?_map, hm] at g1 g2
    have g1 := Option.some.inj g1
    have g2 := Option.some.inj g2
    subst g1
    subst g2
    obtain ⟨pq, pa, h1, rfl, h3⟩ := plAt_get hat g3
    rw [List.getElem?_append_left hi2] at h1
    have eT := Evl.Ex.new (o := .tup [.str m.1, .str (SX.S m.2), .ref pa]) hT
    refine ⟨T, _, rfl, Evl.st_of upd_same, rfl, _, _, rfl, _, _, rfl, _, _, rfl, rfl, rfl, ?_⟩
    refine yes_go ?_
    refine ⟨_, rfl, _, rfl, _, rfl, (by show 3 ≤ sizeLine; decide), fun T2 hT2 => ?_⟩
    have e2 := Evl.Ex.new (o := .tup [.str m.1, .str (SX.S m.2), .ref pa]) hT2
    have p3' := e2 _ _ (eT _ _ p3)
    have pl' := e2 _ _ (eT _ _ (p2 _ _ h3))
    have tz := tree_mk (K := K) (m := Mk.mkm m pq) (Evl.st_of (upd_same (H := upd H4 T (.tup [.str m.1, .str (SX.S m.2), .ref pa])) (a := T2) (o := .tup [.str m.1, .str (SX.S m.2), .ref pa]))) (Evl.st_of pl')
    have p4' := (p4.ex eT).ex e2
    have p2' := (p2.trans eT).trans e2
    generalize (upd (upd H4 T (.tup [.str m.1, .str (SX.S m.2), .ref pa])) T2 (.tup [.str m.1, .str (SX.S m.2), .ref pa])) = H6 at p3' tz p4' p2'
    have hul : us.length ≤ 1000 := by
      rw [Kc.Trees.len p4, List.length_map, List.length_take]
      omega
    have ea : ExL [Dl] H6 (upd H6 Dl (.lst (us ++ [.ref T2]))) := exl_put List.mem_cons_self
    have own1 : ∀ b ∈ [Dl], ∃ zs, H6 b = some (.lst zs) := fun b hb => by
      rw [List.mem_singleton.mp hb]
      exact ⟨_, p3'⟩
    refine ⟨us, p3', Evl.sz_lt (by omega), p1, p2'.mut p1, us ++ [.ref T2], upd_same, ?_⟩
    have hz : (List.zipWith Mk.mkm mk pos)[i]? = some (Mk.mkm m pq) := by
      rw [List.getElem?_zipWith, hm, h1]
    rw [List.take_add_one, hz, List.map_append]
    exact Kc.Trees.snoc (Kc.Trees.frame ea own1 _ _ _ p4' (by simp)) (Kc.Tree.frame ea own1 _ _ _ tz (by simp))
  · rintro H' ⟨p1, p2, us, p3, p4⟩
    rw [List.take_of_length_le (by omega)] at p4
    exact q Dl us H' p2 p1 p3 p4
def Sl (a st : Addr) (σ : L2.St) : Prop := ∃ y2 y3 y4 y5 y6 y7 y8 y9 y10 y11 y12 y13 y14 y15 : Option V, σ = [some (.ref a), some (.ref st), y2, y3, y4, y5, y6, y7, y8, y9, y10, y11, y12, y13, y14, y15]
def lamq : Str := ("law" : Str) ++ ".<locals>." ++ "<lambda>"
def nearT : List Nat := ("f(x):T.y;{|}=->3*4==(5<6)+-7,8#z\n#" : Str).cps.toList
def nearOut : List Mk.MkT := (Mk.lexF 100 [] nearT).getD []
theorem near_lex : Mk.Lex [] nearT nearOut := by
  refine Mk.lexF_ok 100 _ _ _ ?_
  have h : (Mk.lexF 100 [] nearT).isSome = true := by decide +kernel
  unfold nearOut
  cases e : Mk.lexF 100 [] nearT with
  | none =>
    rw [e] at h
    cases h
  | some o => rfl
def nearS : List Str := ["f", "(", "x", ")", ":", "T", ".", "y", ";", "{", "|", "}", "=", "->", "3", "*", "4", "==", "(", "5", "<", "6", ")", "+", "-", "7", ",", "8", ""]
theorem near_signs : nearOut.map (fun m => V.str (SX.S m.2.1)) = nearS.map V.str := by decide +kernel
theorem near_len : nearOut.length = 29 := by decide +kernel
theorem strs_dp {H : Hp} : ∀ ws : List Str, DpAll K H (ws.map V.str) (ws.map PyData.str)
  | [] => .nil
  | x :: ws => .cons (.str x) (strs_dp ws)
theorem ok_law {f c PT : Addr} {oc kV doc pm ct : Value} {od an : Option Addr} {osl : Array (Option Value)} (lk : K.lookup f = some ⟨oc, od, .func (PySem.W.fnOf "law" "law" (defArgs s_law) (defBody s_law) (defScope s_law) .none kV doc pm an (.ref c) ct), osl⟩) (hcd : PySem.W.codeIn K (.ref c) "law" = true)
    (b : Bi mg) (TB : LamX.TabB base mg c PT) (c__law_stream : Cal P w K mg base 1 "_law_stream" (spStream K)) (c__law_draw : Cal P w K mg base 1 "_law_draw" spDraw) (c__law_drawn : Cal P w K mg base 3 "_law_drawn" spDrawn) (c__law_t_laid : Cal P w K mg base 3 "_law_t_laid" spLaid)
    (c__law_copied : Cal P w K mg base 4 "_law_copied" (spCopied K 4)) (c__law_same : Cal P w K mg base 5 "_law_same" (spSame K 5)) (c__law_spoilt : Cal P w K mg base 4 "_law_spoilt" (spSpoilt K 4)) (D__law_twice : Dfn K mg "_law_twice" s__law_twice ["due", "first", "other"])
    (c_marks_of : Cal P w K mg base 4 "marks_of" (spMarks K)) (ck_marks_of : CalK P w K mg base 4 "marks_of" ["text"] (spMarks K)) : FnOk P w K mg base CX0 7 f (PySem.W.fnOf "law" "law" (defArgs s_law) (defBody s_law) (defScope s_law) .none kV doc pm an (.ref c) ct) ["script"] (spLaw K PT) := by
  refine fn_code lk hcd sc_law (fun vs H Q E h => ?_) (fun A outer s H vs Q E hr h => ?_)
  · obtain ⟨a, ns, rfl, _⟩ := h
    rfl
  obtain ⟨a, ns, rfl, hs, hl, hT, q⟩ := h
  have hu := hr.units
  refine ⟨_, (pss_cons (ps_set (i := 1) sc_law.nd rfl (.inr rfl) (pe_c c__law_stream hr (by omega) rfl (pa_cons (pv 0) pa_nil)))
      (Evl.pss_cut (ps_for PassesOwn.never rfl (pi_range1 (by rfl) b.range (pa_cons pe_int pa_nil)) (pg_name (i := 2) sc_law.nd rfl (.inl rfl))
        (pss_cons (ps_setLc (i := 3) (own := [("k", 4)]) (g := (gName 4)) (tt := tYes) (te := (tCal _ (tCons (tVar 1) tNil))) (by rfl) sc_law.nd rfl rfl (sw_true rfl rfl rfl (by decide +kernel)) (pi_range1 (by rfl) b.range (pa_cons (pe_c c__law_draw hr (by omega) rfl (pa_cons (pv 1) (pa_cons pe_int pa_nil))) pa_nil)) (blkOk_by (N := N_law) (sc := defScope s_law) (by decide +kernel)) (fun _ _ _ _ _ => (pg_name (i := 4) sc_law.nd rfl (.inl rfl))) (fun _ _ _ _ _ => pts_nil) (fun _ _ _ _ _ => (pe_c c__law_drawn hr (by omega) rfl (pa_cons (pv 1) pa_nil))))
      (pss_cons (ps_par (i := 5) (j := 6) (by rfl) sc_law.nd rfl rfl (by decide) rfl rfl (pa_cons (pe_lc (own := [("one", 7)]) (g := (gName 7)) (tt := tYes) (te := (tOp (rIx K) (tVar 7) (tC (.int 0)))) (by rfl) sc_law.nd (pi_seq (pv 3)) (blkOk_by (N := N_law) (sc := defScope s_law) (by decide +kernel)) (fun _ _ _ _ _ => (pg_name (i := 7) sc_law.nd rfl (.inl rfl))) (fun _ _ _ _ _ => pts_nil) (fun _ _ _ _ _ => (pe_ix ix_seq (pv 7) pe_int (fun _ _ => rfl)))) (pa_cons (pe_lc (own := [("one", 7)]) (g := (gName 7)) (tt := tYes) (te := (tOp (rIx K) (tVar 7) (tC (.int 1)))) (by rfl) sc_law.nd (pi_seq (pv 3)) (blkOk_by (N := N_law) (sc := defScope s_law) (by decide +kernel)) (fun _ _ _ _ _ => (pg_name (i := 7) sc_law.nd rfl (.inl rfl))) (fun _ _ _ _ _ => pts_nil) (fun _ _ _ _ _ => (pe_ix ix_seq (pv 7) pe_int (fun _ _ => rfl)))) pa_nil)) (by rfl))
      (pss_one (ps_for PassesOwn.never rfl (pi_range1 (by rfl) b.range (pa_cons pe_int pa_nil)) (pg_name (i := 8) sc_law.nd rfl (.inl rfl))
        (pss_cons (ps_asg (pe_c c__law_t_laid hr (by omega) rfl (pa_cons (pv 1) (pa_cons (pv 5) pa_nil))) (pg_tup rfl (pgs_cons (pg_name (i := 9) sc_law.nd rfl (.inr rfl)) (pgs_cons (pg_name (i := 10) sc_law.nd rfl (.inl rfl)) pgs_nil))))
      (pss_cons (ps_set (i := 11) sc_law.nd rfl (.inl rfl) (pe_op op_addX (pe_lc (own := [("kind", 12), ("sign", 13), ("place", 14)]) (g := (gTup K 3 (gCons (gName 12) (gCons (gName 13) (gCons (gName 14) gNil))))) (tt := tYes) (te := (tTup (tCons (tVar 12) (tCons (tVar 13) (tCons (tVar 14) tNil))))) (by rfl) sc_law.nd (pi_zip3 (by rfl) b.zip (pa_cons (pv 6) (pa_cons (pv 5) (pa_cons (pv 10) pa_nil)))) (blkOk_by (N := N_law) (sc := defScope s_law) (by decide +kernel)) (fun _ _ _ _ _ => (pg_tup rfl (pgs_cons (pg_name (i := 12) sc_law.nd rfl (.inl rfl)) (pgs_cons (pg_name (i := 13) sc_law.nd rfl (.inl rfl)) (pgs_cons (pg_name (i := 14) sc_law.nd rfl (.inl rfl)) pgs_nil))))) (fun _ _ _ _ _ => pts_nil) (fun _ _ _ _ _ => (pe_tup (pa_cons (pv 12) (pa_cons (pv 13) (pa_cons (pv 14) pa_nil)))))) (pe_lst (pa_cons (pe_tup (pa_cons pe_str (pa_cons pe_str (pa_cons (pe_ix ix_seq (pv 10) (pe_un un_neg pe_int) (fun _ _ => rfl)) pa_nil)))) pa_nil))))
      (pss_one (ps_if (pt_not (pt_val (pe_twice D__law_twice sc__law_twice (fun g cdg => gives_twice b c__law_copied c__law_same c__law_spoilt (by omega)) TB rfl hr rfl (pv 11) (fun A outer s H f c' hr => (pe_c c_marks_of hr (by omega) rfl (pa_cons (pv 9) pa_nil))) (fun A outer s H f c' hr => (pe_ck ck_marks_of hr (by omega) rfl (pk_cons (pv 9) pk_nil))))))
        (pss_one (ps_ret pe_bl))
        pss_nil)))))))))
      (pss_cons (ps_set (i := 15) sc_law.nd rfl (.inl rfl) pe_str)
      (pss_cons (ps_setLc (i := 5) (own := [("one", 7)]) (g := (gName 7)) (tt := tYes) (te := (tOp (rIx K) (tVar 7) (tC (.int 1)))) (by rfl) sc_law.nd rfl rfl (sw_true rfl rfl rfl (by decide +kernel)) (pi_seq (pe_c c_marks_of hr (by omega) rfl (pa_cons (pe_c c__law_copied hr (by omega) rfl (pa_cons (pv 15) pa_nil)) pa_nil))) (blkOk_by (N := N_law) (sc := defScope s_law) (by decide +kernel)) (fun _ _ _ _ _ => (pg_name (i := 7) sc_law.nd rfl (.inl rfl))) (fun _ _ _ _ _ => pts_nil) (fun _ _ _ _ _ => (pe_ix ix_seq (pv 7) pe_int (fun _ _ => rfl))))
      (pss_one (ps_ret (pe_c c__law_same hr (by omega) rfl (pa_cons (pv 5) (pa_cons (pe_lst (pa_cs rfl)) pa_nil))))))))), ?_⟩
  refine ⟨_, rfl, a, ns, rfl, hs, hl, fun st L H1 e1 S1 => ?_⟩
  have T1 : LamX.Tabs [(PT, lamq)] H1 := fun p hp => by
    rw [List.mem_singleton.mp hp]
    exact LamX.TabS.nil (e1 _ _ hT)
  clear hs hT e1
  refine Evl.q_cut (M := fun σ' H' => Sl a st σ' ∧ Strm H' st L 100000) ?_ ?_
  · refine Evl.s_forR1 (n := 6) (Evl.ea_cons Evl.ev_c Evl.ea_nil) (by decide) (fun i σ' H' => Sl a st σ' ∧ Strm H' st L (2000 * i) ∧ LamX.Tabs [(PT, lamq)] H') (fun H2 e2 => ⟨⟨_, _, _, _, _, _, _, _, _, _, _, _, _, _, rfl⟩, S1.ext e2, T1.ext e2⟩) ?_ ?_
    · rintro i σ' H2 hi ⟨⟨y2, y3, y4, y5, y6, y7, y8, y9, y10, y11, y12, y13, y14, y15, rfl⟩, S2, T2⟩
      refine ⟨_, rfl, st, L, _, 81, rfl, S2, by decide, by decide, by omega, fun d H3 d0 d1 S3 x3 => ⟨d, rfl, by omega, by omega, fun Dl hD => ?_⟩⟩
      have T3 := tabs_exs T2 S2 x3
      obtain ⟨Ds, DL⟩ := S3.new hD
      let Pd : Nat → Hp → Prop := fun k H' => ∃ (refs : List V) (mk : List (Str × List Nat)), mk.length = k ∧ (∀ p ∈ mk, Mk.Good p.1 p.2) ∧ ExS st L H3 H' ∧ Strm H' st L (2000 * i + 1 + 3 * k) ∧ H' Dl = some (.lst refs) ∧ DrAt [st, L, Dl] H' refs mk
      refine lc_it (n := d.toNat) (walk_range (lo := 0)) Pd ?_ (fun _ _ _ _ => trivial) ?_ ?_
      · exact ⟨[], [], rfl, by simp, ExS.of (Evl.Ex.new hD), (S3.ext (Evl.Ex.new hD)).mono (by omega), upd_same, trivial⟩
      · rintro k x H4 H5 hk ⟨refs, mk, m1, m2, m3, m4, m5, m6⟩ ⟨rfl, rfl⟩
        refine ⟨rfl, ?_⟩
        refine yes_go ?_
        refine ⟨_, rfl, st, L, _, rfl, m4, by omega, fun l m kd H6 g hl h6 S6 x6 => ?_⟩
        obtain ⟨ls, lL⟩ := m4.new hl
        have lD : l ≠ Dl := fun z => by
          rw [z, m5] at hl
          cases hl
        have m5' := x6 _ _ m5 Ds DL
        refine ⟨refs, m5', Evl.sz_lt (by rw [drAt_len m6]; omega), refs ++ [.ref l], mk ++ [(kd, m)], by rw [List.length_append, m1]; rfl, ?_, (m3.trans x6).mut hD, ((S6.put Ds DL).mono (by omega)), upd_same, ?_⟩
        · intro p hp
          rcases List.mem_append.mp hp with hp | hp
          · exact m2 p hp
          · rw [List.mem_singleton.mp hp]
            exact g
        · refine drAt_snoc (p := (kd, m)) (by simp [ls, lL, lD]) ?_ (drAt_mono (exl_put (by simp)) (drAt_mono (exl_exs x6 (by simp) (by simp)) m6))
          rw [upd_ne lD]
          exact h6
      · rintro H4 ⟨refs, mk, m1, m2, m3, m4, m5, m6⟩
        have hml : mk.length ≤ 80 := by omega
        have T4 := tabs_exs T3 S3 m3
        have hrl : refs.length = mk.length := drAt_len m6
        have ixs : ∀ (j : Nat) (g : Str × List Nat → V) (σ' : L2.St), (∀ p : Str × List Nat, ([.str (SX.S p.2), .str p.1] : List V)[j]? = some (g p)) → ∀ (i : Nat) (x : V) (H5 : Hp), Evl.Ex H4 H5 → refs[i]? = some x → ∀ σ2 : L2.St, σ2[7]? = some (some x) → Evl.Ev (tOp (rIx K) (tVar 7) (tC (.int (j : Nat)))) σ2 H5 (((mk[i]?).map g).getD .non) := fun j g σ' hg i x H5 e5 hx σ2 hσ => by
          obtain ⟨p, ad, h1, rfl, h3⟩ := drAt_get m6 hx
          rw [h1]
          exact ev_ixL (K := K) (i := j) (Evl.ev_var hσ) Evl.ev_c (e5 _ _ h3) (hg p)
        refine q_parL (el_map (fun i => ((mk[i]?).map fun p => V.str (SX.S p.2)).getD .non) (SqL.of m5) (by omega) (Evl.ev_var rfl) (fun _ => rfl) (fun i x H5 e5 hx => ?_)) (fun H5 e5 => el_map (fun i => ((mk[i]?).map fun p => V.str p.1).getD .non) (SqL.of (e5 _ _ m5)) (by omega) (Evl.ev_var rfl) (fun _ => rfl) (fun i x H6 e6 hx => ?_)) (fun sl kl H5 H6 hsl e5 hkl e6 h5 h6 => ?_)
        · exact ixs 0 _ [] (fun _ => rfl) i x H5 e5 hx _ rfl
        · exact ixs 1 _ [] (fun _ => rfl) i x H6 (e5.trans e6) hx _ rfl
        rw [hrl, range_map] at h5 h6
        have h5 := e6 _ _ h5
        have S6 := (m4.ext e5).ext e6
        obtain ⟨slS, slL⟩ := m4.new hsl
        obtain ⟨klS, klL⟩ := (m4.ext e5).new hkl
        have T6 := (T4.ext e5).ext e6
        clear ixs m3 m4 m5 m6 S3 x3 T3 T4 T2 S2 hrl
        refine Evl.s_forR1 (n := 2) (Evl.ea_cons Evl.ev_c Evl.ea_nil) (by decide) (fun j σ' H' => (∃ y2 y3 y4 y7 y8 y9 y10 y11 y12 y13 y14 y15 : Option V, σ' = [some (.ref a), some (.ref st), y2, y3, y4, some (.ref sl), some (.ref kl), y7, y8, y9, y10, y11, y12, y13, y14, y15]) ∧ Strm H' st L (2000 * i + 300 + 500 * j) ∧ LamX.Tabs [(PT, lamq)] H' ∧ H' sl = some (.lst (mk.map fun p => V.str (SX.S p.2))) ∧ H' kl = some (.lst (mk.map fun p => V.str p.1))) (fun H7 e7 => ⟨⟨_, _, _, _, _, _, _, _, _, _, _, _, rfl⟩, (S6.ext e7).mono (by omega), T6.ext e7, e7 _ _ h5, e7 _ _ h6⟩) ?_ ?_
        · rintro j σ' H7 hj ⟨⟨y2, y3, y4, y7, y8, y9, y10, y11, y12, y13, y14, y15, rfl⟩, S7, T7, hs7, hk7⟩
          refine ⟨_, rfl, _, rfl, st, L, sl, _, mk, rfl, S7, by omega, m2, by omega, hs7, slS, slL, fun u pl t pos e vs H8 hlex htl hpl hu8 hpl8 hat fpl fu S8 x8 => ⟨u, _, rfl, Evl.st_of hu8, rfl, _, _, rfl, _, _, rfl, rfl, ?_⟩⟩
          have hs8 := x8 _ _ hs7 slS slL
          have hk8 := x8 _ _ hk7 klS klL
          have T8 := tabs_exs T7 S7 x8
          clear hs7 hk7 T7 S7 x8
          dsimp only
          refine q_asgOp ?_
          refine lc_due hk8 hs8 hpl8 hat hpl (by omega) fun Dd us H9 e9 hDd hus htr => ?_
          obtain ⟨vs', ae, rfl, hat', hae⟩ := plAt_split hat
          have hae9 := e9 _ _ hae
          have hul : us.length ≤ 80 := by
            rw [Kc.Trees.len htr, List.length_map, List.length_zipWith]
            omega
          refine ⟨_, rfl, 1, rfl, ix_l (v := .ref ae) (SqL.of (e9 _ _ hpl8)) (atI_last _ _) ⟨(by show 3 ≤ sizeLine; decide), fun M hM => ⟨(by show 1 ≤ sizeLine; decide), fun l1 hl1 => addX_lst (xs := us) (ys := [.ref M]) ((Evl.Ex.new hl1) _ _ ((Evl.Ex.new hM) _ _ hus)) upd_same (Evl.sz_of (by rw [List.length_singleton]; omega)) fun l2 hl2 => ?_⟩⟩⟩
          have eM := Evl.Ex.new (o := .tup [.str "end", .str "", .ref ae]) hM
          have el1 := Evl.Ex.new (o := .lst [.ref M]) hl1
          have el2 := Evl.Ex.new (o := .lst (us ++ [.ref M])) hl2
          have eA := ((e9.trans eM).trans el1).trans el2
          have ttz := tree_mk (K := K) (m := Mk.mkm ("end", []) e) (Evl.st_of (el2 _ _ (el1 _ _ upd_same))) (Evl.st_of (el2 _ _ (el1 _ _ (eM _ _ hae9))))
          have tall : Kc.Trees K _ (us ++ [.ref M]) _ [] := Kc.Trees.snoc (((htr.ex eM).ex el1).ex el2) ttz
          have hdp := Dp.lst (K := K) (SqL.of (upd_same (H := upd (upd H9 M (.tup [.str "end", .str "", .ref ae])) l1 (.lst [.ref M])) (a := l2) (o := .lst (us ++ [.ref M])))) (Kc.Trees.dp _ (us ++ [.ref M]) [] tall)
          have S9 := S8.ext eA
          have T9 := T8.ext eA
          have hs9 := eA _ _ hs8
          have hk9 := eA _ _ hk8
          have outE : (List.zipWith Mk.mkm mk pos).map mkD ++ [mkD (Mk.mkm ("end", []) e)] = (List.zipWith Mk.mkm mk pos ++ [Mk.mkm ("end", []) e]).map mkD := by rw [List.map_append]; rfl
          rw [outE] at hdp
          have hol : (List.zipWith Mk.mkm mk pos ++ [Mk.mkm ("end", []) e]).length < 100000 := by
            rw [List.length_append, List.length_zipWith, List.length_singleton]
            omega
          generalize List.zipWith Mk.mkm mk pos ++ [Mk.mkm ("end", []) e] = out at hlex hdp hol
          generalize (upd (upd (upd H9 M (.tup [.str "end", .str "", .ref ae])) l1 (.lst [.ref M])) l2 (.lst (us ++ [.ref M]))) = H10 at hdp S9 T9 hs9 hk9
          obtain ⟨f1, f2, f3⟩ := marks_few hol
          refine ⟨_, rfl, T9, fun H11 eN T11 => ⟨.list (out.map mkD), dp_extN eN _ _ hdp, f3, f1, f2, fun H1 a Q' q' => ⟨_, rfl, t, out, rfl, htl, hlex, fun u L H' e tr nd fr => q' u L H' e tr nd fr⟩, fun H1 a Q' q' => ⟨_, rfl, t, out, rfl, htl, hlex, fun u L H' e tr nd fr => q' u L H' e tr nd fr⟩, fun H12 e12 => ⟨true, rfl, ?_⟩⟩⟩
          refine iteF ?_
          exact ⟨⟨_, _, _, _, _, _, _, _, _, _, _, _, rfl⟩, ((strm_extN S9 eN).ext e12).mono (by omega), T11.ext e12, e12 _ _ (eN _ _ hs9 (fun _ z => by cases z)), e12 _ _ (eN _ _ hk9 (fun _ z => by cases z))⟩
        · rintro σ' H7 ⟨⟨y2, y3, y4, y7, y8, y9, y10, y11, y12, y13, y14, y15, rfl⟩, S7, T7, hs7, hk7⟩
          exact ⟨⟨_, _, _, _, _, _, _, _, _, _, _, _, _, _, rfl⟩, S7.mono (by show 2000 * i + 300 + 500 * 2 ≤ 2000 * (i + 1); omega), T7⟩
    · rintro σ' H2 ⟨h1, S2, T2⟩
      exact ⟨h1, S2.mono (by decide)⟩
  · rintro σ' H2 ⟨⟨y2, y3, y4, y5, y6, y7, y8, y9, y10, y11, y12, y13, y14, y15, rfl⟩, S2⟩
    refine Evl.q_asg Evl.ev_c (fun H3 e3 => ?_)
    refine Evl.q_asgL (el_mapR 29 (fun i => ((nearOut[i]?).map fun (m : Mk.MkT) => V.str (SX.S m.2.1)).getD .non) (fun H4 e4 Q' q' => ?_) (fun _ => rfl)) (fun l H6 hl e6 h6 => ?_)
    · refine ⟨_, rfl, _, .str _, rfl, .str _, by decide, rfl, fun u L1 H4 e4 tr nd fr => ?_⟩
      cases tr
      refine ⟨nearT, nearOut, rfl, by decide +kernel, near_lex, fun u L2 H5 e5 tr nd fr => ?_⟩
      cases tr with
      | @lst p xs _ L3 hp htr =>
        have hdp := Kc.Trees.dp _ _ _ htr
        have hlen : xs.length = 29 := by rw [dpl_len hdp, List.length_map, near_len]
        refine q' _ _ (e4.trans e5) ⟨p, xs, rfl, SqL.of hp, hlen, by decide, fun i x H6 e6 hx => ?_⟩
        obtain ⟨d, hd, hdx⟩ := dpl_get hdp hx
        rw [List.getElem?_map] at hd
        obtain ⟨m, hm, rfl⟩ := Option.map_eq_some_iff.mp hd
        rw [hm]
        cases hdx with
        | tup hs1 ha1 =>
          cases ha1 with
          | cons v1 ha1 =>
            cases ha1 with
            | cons v2 ha1 =>
              cases v2
              intro H7 e7 Q' q'
              exact ⟨_, rfl, ix_t (Evl.ex_t (e6.trans e7) hs1) (atI_nat (j := 1) rfl) (q' H7 (Evl.Ex.refl H7))⟩
    · have h6 : H6 l = some (.lst (nearS.map V.str)) := by
        rw [h6, ← near_len, range_map, near_signs]
      refine ⟨_, rfl, (by show 29 ≤ sizeLine; decide), fun z hz => ?_⟩
      have ez := Evl.Ex.new (o := .lst (nearS.map V.str)) hz
      exact ⟨_, _, .list (nearS.map PyData.str), rfl, .lst (SqL.of (ez _ _ h6)) (strs_dp nearS), .lst (SqL.of upd_same) (strs_dp nearS), by decide +kernel, by decide +kernel, fun H' _ => q H'⟩
end
theorem all_mk {l : PySem.W.OpenLaw} {w : World} {K : PySem.W.Frag} {q : Program} {loose : List Str} {mean : ExcName → Option Value} {mg mb : Str → Option Value} {h : Heap} {fa : Addr} {d : DefRec} (X : K.In h) (T : Top q loose mean mg mb h) (hfa : mg "law" = some (.ref fa))
    {f0 : Addr} {od0 an0 : Option Addr} {sl0 : Array (Option Value)} {oc0 kV0 dc0 pm0 cd0 ct0 : Value}
    {f1 : Addr} {od1 an1 : Option Addr} {sl1 : Array (Option Value)} {oc1 kV1 dc1 pm1 cd1 ct1 : Value}
    {f2 : Addr} {od2 an2 : Option Addr} {sl2 : Array (Option Value)} {oc2 kV2 dc2 pm2 cd2 ct2 : Value}
    {f3 : Addr} {od3 an3 : Option Addr} {sl3 : Array (Option Value)} {oc3 kV3 dc3 pm3 cd3 ct3 : Value}
    {f4 : Addr} {od4 an4 : Option Addr} {sl4 : Array (Option Value)} {oc4 kV4 dc4 pm4 cd4 ct4 : Value}
    {f5 : Addr} {od5 an5 : Option Addr} {sl5 : Array (Option Value)} {oc5 kV5 dc5 pm5 cd5 ct5 : Value}
    {f6 : Addr} {od6 an6 : Option Addr} {sl6 : Array (Option Value)} {oc6 kV6 dc6 pm6 cd6 ct6 : Value}
    {f7 : Addr} {od7 an7 : Option Addr} {sl7 : Array (Option Value)} {oc7 kV7 dc7 pm7 cd7 ct7 : Value}
    {f8 : Addr} {od8 an8 : Option Addr} {sl8 : Array (Option Value)} {oc8 kV8 dc8 pm8 cd8 ct8 : Value}
    {f9 : Addr} {od9 an9 : Option Addr} {sl9 : Array (Option Value)} {oc9 kV9 dc9 pm9 cd9 ct9 : Value}
    {f10 : Addr} {od10 an10 : Option Addr} {sl10 : Array (Option Value)} {oc10 kV10 dc10 pm10 cd10 ct10 : Value}
    {f11 : Addr} {od11 an11 : Option Addr} {sl11 : Array (Option Value)} {oc11 kV11 dc11 pm11 cd11 ct11 : Value}
    {f12 : Addr} {od12 an12 : Option Addr} {sl12 : Array (Option Value)} {oc12 kV12 dc12 pm12 cd12 ct12 : Value}
    {f13 : Addr} {od13 an13 : Option Addr} {sl13 : Array (Option Value)} {oc13 kV13 dc13 pm13 cd13 ct13 : Value}
    {f14 : Addr} {od14 an14 : Option Addr} {sl14 : Array (Option Value)} {oc14 kV14 dc14 pm14 cd14 ct14 : Value}
    {at_WORDS : Addr}
    {at_SIGNS : Addr}
    {t_LETTERS : Tok}
    {t_GREATS : Tok}
    {t_FIGURES : Tok}
    {t_MOST : Tok}
    (a0 : PySem.W.nsIn K mainGlobals "need_text" = some (some (.ref f0)))
    (l0 : K.lookup f0 = some ⟨oc0, od0, .func (PySem.W.fnOf "need_text" "need_text" (defArgs s_need_text) (defBody s_need_text) (defScope s_need_text) .none kV0 dc0 pm0 an0 cd0 ct0), sl0⟩)
    (c0 : PySem.W.codeIn K cd0 "need_text" = true)
    (k0 : PySem.W.keepIn K (.ref f0) = true)
    (a1 : PySem.W.nsIn K mainGlobals "end_of" = some (some (.ref f1)))
    (l1 : K.lookup f1 = some ⟨oc1, od1, .func (PySem.W.fnOf "end_of" "end_of" (defArgs s_end_of) (defBody s_end_of) (defScope s_end_of) .none kV1 dc1 pm1 an1 cd1 ct1), sl1⟩)
    (c1 : PySem.W.codeIn K cd1 "end_of" = true)
    (k1 : PySem.W.keepIn K (.ref f1) = true)
    (a2 : PySem.W.nsIn K mainGlobals "mark_at" = some (some (.ref f2)))
    (l2 : K.lookup f2 = some ⟨oc2, od2, .func (PySem.W.fnOf "mark_at" "mark_at" (defArgs s_mark_at) (defBody s_mark_at) (defScope s_mark_at) .none kV2 dc2 pm2 an2 cd2 ct2), sl2⟩)
    (c2 : PySem.W.codeIn K cd2 "mark_at" = true)
    (k2 : PySem.W.keepIn K (.ref f2) = true)
    (a3 : PySem.W.nsIn K mainGlobals "marks_by" = some (some (.ref f3)))
    (l3 : K.lookup f3 = some ⟨oc3, od3, .func (PySem.W.fnOf "marks_by" "marks_by" (defArgs s_marks_by) (defBody s_marks_by) (defScope s_marks_by) .none kV3 dc3 pm3 an3 cd3 ct3), sl3⟩)
    (c3 : PySem.W.codeIn K cd3 "marks_by" = true)
    (k3 : PySem.W.keepIn K (.ref f3) = true)
    (a4 : PySem.W.nsIn K mainGlobals "marks_of" = some (some (.ref f4)))
    (l4 : K.lookup f4 = some ⟨oc4, od4, .func (PySem.W.fnOf "marks_of" "marks_of" (defArgs s_marks_of) (defBody s_marks_of) (defScope s_marks_of) .none kV4 dc4 pm4 an4 cd4 ct4), sl4⟩)
    (c4 : PySem.W.codeIn K cd4 "marks_of" = true)
    (k4 : PySem.W.keepIn K (.ref f4) = true)
    (a5 : PySem.W.nsIn K mainGlobals "_law_stream" = some (some (.ref f5)))
    (l5 : K.lookup f5 = some ⟨oc5, od5, .func (PySem.W.fnOf "_law_stream" "_law_stream" (defArgs s__law_stream) (defBody s__law_stream) (defScope s__law_stream) .none kV5 dc5 pm5 an5 cd5 ct5), sl5⟩)
    (c5 : PySem.W.codeIn K cd5 "_law_stream" = true)
    (k5 : PySem.W.keepIn K (.ref f5) = true)
    (a6 : PySem.W.nsIn K mainGlobals "_law_draw" = some (some (.ref f6)))
    (l6 : K.lookup f6 = some ⟨oc6, od6, .func (PySem.W.fnOf "_law_draw" "_law_draw" (defArgs s__law_draw) (defBody s__law_draw) (defScope s__law_draw) .none kV6 dc6 pm6 an6 cd6 ct6), sl6⟩)
    (c6 : PySem.W.codeIn K cd6 "_law_draw" = true)
    (k6 : PySem.W.keepIn K (.ref f6) = true)
    (a7 : PySem.W.nsIn K mainGlobals "_law_pick" = some (some (.ref f7)))
    (l7 : K.lookup f7 = some ⟨oc7, od7, .func (PySem.W.fnOf "_law_pick" "_law_pick" (defArgs s__law_pick) (defBody s__law_pick) (defScope s__law_pick) .none kV7 dc7 pm7 an7 cd7 ct7), sl7⟩)
    (c7 : PySem.W.codeIn K cd7 "_law_pick" = true)
    (k7 : PySem.W.keepIn K (.ref f7) = true)
    (a8 : PySem.W.nsIn K mainGlobals "_law_same" = some (some (.ref f8)))
    (l8 : K.lookup f8 = some ⟨oc8, od8, .func (PySem.W.fnOf "_law_same" "_law_same" (defArgs s__law_same) (defBody s__law_same) (defScope s__law_same) .none kV8 dc8 pm8 an8 cd8 ct8), sl8⟩)
    (c8 : PySem.W.codeIn K cd8 "_law_same" = true)
    (k8 : PySem.W.keepIn K (.ref f8) = true)
    (a9 : PySem.W.nsIn K mainGlobals "_law_spoilt" = some (some (.ref f9)))
    (l9 : K.lookup f9 = some ⟨oc9, od9, .func (PySem.W.fnOf "_law_spoilt" "_law_spoilt" (defArgs s__law_spoilt) (defBody s__law_spoilt) (defScope s__law_spoilt) .none kV9 dc9 pm9 an9 cd9 ct9), sl9⟩)
    (c9 : PySem.W.codeIn K cd9 "_law_spoilt" = true)
    (k9 : PySem.W.keepIn K (.ref f9) = true)
    (a10 : PySem.W.nsIn K mainGlobals "_law_copied" = some (some (.ref f10)))
    (l10 : K.lookup f10 = some ⟨oc10, od10, .func (PySem.W.fnOf "_law_copied" "_law_copied" (defArgs s__law_copied) (defBody s__law_copied) (defScope s__law_copied) .none kV10 dc10 pm10 an10 cd10 ct10), sl10⟩)
    (c10 : PySem.W.codeIn K cd10 "_law_copied" = true)
    (k10 : PySem.W.keepIn K (.ref f10) = true)
    (a11 : PySem.W.nsIn K mainGlobals "_law_twice" = some (some (.ref f11)))
    (l11 : K.lookup f11 = some ⟨oc11, od11, .func (PySem.W.fnOf "_law_twice" "_law_twice" (defArgs s__law_twice) (defBody s__law_twice) (defScope s__law_twice) .none kV11 dc11 pm11 an11 cd11 ct11), sl11⟩)
    (c11 : PySem.W.codeIn K cd11 "_law_twice" = true)
    (k11 : PySem.W.keepIn K (.ref f11) = true)
    (a12 : PySem.W.nsIn K mainGlobals "_law_t_laid" = some (some (.ref f12)))
    (l12 : K.lookup f12 = some ⟨oc12, od12, .func (PySem.W.fnOf "_law_t_laid" "_law_t_laid" (defArgs s__law_t_laid) (defBody s__law_t_laid) (defScope s__law_t_laid) .none kV12 dc12 pm12 an12 cd12 ct12), sl12⟩)
    (c12 : PySem.W.codeIn K cd12 "_law_t_laid" = true)
    (k12 : PySem.W.keepIn K (.ref f12) = true)
    (a13 : PySem.W.nsIn K mainGlobals "_law_drawn" = some (some (.ref f13)))
    (l13 : K.lookup f13 = some ⟨oc13, od13, .func (PySem.W.fnOf "_law_drawn" "_law_drawn" (defArgs s__law_drawn) (defBody s__law_drawn) (defScope s__law_drawn) .none kV13 dc13 pm13 an13 cd13 ct13), sl13⟩)
    (c13 : PySem.W.codeIn K cd13 "_law_drawn" = true)
    (k13 : PySem.W.keepIn K (.ref f13) = true)
    (a14 : PySem.W.nsIn K mainGlobals "law" = some (some (.ref f14)))
    (l14 : K.lookup f14 = some ⟨oc14, od14, .func (PySem.W.fnOf "law" "law" (defArgs s_law) (defBody s_law) (defScope s_law) .none kV14 dc14 pm14 an14 cd14 ct14), sl14⟩)
    (c14 : PySem.W.codeIn K cd14 "law" = true)
    (k14 : PySem.W.keepIn K (.ref f14) = true)
    (g_WORDS : PySem.W.nsIn K mainGlobals "WORDS" = some (some (.ref at_WORDS)))
    (h_WORDS : tupStrsIn K at_WORDS Mk.wordsS = true)
    (g_SIGNS : PySem.W.nsIn K mainGlobals "SIGNS" = some (some (.ref at_SIGNS)))
    (h_SIGNS : tupStrsIn K at_SIGNS Mk.signsS = true)
    (g_LETTERS : PySem.W.nsIn K mainGlobals "LETTERS" = some (some (.str "abcdefghijklmnopqrstuvwxyz" t_LETTERS)))
    (g_GREATS : PySem.W.nsIn K mainGlobals "GREATS" = some (some (.str "ABCDEFGHIJKLMNOPQRSTUVWXYZ" t_GREATS)))
    (g_FIGURES : PySem.W.nsIn K mainGlobals "FIGURES" = some (some (.str "0123456789" t_FIGURES)))
    (g_MOST : PySem.W.nsIn K mainGlobals "MOST" = some (some (.int 2147483647 t_MOST)))
    (zB : biNames.all (freeIn K) = true)
    (zR : (PyProof.Rows.recsOf q).find? (fun e => e.name == ("law" : Str)) = some d)
    (zT : (PySem.W.tabIn K "law").isSome = true)
    (zC : cd14 = .ref (tabP K "law").1)
    (zN : (K.lookup (tabP K "law").2).isNone = true)
    : LamX.LawAtS l w K CX0 7 63 "script" mg fa h := by
  subst zC
  have e := hfa.symm.trans (PySem.W.mg_of X T.g a14)
  cases e
  have tab := PySem.W.tab_of T X zR (tabP_of zT)
  have b := bi_mk X T.g zB
  have D_need_text : Dfn K mg "need_text" s_need_text ["text"] := dfn_mk X T.g a0 l0 c0 k0 (fun _ _ _ _ _ _ us hl => match us, hl with | [_], _ => rfl)
  have D_end_of : Dfn K mg "end_of" s_end_of ["text", "at", "is_word"] := dfn_mk X T.g a1 l1 c1 k1 (fun _ _ _ _ _ _ us hl => match us, hl with | [_, _, _], _ => rfl)
  have D_mark_at : Dfn K mg "mark_at" s_mark_at ["text", "at"] := dfn_mk X T.g a2 l2 c2 k2 (fun _ _ _ _ _ _ us hl => match us, hl with | [_, _], _ => rfl)
  have D_marks_by : Dfn K mg "marks_by" s_marks_by ["text"] := dfn_mk X T.g a3 l3 c3 k3 (fun _ _ _ _ _ _ us hl => match us, hl with | [_], _ => rfl)
  have D_marks_of : DfnK K mg "marks_of" s_marks_of ["text"] := dfnK_mk X T.g a4 l4 c4 k4 (fun _ _ _ _ _ _ us hl => match us, hl with | [_], _ => rfl) (fun _ _ _ _ _ _ us hl => match us, hl with | [_], _ => rfl)
  have D__law_stream : Dfn K mg "_law_stream" s__law_stream ["script"] := dfn_mk X T.g a5 l5 c5 k5 (fun _ _ _ _ _ _ us hl => match us, hl with | [_], _ => rfl)
  have D__law_draw : Dfn K mg "_law_draw" s__law_draw ["stream", "many"] := dfn_mk X T.g a6 l6 c6 k6 (fun _ _ _ _ _ _ us hl => match us, hl with | [_, _], _ => rfl)
  have D__law_pick : Dfn K mg "_law_pick" s__law_pick ["stream", "things"] := dfn_mk X T.g a7 l7 c7 k7 (fun _ _ _ _ _ _ us hl => match us, hl with | [_, _], _ => rfl)
  have D__law_same : Dfn K mg "_law_same" s__law_same ["found", "due"] := dfn_mk X T.g a8 l8 c8 k8 (fun _ _ _ _ _ _ us hl => match us, hl with | [_, _], _ => rfl)
  have D__law_spoilt : Dfn K mg "_law_spoilt" s__law_spoilt ["thing"] := dfn_mk X T.g a9 l9 c9 k9 (fun _ _ _ _ _ _ us hl => match us, hl with | [_], _ => rfl)
  have D__law_copied : Dfn K mg "_law_copied" s__law_copied ["thing"] := dfn_mk X T.g a10 l10 c10 k10 (fun _ _ _ _ _ _ us hl => match us, hl with | [_], _ => rfl)
  have D__law_twice : Dfn K mg "_law_twice" s__law_twice ["due", "first", "other"] := dfn_mk X T.g a11 l11 c11 k11 (fun _ _ _ _ _ _ us hl => match us, hl with | [_, _, _], _ => rfl)
  have D__law_t_laid : Dfn K mg "_law_t_laid" s__law_t_laid ["stream", "marks"] := dfn_mk X T.g a12 l12 c12 k12 (fun _ _ _ _ _ _ us hl => match us, hl with | [_, _], _ => rfl)
  have D__law_drawn : Dfn K mg "_law_drawn" s__law_drawn ["stream"] := dfn_mk X T.g a13 l13 c13 k13 (fun _ _ _ _ _ _ us hl => match us, hl with | [_], _ => rfl)
  have g : GM K mg at_WORDS at_SIGNS := ⟨⟨_, PySem.W.mg_of X T.g g_WORDS, rfl⟩, tupStrs_ok h_WORDS, ⟨_, PySem.W.mg_of X T.g g_SIGNS, rfl⟩, tupStrs_ok h_SIGNS, ⟨_, PySem.W.mg_of X T.g g_LETTERS, ⟨_, rfl⟩⟩, ⟨_, PySem.W.mg_of X T.g g_GREATS, ⟨_, rfl⟩⟩, ⟨_, PySem.W.mg_of X T.g g_FIGURES, ⟨_, rfl⟩⟩, ⟨_, PySem.W.mg_of X T.g g_MOST, ⟨_, rfl⟩⟩⟩
  refine ⟨PySem.W.fnOf "law" "law" (defArgs s_law) (defBody s_law) (defScope s_law) .none kV14 dc14 pm14 an14 (.ref (tabP K "law").1) ct14, [((tabP K "law").1, (tabP K "law").2)], spLaw K (tabP K "law").2, ?_, ?_, ?_, fun s v => .of_eq rfl, ?_, ?_⟩
  · intro p hp
    rw [List.mem_singleton.mp hp]
    exact tab.2
  · intro p hp
    rw [List.mem_singleton.mp hp]
    exact Option.isNone_iff_eq_none.mp zN
  · intro p hp
    rw [List.mem_singleton.mp hp]
    exact tab.1
  · intro H a ns hl hb hT hS
    exact ⟨a, ns, rfl, hS, hl, hT _ (List.mem_singleton.mpr rfl), fun _ => rfl⟩
  · intro base KB GB hTB
    have TB := hTB _ (List.mem_singleton.mpr rfl)
    have c1 := cal_need_text (P := l.prog) (w := w) (base := base) b D_need_text
    have c2 := cal_end_of (P := l.prog) (w := w) (base := base) b g D_end_of
    have c3 := cal_mark_at b g c2 D_mark_at
    have c4 := cal_marks_by b c3 D_marks_by
    obtain ⟨c5, ck5⟩ := cal_marks_of b c1 c4 D_marks_of
    have s1 := cal__law_stream (P := l.prog) (w := w) (base := base) b D__law_stream
    have s2 := cal__law_draw (P := l.prog) (w := w) (base := base) b D__law_draw
    have s3 := cal__law_pick b D__law_pick s2
    have s4 := cal__law_drawn b s2 s3 D__law_drawn
    have s5 := cal__law_t_laid b s2 s3 D__law_t_laid
    exact ok_law l14 c14 b TB s1 s2 s4 s5 (cal__law_copied b D__law_copied 4) (cal__law_same b D__law_same 5) (cal__law_spoilt b D__law_spoilt 4) D__law_twice c5 ck5
end K00
open PySem PySem.W PyProof.Rows in
set_option maxRecDepth 100000 in
set_option maxHeartbeats 0 in
theorem PySem.Challenge.cw_kindcopies_k00_marks_of_all_sorts_in_all_holds : PySem.Challenge.rw_kindcopies_k00_marks_of_all_sorts_in_all.Holds := by
  w_on; o_law; k_head; (case hw => w_witness2)
  k_fill
  refine Kc.walk_lam (l := PySem.Challenge.rw_kindcopies_k00_marks_of_all_sorts_in_all) (n := 63) (k := 7) (x := "script") (CX := fun _ => L2.CX0) rfl (by decide) rfl ⟨rfl, by decide, by decide⟩ (fun w h Y => PySem.W.km_in_of Y) ?F (fun _ _ _ _ _ z => z)
  case F =>
    intro w mean mg mb fa h Y KX T hmg
    refine' K00.all_mk KX T hmg ?a0 ?l0 ?c0 ?k0 ?a1 ?l1 ?c1 ?k1 ?a2 ?l2 ?c2 ?k2 ?a3 ?l3 ?c3 ?k3 ?a4 ?l4 ?c4 ?k4 ?a5 ?l5 ?c5 ?k5 ?a6 ?l6 ?c6 ?k6 ?a7 ?l7 ?c7 ?k7 ?a8 ?l8 ?c8 ?k8 ?a9 ?l9 ?c9 ?k9 ?a10 ?l10 ?c10 ?k10 ?a11 ?l11 ?c11 ?k11 ?a12 ?l12 ?c12 ?k12 ?a13 ?l13 ?c13 ?k13 ?a14 ?l14 ?c14 ?k14 ?g_WORDS ?h_WORDS ?g_SIGNS ?h_SIGNS ?g_LETTERS ?g_GREATS ?g_FIGURES ?g_MOST ?zB ?zR ?zT ?zC ?zN
    (case a0 => k_is)
    (case l0 => k_is)
    (case c0 => k_is)
    (case k0 => k_is)
    (case a1 => k_is)
    (case l1 => k_is)
    (case c1 => k_is)
    (case k1 => k_is)
    (case a2 => k_is)
    (case l2 => k_is)
    (case c2 => k_is)
    (case k2 => k_is)
    (case a3 => k_is)
    (case l3 => k_is)
    (case c3 => k_is)
    (case k3 => k_is)
    (case a4 => k_is)
    (case l4 => k_is)
    (case c4 => k_is)
    (case k4 => k_is)
    (case a5 => k_is)
    (case l5 => k_is)
    (case c5 => k_is)
    (case k5 => k_is)
    (case a6 => k_is)
    (case l6 => k_is)
    (case c6 => k_is)
    (case k6 => k_is)
    (case a7 => k_is)
    (case l7 => k_is)
    (case c7 => k_is)
    (case k7 => k_is)
    (case a8 => k_is)
    (case l8 => k_is)
    (case c8 => k_is)
    (case k8 => k_is)
    (case a9 => k_is)
    (case l9 => k_is)
    (case c9 => k_is)
    (case k9 => k_is)
    (case a10 => k_is)
    (case l10 => k_is)
    (case c10 => k_is)
    (case k10 => k_is)
    (case a11 => k_is)
    (case l11 => k_is)
    (case c11 => k_is)
    (case k11 => k_is)
    (case a12 => k_is)
    (case l12 => k_is)
    (case c12 => k_is)
    (case k12 => k_is)
    (case a13 => k_is)
    (case l13 => k_is)
    (case c13 => k_is)
    (case k13 => k_is)
    (case a14 => k_is)
    (case l14 => k_is)
    (case c14 => k_is)
    (case k14 => k_is)
    (case g_WORDS => k_is)
    (case h_WORDS => kernel_rfl)
    (case g_SIGNS => k_is)
    (case h_SIGNS => kernel_rfl)
    (case g_LETTERS => k_is)
    (case g_GREATS => k_is)
    (case g_FIGURES => k_is)
    (case g_MOST => k_is)
    (case zB => kernel_rfl)
    (case zR => rfl)
    (case zT => kernel_rfl)
    (case zC => kernel_rfl)
    (case zN => kernel_rfl)
